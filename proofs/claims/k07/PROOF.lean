import PyProof.Rows.All
import Wide.All
import OpenK.AllK
import Wide.FinOn
import PyProof.EqLayable
import PySem.Float64
import KE.LtData
import KE.DataMinMax
import HandS.ForExc
import HandS.Comp
import HandS.Iter
import HandS.Lambda
import HandS.IsInst
import HandS.Gcd
import HandS.TryMany
import HandS.ExcField
import HandS.CallSlots
import HandS.EndTab
import HandS.TupMul
import KE.DataCmp
import HandS.WideBits
import HandS.TupAny
import KE.KMathG
import KE.SortData
import HandS.SortKw
import HandS.Zip
import HandS.NoneIn
import KE.GoesComp
import HandS.SetFor
import HandS.TupSets
import HandS.Strs
import HandS.SetBool
import KE.GoesMore
import KE.GoesEnum
import KE.GoesZip
import HandS.Rev
import HandS.RevRange
import HandS.Conv
import HandS.Style
import HandS.HeadHook4
import HandS.HeadWalk
import HandS.Head0
import HandS.Head1
import HandS.Head2
import HandS.HeadEnd
import HandS.Head3
import PyProof.TableCode
import PySem.Challenge.RW_sweepwright_k07_whole_calls
set_option Elab.async false
set_option linter.all false
section
namespace Sw
open PySem (PyData Str)
abbrev D := PyData
/-- a value: plain data, or a list that nobody else holds -/
inductive VT where
  | pl (d : D) | fr (ds : List D)
def VT.d : VT → D
  | .pl d => d
  | .fr ds => .list ds
structure Exn where
  nm : Str
  d : D
inductive Slot where
  | em | pl (d : D) | ow (ds : List D) | io (ds : List D)
abbrev Env := List Slot
inductive Out (α : Type) where
  | ok (a : α) (ρ : Env) | er (x : Exn) (ρ : Env) | no
def Out.bind {α β : Type} : Out α → (α → Env → Out β) → Out β
  | .ok a ρ, f => f a ρ
  | .er x ρ, _ => .er x ρ
  | .no, _ => .no
inductive Ar where
  | pl (d : D) | io (ds : List D)
inductive Ret where
  | ok (v : VT) (outs : List (List D)) | er (x : Exn) (outs : List (List D)) | no
inductive Bo where
  | add | sub | mul | fdiv | mod | pow | shl | shr | band | bor | bxor
  deriving DecidableEq
inductive Co where
  | eq | ne | lt | le | gt | ge | isn | notn | inn | nin
  deriving DecidableEq
inductive Ty where
  | int | bool | str | list | tuple
  deriving DecidableEq
inductive Bf where
  | len | tuple | list | int | min | max | abs | sum | all | any | sorted | isqrt | gcd | divmod | isi (t : Ty) | isis (ts : List Ty)
  deriving DecidableEq
inductive Tg where
  | nm (i : Nat) | tp (ts : Tg) | nl | cs (t ts : Tg)
inductive Tm where
  | var (i : Nat) | mov (i : Nat) | bor (i : Nat) | cst (d : D) | glb (x : Str) (d : D)
  | bin (o : Bo) (a b : Tm) | neg (a : Tm) | not (a : Tm) | cmp (o : Co) (a b : Tm) | chn (o o' : Co) (a b c : Tm)
  | and (a b : Tm) | or (a b : Tm) | ite (c a b : Tm)
  | tup (es : Tm) | lst (es : Tm) | nl | cs (e es : Tm) | io (i : Nat) (es : Tm)
  | idx (a b : Tm) | sli (a lo hi : Tm) | cal (f : Nat) (es : Tm) | blt (f : Bf) (es : Tm)
  | lcp (own : List Nat) (tg : Tg) (it c e : Tm)
  | lcn (own : List Nat) (tg : Tg) (it c e : Tm)
  | rng (es : Tm) | enu (a : Tm) | zip (a b : Tm)
  | tol (e : Tm)
  | lset (a : Tm) | idn (a b : Tm)
  | sset (own : List Nat) (tg : Tg) (it c e : Tm)
  | rev (a : Tm) | revr (a : Tm) | lrev (a : Tm) | lrng (a : Tm) | trng (a : Tm) | mnd (a : Tm) | pop (i : Nat) | rvl (a : Tm)
inductive Sm where
  | nop | seq (a b : Sm) | set (i : Nat) (e : Tm) | own (i : Nat) (e : Tm) | unp (tg : Tg) (e : Tm) | exp (e : Tm)
  | app (i : Nat) (e : Tm) | sti (i : Nat) (k e : Tm) | aug (i : Nat) (o : Bo) (e : Tm)
  | ret (e : Tm) | retn | ite (c : Tm) (a b : Sm) | forr (tg : Tg) (it : Tm) (b : Sm) | whl (c : Tm) (b : Sm)
  | brk | cnt | rais (nm : Str) (e : Tm)
  | agi (i : Nat) (k : Tm) (o : Bo) (e : Tm)
  | ext (i : Nat) (e : Tm) | rvs (i : Nat)

def SZ : Nat := 16777216
def tru : D → Option Bool
  | .none => some false
  | .bool b => some b
  | .int i => some (i != 0)
  | .str s => if s.length ≤ SZ then some (s.length != 0) else none
  | .list l => some (!l.isEmpty)
  | .tuple l => some (!l.isEmpty)
  | .dict _ => none
def mulOk (i j : Int) : Bool := (decide (-(2 ^ 64) < i) && decide (i < 2 ^ 64)) || (decide (-(2 ^ 64) < j) && decide (j < 2 ^ 64))
def bop : Bo → D → D → Option VT
  | .add, .int i, .int j => some (.pl (.int (i + j)))
  | .sub, .int i, .int j => some (.pl (.int (i - j)))
  | .mul, .int i, .int j => if mulOk i j then some (.pl (.int (i * j))) else none
  | .fdiv, .int i, .int j => if j ≠ 0 ∧ j.natAbs < 1073741824 then some (.pl (.int (i.fdiv j))) else none
  | .mod, .int i, .int j => if j ≠ 0 then some (.pl (.int (i.fmod j))) else none
  | .pow, .int i, .int j => if 0 ≤ j ∧ j ≤ 1000000 ∧ i.natAbs < 2 ^ 64 then some (.pl (.int (i ^ j.toNat))) else none
  | .shl, .int i, .int j => if 0 ≤ j ∧ j ≤ 1000000 ∧ i.natAbs < 2 ^ 64 then some (.pl (.int (i * 2 ^ j.toNat))) else none
  | .shr, .int i, .int j => if 0 ≤ j then some (.pl (.int (i / 2 ^ j.toNat))) else none
  | .band, .int i, .int j => some (.pl (.int (PySem.Builtin.bitAnd i j)))
  | .bor, .int i, .int j => some (.pl (.int (PySem.Builtin.bitOr i j)))
  | .bxor, .int i, .int j => some (.pl (.int (PySem.Builtin.bitXor i j)))
  | .add, .tuple xs, .tuple ys => if xs.length + ys.length ≤ SZ then some (.pl (.tuple (xs ++ ys))) else none
  | .mul, .tuple xs, .int k => if xs ≠ [] ∧ 2 ≤ k ∧ k ≤ 1000 ∧ xs.length ≤ 1000 then some (.pl (.tuple (List.replicate k.toNat xs).flatten)) else none
  | .add, .list xs, .list ys => if xs.length + ys.length ≤ SZ then some (.fr (xs ++ ys)) else none
  | .mul, .list xs, .int k => if -(2 ^ 63) ≤ k ∧ k < 2 ^ 63 ∧ xs.length * k.toNat ≤ SZ then some (.fr (List.replicate k.toNat xs).flatten) else none
  | _, _, _ => none
/-- flat: None, a bool, an int, a text -/
def flat : D → Bool
  | .none => true | .bool _ => true | .int _ => true | .str _ => true
  | _ => false
def inD (x : D) (l : List D) : Bool := l.any fun y => PyData.eqv y x
def intsD : List D → Option (List Int)
  | [] => some []
  | .int i :: r => (intsD r).map fun l => i :: l
  | _ :: _ => none
/-- the order of tuples of ints -/
def lexI : List Int → List Int → Bool
  | [], [] => false
  | [], _ :: _ => true
  | _ :: _, [] => false
  | x :: xs, y :: ys => if x = y then lexI xs ys else decide (x < y)
def lexD (xs ys : List D) : Option Bool :=
  match intsD xs, intsD ys with
  | some a, some b => some (lexI a b)
  | _, _ => none
def isNone : D → Bool
  | .none => true
  | _ => false
def inF : D → D → Option Bool
  | d, .list l => if flat d && l.all flat then some (inD d l) else none
  | d, .tuple l => if flat d && l.all flat then some (inD d l) else none
  | _, _ => none
/-- .. in rows of deeper data -/
def inP : D → D → Option Bool
  | d, .list l => if PySem.SeqAt.shaped d && PySem.SeqAt.shaped (.list l) then some (inD d l) else none
  | d, .tuple l => if PySem.SeqAt.shaped d && PySem.SeqAt.shaped (.tuple l) then some (inD d l) else none
  | _, _ => none
/-- data of one shape, that can be ordered -/
def ordE (x y : D) : Bool := PySem.W.alike x y && (decide (x.depth ≤ 50) && decide (y.depth ≤ 50))
def ltE (x y : D) : Option Bool := if ordE x y then some (PySem.W.dataLt x y) else none
def gtE (x y : D) : Option Bool := if ordE x y then some (PySem.W.dataLt y x) else none
def leE (x y : D) : Option Bool := if ordE x y then some (!PySem.W.dataLt y x) else none
def geE (x y : D) : Option Bool := if ordE x y then some (!PySem.W.dataLt x y) else none
def cop : Co → D → D → Option Bool
  | .eq, d, e => if PySem.SeqAt.shaped d && PySem.SeqAt.shaped e then some (PyData.eqv d e) else none
  | .ne, d, e => if PySem.SeqAt.shaped d && PySem.SeqAt.shaped e then some (!PyData.eqv d e) else none
  | .lt, .int i, .int j => some (decide (i < j))
  | .le, .int i, .int j => some (decide (i ≤ j))
  | .gt, .int i, .int j => some (decide (j < i))
  | .ge, .int i, .int j => some (decide (j ≤ i))
  | .lt, .tuple xs, .tuple ys => (lexD xs ys).or (ltE (.tuple xs) (.tuple ys))
  | .gt, .tuple xs, .tuple ys => gtE (.tuple xs) (.tuple ys)
  | .le, .tuple xs, .tuple ys => leE (.tuple xs) (.tuple ys)
  | .ge, .tuple xs, .tuple ys => geE (.tuple xs) (.tuple ys)
  | .lt, .list xs, .list ys => ltE (.list xs) (.list ys)
  | .gt, .list xs, .list ys => gtE (.list xs) (.list ys)
  | .le, .list xs, .list ys => leE (.list xs) (.list ys)
  | .ge, .list xs, .list ys => geE (.list xs) (.list ys)
  | .lt, .str xs, .str ys => ltE (.str xs) (.str ys)
  | .gt, .str xs, .str ys => gtE (.str xs) (.str ys)
  | .le, .str xs, .str ys => leE (.str xs) (.str ys)
  | .ge, .str xs, .str ys => geE (.str xs) (.str ys)
  | .isn, d, .none => some (isNone d)
  | .notn, d, .none => some (!isNone d)
  | .inn, d, e => (inF d e).or (inP d e)
  | .nin, d, e => ((inF d e).or (inP d e)).map fun b => !b
  | _, _, _ => none
def ixN (n : Nat) (i : Int) : Option Nat := if 0 ≤ i then (if i < n then some i.toNat else none) else if -(n : Int) ≤ i then some (i + n).toNat else none
def atI {α : Type} (xs : List α) (i : Int) : Option α := (ixN xs.length i).bind fun j => xs[j]?
def ixD : D → D → Option D
  | .list l, .int i => atI l i
  | .tuple l, .int i => atI l i
  | .str s, .int i => if s.length ≤ SZ then (atI s.cps.toList i).map fun c => .str ⟨#[c]⟩ else none
  | _, _ => none
def sIx (n d : Nat) : Option Int → Nat
  | none => d
  | some i => if i < 0 then (i + n).toNat else min i.toNat n
def cut {α : Type} (xs : List α) (lo hi : Option Int) : List α := (xs.drop (sIx xs.length 0 lo)).take (sIx xs.length xs.length hi - sIx xs.length 0 lo)
def optI : D → Option (Option Int)
  | .int i => some (some i)
  | _ => none
def sliD (d : D) (lo hi : Option Int) : Option VT :=
  match d with
  | .list l => some (.fr (cut l lo hi))
  | .tuple l => some (.pl (.tuple (cut l lo hi)))
  | _ => none
def boolsD : List D → Option (List Bool)
  | [] => some []
  | .bool i :: r => (boolsD r).map fun l => i :: l
  | _ :: _ => none
def isTy : Ty → D → Bool
  | .int, .int _ => true
  | .int, .bool _ => true
  | .bool, .bool _ => true
  | .str, .str _ => true
  | .list, .list _ => true
  | .tuple, .tuple _ => true
  | _, _ => false
def least : Int → List Int → Int
  | m, [] => m
  | m, x :: r => least (if x < m then x else m) r
def greatest : Int → List Int → Int
  | m, [] => m
  | m, x :: r => greatest (if m < x then x else m) r
def lenF : List D → Option VT
  | [.list l] => some (.pl (.int l.length))
  | [.tuple l] => some (.pl (.int l.length))
  | [.str s] => if s.length ≤ SZ then some (.pl (.int s.length)) else none
  | _ => none
def tupF : List D → Option VT
  | [.list l] => some (.pl (.tuple l))
  | [.tuple l] => some (.pl (.tuple l))
  | _ => none
def lisF : List D → Option VT
  | [.list l] => some (.fr l)
  | [.tuple l] => some (.fr l)
  | _ => none
def intF : List D → Option VT
  | [.int i] => some (.pl (.int i))
  | _ => none
/-- alike data, none of it None, not deep -/
def cmpL (l : List D) : Bool := l.all (fun x => l.all fun y => PySem.W.alike x y) && (l.all (fun x => !isNone x) && decide (PyData.depthAll l ≤ 50))
def minDF : List D → Option VT
  | x :: r => if cmpL (x :: r) then some (.pl (PySem.W.minD x r)) else none
  | [] => none
def mndV : D → Option VT
  | .list [] => some (.pl .none)
  | .list l => minDF l
  | _ => none
def minF : List D → Option VT
  | [.int i, .int j] => some (.pl (.int (if j < i then j else i)))
  | [.list (.int i :: r)] => (intsD r).map fun l => .pl (.int (least i l))
  | [.tuple (.int i :: r)] => (intsD r).map fun l => .pl (.int (least i l))
  | [.list l] => minDF l
  | _ => none
def maxF : List D → Option VT
  | [.int i, .int j] => some (.pl (.int (if j > i then j else i)))
  | [.list (.int i :: r)] => (intsD r).map fun l => .pl (.int (greatest i l))
  | [.tuple (.int i :: r)] => (intsD r).map fun l => .pl (.int (greatest i l))
  | _ => none
def absF : List D → Option VT
  | [.int i] => some (.pl (.int (if i < 0 then -i else i)))
  | _ => none
def sumF : List D → Option VT
  | [.list l] => (intsD l).map fun l => .pl (.int l.sum)
  | _ => none
def allF : List D → Option VT
  | [.list l] => (boolsD l).map fun l => .pl (.bool (l.all id))
  | _ => none
def anyF : List D → Option VT
  | [.list l] => (boolsD l).map fun l => .pl (.bool (l.any id))
  | _ => none
def isqF : List D → Option VT
  | [.int i] => if 0 ≤ i ∧ i < 2 ^ 64 then some (.pl (.int ((PySem.Float64.isqrt i.toNat : Nat) : Int))) else none
  | _ => none
def gcdF : List D → Option VT
  | [.int i, .int j] => some (.pl (.int ((Nat.gcd i.natAbs j.natAbs : Nat) : Int)))
  | _ => none
def dvmF : List D → Option VT
  | [.int i, .int j] => if 0 < j ∧ j < 1073741824 then some (.pl (.tuple [.int (i / j), .int (i % j)])) else none
  | _ => none
/-- rows of tuples of ints -/
def rowsI : List D → Option (List (List Int))
  | [] => some []
  | .tuple l :: r => match intsD l, rowsI r with
    | some x, some y => some (x :: y)
    | _, _ => none
  | _ :: _ => none
def nub {α : Type} [DecidableEq α] : List α → List α
  | [] => []
  | x :: r => if x ∈ r then nub r else x :: nub r
/-- len(set(..)) of a tuple of ints or of tuples of ints -/
def lsetV : D → Option VT
  | .tuple l => if l.length < 64 then (match intsD l with
    | some ns => some (.pl (.int (nub ns).length))
    | none => (rowsI l).map fun rs => .pl (.int (nub rs).length)) else none
  | _ => none
def insU (x : Int) : List Int → List Int
  | [] => [x]
  | y :: r => if x ≤ y then x :: y :: r else y :: insU x r
def sortU : List Int → List Int
  | [] => []
  | x :: r => insU x (sortU r)
/-- the rising list of a list's unlike ints -/
def ssetV : D → Option VT
  | .list l => if l.length < 64 then (intsD l).map fun ns => .fr ((sortU (nub ns)).map .int) else none
  | _ => none
def lisD : D → Option (List D)
  | .list l => some l
  | _ => none
def intsFrom (lo : Int) : Nat → List D
  | 0 => []
  | n + 1 => .int lo :: intsFrom (lo + 1) n
def ok62 (i : Int) : Bool := decide (-(2 ^ 62) ≤ i) && decide (i < 2 ^ 62)
/-- the ints below n -/
def rngN : D → Option (List D)
  | .int j => if ok62 j && decide (j.toNat ≤ SZ) then some (intsFrom 0 j.toNat) else none
  | _ => none
/-- the last item goes -/
def popD (ds : List D) : Option D := ds.getLast?
/-- a.index(b) -/
def idxD (l : List D) (e : D) : Option D :=
  if flat e && l.all flat && decide (l.length < SZ) then (l.findIdx? fun y => PyData.eqv y e).map fun k => .int k else none
def isDict : D → Bool
  | .dict _ => true
  | _ => false
def isiF (ts : List Ty) : List D → Option VT
  | [d] => if isDict d then none else some (.pl (.bool (ts.any fun t => isTy t d)))
  | _ => none
def leD (x y : D) : Bool := !PySem.W.dataLt y x
def insD (x : D) : List D → List D
  | [] => [x]
  | y :: r => if leD x y then x :: y :: r else y :: insD x r
def sortD : List D → List D
  | [] => []
  | x :: r => insD x (sortD r)
def alikeL (l : List D) : Bool := (intsD l).isSome || l.all fun x => l.all fun y => PySem.W.alike x y
def sortableL (l : List D) : Bool := (l.all fun d => match d with
  | .tuple (_ :: _) => true
  | _ => false) || l.all fun d => match d with
  | .none => false
  | .tuple _ => false
  | _ => true
def sorF : List D → Option VT
  | [.list l] => if alikeL l && sortableL l && decide (PyData.depthAll l ≤ 50) then some (.fr (sortD l)) else none
  | _ => none
/-- a text of one sign -/
def bfn : Bf → List D → Option VT
  | .len => lenF | .tuple => tupF | .list => lisF | .int => intF | .min => minF | .max => maxF | .abs => absF | .sum => sumF | .all => allF | .any => anyF
  | .isqrt => isqF | .gcd => gcdF | .divmod => dvmF | .isi t => isiF [t] | .isis ts => isiF ts
  | .sorted => sorF
def rdVar (i : Nat) (ρ : Env) : Out VT :=
  match ρ[i]? with
  | some (.pl d) => .ok (.pl d) ρ
  | some (.ow ds) => .ok (.pl (.list ds)) (ρ.set i (.pl (.list ds)))
  | _ => .no
def mvVar (i : Nat) (ρ : Env) : Out VT :=
  match ρ[i]? with
  | some (.pl d) => .ok (.pl d) ρ
  | some (.ow ds) => .ok (.fr ds) (ρ.set i .em)
  | _ => .no
def popV (i : Nat) (ρ : Env) : Out VT :=
  match ρ[i]? with
  | some (.ow ds) => (match ds.getLast? with
    | some d => .ok (.pl d) (ρ.set i (.ow ds.dropLast))
    | none => .no)
  | some (.io ds) => (match ds.getLast? with
    | some d => .ok (.pl d) (ρ.set i (.io ds.dropLast))
    | none => .no)
  | _ => .no
inductive Qv where
  | d (d : D) | b (i : Nat) | io (i : Nat)
def rsv (ρ : Env) : Qv → Option D
  | .d d => some d
  | .b i => match ρ[i]? with
    | some (.pl d) => some d
    | some (.ow ds) => some (.list ds)
    | some (.io ds) => some (.list ds)
    | _ => none
  | .io _ => none
def opd (t : Tm) (e : Env → Out VT) (ρ : Env) : Out Qv :=
  match t with
  | .bor i => match rsv ρ (.b i) with
    | some _ => .ok (.b i) ρ
    | none => .no
  | _ => (e ρ).bind fun v ρ => .ok (.d v.d) ρ
def ret? (o : Option VT) (ρ : Env) : Out VT :=
  match o with
  | some v => .ok v ρ
  | none => .no
def rsvs (ρ : Env) : List Qv → Option (List D)
  | [] => some []
  | q :: r => match rsv ρ q, rsvs ρ r with
    | some d, some l => some (d :: l)
    | _, _ => none
def opt? {α : Type} (o : Option α) (ρ : Env) : Out α :=
  match o with
  | some a => .ok a ρ
  | none => .no
def set1 (i : Nat) (s : Slot) (ρ : Env) : Option Env :=
  match ρ[i]? with
  | some (.io _) => none
  | some _ => some (ρ.set i s)
  | none => none
def asg : Tg → D → Env → Option Env
  | .nm i, d, ρ => set1 i (.pl d) ρ
  | .tp ts, .tuple l, ρ => asgs ts l ρ
  | .tp ts, .list l, ρ => asgs ts l ρ
  | _, _, _ => none
where asgs : Tg → List D → Env → Option Env
  | .nl, [], ρ => some ρ
  | .cs t ts, d :: l, ρ => (asg t d ρ).bind fun ρ => asgs ts l ρ
  | _, _, _ => none
def wipeE : List Nat → Env → Option Env
  | [], ρ => some ρ
  | v :: vs, ρ => (wipeE vs ρ).bind fun ρ' => match ρ[v]? with
    | some .em => some (ρ'.set v .em)
    | some (.pl _) => some (ρ'.set v .em)
    | _ => none
def wiped (ρ : Env) : List Nat → Env
  | [] => ρ
  | v :: vs => (wiped ρ vs).set v .em
def restore (ρ₀ : Env) : List Nat → Env → Env
  | [], ρ => ρ
  | v :: vs, ρ => (restore ρ₀ vs ρ).set v ((ρ₀[v]?).getD .em)
def tgLen : Tg → Nat
  | .cs _ ts => tgLen ts + 1
  | _ => 0
/-- items walked for a list comprehension: what is kept so far, then the turn -/
def lcLoop (turn : D → Env → Out (Option D)) (own : List Nat) : List D → List D → Env → Out (List D)
  | [], acc, ρ => .ok acc ρ
  | d :: r, acc, ρ => (turn d (wiped ρ own)).bind fun o ρ => match o with
    | some v => if acc.length < SZ then lcLoop turn own r (acc ++ [v]) ρ else .no
    | none => lcLoop turn own r acc ρ
def argOf (ρ : Env) : Qv → Option Ar
  | .d d => some (.pl d)
  | .b i => (rsv ρ (.b i)).map .pl
  | .io i => match ρ[i]? with
    | some (.ow ds) => some (.io ds)
    | some (.io ds) => some (.io ds)
    | _ => none
def argsOf (ρ : Env) : List Qv → Option (List Ar)
  | [] => some []
  | q :: r => match argOf ρ q, argsOf ρ r with
    | some d, some l => some (d :: l)
    | _, _ => none
def ioOk {α : Type} (i : Nat) (ρ : Env) (o : Out α) : Out α :=
  match ρ[i]? with
  | some (.ow _) => o
  | some (.io _) => o
  | _ => .no
def dvals : List Qv → Option (List D)
  | [] => some []
  | .d d :: r => (dvals r).map fun l => d :: l
  | _ :: _ => none
def tupD (l : List D) : Option VT := if l.length ≤ 1000 then some (.pl (.tuple l)) else none
def lstD (l : List D) : Option VT := if l.length ≤ 1000 then some (.fr l) else none
def ioIx : List Qv → List Nat
  | [] => []
  | .io i :: r => i :: ioIx r
  | _ :: r => ioIx r
mutual
def noList : D → Bool
  | .none => true | .bool _ => true | .int _ => true | .str _ => true
  | .tuple l => noLists l
  | _ => false
def noLists : List D → Bool
  | [] => true
  | d :: r => noList d && noLists r
end
def putOuts : List Nat → List (List D) → Env → Option Env
  | [], [], ρ => some ρ
  | i :: is, ds :: r, ρ => (match ρ[i]? with
    | some (.ow _) => some (ρ.set i (.ow ds))
    | some (.io _) => some (ρ.set i (.io ds))
    | _ => none).bind fun ρ => putOuts is r ρ
  | _, _, _ => none
def distinct : List Nat → Bool
  | [] => true
  | i :: r => !r.contains i && distinct r
def borIx : List Qv → List Nat
  | [] => []
  | .b i :: r => i :: borIx r
  | _ :: r => borIx r
/-- what comes back where own lists were lent: it holds no list -/
def lentOk (bs : List Nat) (v : VT) (outs : List (List D)) : Bool :=
  bs.isEmpty || ((match v with
    | .pl d => noList d
    | .fr _ => false) && outs.all noLists)
def callq (cl : Nat → List Ar → Ret) (f : Nat) (qs : List Qv) (ρ : Env) : Out VT :=
  match argsOf ρ qs with
  | none => .no
  | some as => if distinct (ioIx qs) && (borIx qs).all (fun i => !(ioIx qs).contains i) then
      match cl f as with
      | .ok v outs => if lentOk (borIx qs) v outs then (match putOuts (ioIx qs) outs ρ with
        | some ρ' => .ok v ρ'
        | none => .no) else .no
      | .er x outs => if lentOk (borIx qs) (.pl x.d) outs then (match putOuts (ioIx qs) outs ρ with
        | some ρ' => .er x ρ'
        | none => .no) else .no
      | .no => .no
    else .no
def intsDown (hi : Int) : Nat → List D
  | 0 => []
  | n + 1 => .int hi :: intsDown (hi - 1) n
def intsStep (c lo : Int) : Nat → List D
  | 0 => []
  | n + 1 => .int lo :: intsStep c (lo + c) n
def rngD : List D → Option (List D)
  | [.int j] => if ok62 j then some (intsFrom 0 j.toNat) else none
  | [.int i, .int j] => if ok62 i && ok62 j then some (intsFrom i (j - i).toNat) else none
  | [.int i, .int j, .int c] => if ok62 i && (ok62 j && decide (c = -1)) then some (intsDown i (i - j).toNat)
      else if ok62 i && (ok62 j && (decide (0 < c) && decide (c < 1000000000))) then some (intsStep c i ((j - i + c - 1) / c).toNat) else none
  | _ => none
def seqD : D → Option (List D)
  | .list l => some l
  | .tuple l => some l
  | _ => none
def enumFrom (i : Int) : List D → List D
  | [] => []
  | d :: r => .tuple [.int i, d] :: enumFrom (i + 1) r
def zipD : List D → List D → List D
  | x :: xs, y :: ys => .tuple [x, y] :: zipD xs ys
  | _, _ => []
def lit (s : String) : D := .str (Str.ofString s)
/-- what a term means: as a value, as a test, as a list of operands, as what is walked -/
structure Bn where
  v : Env → Out VT
  t : Env → Out Bool
  s : Env → Out (List Qv)
  i : Env → Out (List D)
def mkV (v : Env → Out VT) : Bn :=
  ⟨v, fun ρ => (v ρ).bind fun x ρ => opt? (tru x.d) ρ, fun _ => .no, fun ρ => (v ρ).bind fun x ρ => opt? (seqD x.d) ρ⟩
def mkS (s : Env → Out (List Qv)) : Bn := ⟨fun _ => .no, fun _ => .no, s, fun _ => .no⟩
def mkI (i : Env → Out (List D)) : Bn := ⟨fun _ => .no, fun _ => .no, fun _ => .no, i⟩
def mkVT (v : Env → Out VT) (t : Env → Out Bool) : Bn := ⟨v, t, fun _ => .no, fun _ => .no⟩
def fin2 (f : D → D → Option VT) (x y : Qv) (ρ : Env) : Out VT :=
  match rsv ρ x, rsv ρ y with
  | some d, some e => ret? (f d e) ρ
  | _, _ => .no
def part (t : Tm) (e : Env → Out VT) (ρ : Env) : Out (Option Int) :=
  match t with
  | .nl => .ok none ρ
  | _ => (e ρ).bind fun v ρ => opt? (optI v.d) ρ
def cval (o : Co) (d e : D) : Option VT := (cop o d e).map fun b => .pl (.bool b)
def finS (f : List D → Option VT) (qs : List Qv) (ρ : Env) : Out VT :=
  match rsvs ρ qs with
  | some l => ret? (f l) ρ
  | none => .no
def negV (d : D) : Option VT :=
  match d with
  | .int i => some (.pl (.int (-i)))
  | _ => none
def asBool (d : D) : Option Bool :=
  match d with
  | .bool b => some b
  | _ => none
def told (o : Out VT) : Out VT :=
  match o with
  | .ok v ρ => .ok (.pl (.tuple [lit "value", v.d])) ρ
  | .er x ρ => .ok (.pl (.tuple [.str x.nm, x.d])) ρ
  | .no => .no
def lcTurn (tg : Tg) (c : Env → Out Bool) (e : Env → Out VT) (d : D) (ρ : Env) : Out (Option D) :=
  match asg tg d ρ with
  | none => .no
  | some ρ => (c ρ).bind fun k ρ => if k then (e ρ).bind fun v ρ => .ok (some v.d) ρ else .ok none ρ
def lcFin (ρ₀ : Env) (own : List Nat) (o : Out (List D)) : Out VT :=
  match o with
  | .ok acc ρ₂ => .ok (.fr acc) (restore ρ₀ own ρ₂)
  | .er x ρ₂ => .er x (restore ρ₀ own ρ₂)
  | .no => .no
def lcAll (own : List Nat) (turn : D → Env → Out (Option D)) (items : List D) (ρ : Env) : Out VT :=
  match wipeE own ρ with
  | none => .no
  | some ρ₁ => lcFin ρ own (lcLoop turn own items [] ρ₁)
def noEr {α : Type} : Out α → Out α
  | .er _ _ => .no
  | o => o
/-- ints only -/
def intO (f : Env → Out VT) (ρ : Env) : Out VT := (f ρ).bind fun v ρ => match v.d with
  | .int i => .ok (.pl (.int i)) ρ
  | _ => .no
def tplD : D → Option (List D)
  | .tuple l => some l
  | _ => none
def zip2 (d e : D) : Option (List D) :=
  match seqD d, seqD e with
  | some l, some m => some (zipD l m)
  | _, _ => none
def chnO (o o' : Co) (f g h : Env → Out VT) (ρ : Env) : Out Bool :=
  (f ρ).bind fun x ρ => (g ρ).bind fun y ρ => (opt? (cop o x.d y.d) ρ).bind fun k ρ => if k then (h ρ).bind fun z ρ => opt? (cop o' y.d z.d) ρ else .ok false ρ
def ev (cl : Nat → List Ar → Ret) : Tm → Bn
  | .var i => mkV (rdVar i)
  | .mov i => mkV (mvVar i)
  | .bor i => mkVT (fun _ => .no) fun ρ => opt? ((rsv ρ (.b i)).bind tru) ρ
  | .cst d => mkV fun ρ => .ok (.pl d) ρ
  | .glb _ d => mkV fun ρ => .ok (.pl d) ρ
  | .bin o a b => mkV fun ρ => (opd a (ev cl a).v ρ).bind fun x ρ => (opd b (ev cl b).v ρ).bind fun y ρ => fin2 (bop o) x y ρ
  | .neg a => mkV fun ρ => ((ev cl a).v ρ).bind fun x ρ => ret? (negV x.d) ρ
  | .not a => mkVT (fun ρ => (opd a (ev cl a).v ρ).bind fun q ρ => (opt? ((rsv ρ q).bind tru) ρ).bind fun b ρ => .ok (.pl (.bool (!b))) ρ) fun ρ => ((ev cl a).t ρ).bind fun k ρ => .ok (!k) ρ
  | .cmp o a b => mkV fun ρ => (opd a (ev cl a).v ρ).bind fun x ρ => (opd b (ev cl b).v ρ).bind fun y ρ => fin2 (cval o) x y ρ
  | .chn o o' a b c => mkVT (fun ρ => (chnO o o' (ev cl a).v (ev cl b).v (ev cl c).v ρ).bind fun k ρ => .ok (.pl (.bool k)) ρ) (chnO o o' (ev cl a).v (ev cl b).v (ev cl c).v)
  | .and a b => mkVT (fun ρ => ((ev cl a).v ρ).bind fun x ρ => (opt? (asBool x.d) ρ).bind fun k ρ => if k then (ev cl b).v ρ else .ok (.pl (.bool false)) ρ)
      fun ρ => ((ev cl a).t ρ).bind fun k ρ => if k then (ev cl b).t ρ else .ok false ρ
  | .or a b => mkVT (fun ρ => ((ev cl a).v ρ).bind fun x ρ => (opt? (asBool x.d) ρ).bind fun k ρ => if k then .ok (.pl (.bool true)) ρ else (ev cl b).v ρ)
      fun ρ => ((ev cl a).t ρ).bind fun k ρ => if k then .ok true ρ else (ev cl b).t ρ
  | .ite c a b => mkV fun ρ => ((ev cl c).t ρ).bind fun k ρ => if k then (ev cl a).v ρ else (ev cl b).v ρ
  | .tup es => mkV fun ρ => ((ev cl es).s ρ).bind fun qs ρ => ret? ((dvals qs).bind tupD) ρ
  | .lst es => mkV fun ρ => ((ev cl es).s ρ).bind fun qs ρ => ret? ((dvals qs).bind lstD) ρ
  | .nl => ⟨fun _ => .no, fun ρ => .ok true ρ, fun ρ => .ok [] ρ, fun _ => .no⟩
  | .cs e es => mkS fun ρ => (opd e (ev cl e).v ρ).bind fun q ρ => ((ev cl es).s ρ).bind fun qs ρ => .ok (q :: qs) ρ
  | .io i es => mkS fun ρ => ioOk i ρ (((ev cl es).s ρ).bind fun qs ρ => .ok (.io i :: qs) ρ)
  | .idx a b => mkV fun ρ => (opd a (ev cl a).v ρ).bind fun x ρ => (opd b (ev cl b).v ρ).bind fun y ρ => fin2 (fun d e => (ixD d e).map .pl) x y ρ
  | .sli a lo hi => mkV fun ρ => (opd a (ev cl a).v ρ).bind fun x ρ => (part lo (ev cl lo).v ρ).bind fun l ρ => (part hi (ev cl hi).v ρ).bind fun h ρ =>
      (opt? (rsv ρ x) ρ).bind fun d ρ => ret? (sliD d l h) ρ
  | .cal f es => mkV fun ρ => ((ev cl es).s ρ).bind fun qs ρ => callq cl f qs ρ
  | .blt f es => mkV fun ρ => ((ev cl es).s ρ).bind fun qs ρ => finS (bfn f) qs ρ
  | .lcp own tg it c e => mkV fun ρ => ((ev cl it).i ρ).bind fun items ρ => lcAll own (lcTurn tg (ev cl c).t (ev cl e).v) items ρ
  | .lcn own tg it c e => mkV fun ρ => ((ev cl it).i ρ).bind fun items ρ => noEr (lcAll own (lcTurn tg (ev cl c).t (ev cl e).v) items ρ)
  | .rng es => mkI fun ρ => ((ev cl es).s ρ).bind fun qs ρ => opt? ((rsvs ρ qs).bind rngD) ρ
  | .enu a => mkI fun ρ => ((ev cl a).v ρ).bind fun v ρ => opt? ((seqD v.d).map (enumFrom 0)) ρ
  | .zip a b => mkI fun ρ => ((ev cl a).v ρ).bind fun v ρ => ((ev cl b).v ρ).bind fun u ρ => opt? (zip2 v.d u.d) ρ
  | .tol e => mkV fun ρ => told ((ev cl e).v ρ)
  | .sset own tg it c e => mkV fun ρ => ((ev cl it).i ρ).bind fun items ρ => (if items.length < 64 then lcAll own (lcTurn tg (ev cl c).t (intO (ev cl e).v)) items ρ else .no).bind fun r ρ => ret? (ssetV r.d) ρ
  | .lset a => mkV fun ρ => ((ev cl a).v ρ).bind fun v ρ => ret? (lsetV v.d) ρ
  | .rev a => mkI fun ρ => ((ev cl a).v ρ).bind fun v ρ => opt? ((seqD v.d).map List.reverse) ρ
  | .revr a => mkI fun ρ => ((ev cl a).v ρ).bind fun v ρ => opt? ((rngN v.d).map List.reverse) ρ
  | .lrev a => mkV fun ρ => ((ev cl a).v ρ).bind fun v ρ => ret? ((lisD v.d).map fun l => .fr l.reverse) ρ
  | .rvl a => mkV fun ρ => ((ev cl a).v ρ).bind fun v ρ => ret? ((lisD v.d).map fun l => .fr l.reverse) ρ
  | .lrng a => mkV fun ρ => ((ev cl a).v ρ).bind fun v ρ => ret? ((rngN v.d).map .fr) ρ
  | .trng a => mkV fun ρ => ((ev cl a).v ρ).bind fun v ρ => ret? ((rngN v.d).map fun l => .pl (.tuple l)) ρ
  | .mnd a => mkV fun ρ => ((ev cl a).v ρ).bind fun v ρ => ret? (mndV v.d) ρ
  | .pop i => mkV (popV i)
  | .idn a b => mkV fun ρ => ((ev cl a).v ρ).bind fun v ρ => (opt? (lisD v.d) ρ).bind fun l ρ => ((ev cl b).v ρ).bind fun u ρ => ret? ((idxD l u.d).map .pl) ρ
inductive Fl where
  | nx (ρ : Env) | rt (v : VT) (ρ : Env) | bk (ρ : Env) | ct (ρ : Env) | er (x : Exn) (ρ : Env) | no
def Out.fl {α : Type} (o : Out α) (f : α → Env → Fl) : Fl :=
  match o with
  | .ok a ρ => f a ρ
  | .er x ρ => .er x ρ
  | .no => .no
def nx? (o : Option Env) : Fl :=
  match o with
  | some ρ => .nx ρ
  | none => .no
def Fl.seq (o : Fl) (f : Env → Fl) : Fl :=
  match o with
  | .nx ρ => f ρ
  | o => o
def VT.slot : VT → Slot
  | .pl d => .pl d
  | .fr ds => .ow ds
/-- an own list is changed -/
def chg (i : Nat) (f : List D → Option (List D)) (ρ : Env) : Option Env :=
  match ρ[i]? with
  | some (.ow ds) => (f ds).map fun es => ρ.set i (.ow es)
  | some (.io ds) => (f ds).map fun es => ρ.set i (.io es)
  | _ => none
def forLoop (turn : D → Env → Fl) : List D → Env → Fl
  | [], ρ => .nx ρ
  | d :: r, ρ => match turn d ρ with
    | .nx ρ => forLoop turn r ρ
    | .ct ρ => forLoop turn r ρ
    | .bk ρ => .nx ρ
    | o => o
def forTurn (tg : Tg) (b : Env → Fl) (d : D) (ρ : Env) : Fl :=
  match asg tg d ρ with
  | some ρ => b ρ
  | none => .no
def whlLoop (c : Env → Out Bool) (b : Env → Fl) : Nat → Env → Fl
  | 0, _ => .no
  | n + 1, ρ => (c ρ).fl fun k ρ => if k then (match b ρ with
    | .nx ρ => whlLoop c b n ρ
    | .ct ρ => whlLoop c b n ρ
    | .bk ρ => .nx ρ
    | o => o) else .nx ρ
def FUEL : Nat := 1000000
def ownQ (i : Nat) (ρ : Env) : Bool :=
  match ρ[i]? with
  | some (.ow _) => true
  | some (.io _) => true
  | _ => false
/-- i op= j -/
def aop : Bo → D → D → Option D
  | .add, .int i, .int j => some (.int (i + j))
  | .sub, .int i, .int j => some (.int (i - j))
  | .mul, .int i, .int j => if mulOk i j then some (.int (i * j)) else none
  | .fdiv, .int i, .int j => if j ≠ 0 ∧ j.natAbs < 1073741824 then some (.int (i.fdiv j)) else none
  | .mod, .int i, .int j => if j ≠ 0 then some (.int (i.fmod j)) else none
  | .bor, .int i, .int j => some (.int (PySem.Builtin.bitOr i j))
  | _, _, _ => none
def stiF (j v : D) (ds : List D) : Option (List D) :=
  match j with
  | .int j => (ixN ds.length j).map fun n => ds.set n v
  | _ => none
/-- an item of an own list -/
def itemQ (i : Nat) (j : D) (ρ : Env) : Option D :=
  match ρ[i]? with
  | some (.ow ds) => (match j with
    | .int k => atI ds k
    | _ => none)
  | some (.io ds) => (match j with
    | .int k => atI ds k
    | _ => none)
  | _ => none
def appF (v : D) (ds : List D) : Option (List D) := if ds.length < SZ then some (ds ++ [v]) else none
def extF (v : VT) (ds : List D) : Option (List D) :=
  match v with
  | .fr es => if ds.length + es.length ≤ SZ then some (ds ++ es) else none
  | .pl _ => none
def ex (cl : Nat → List Ar → Ret) : Sm → Env → Fl
  | .nop, ρ => .nx ρ
  | .seq a b, ρ => (ex cl a ρ).seq fun ρ => ex cl b ρ
  | .set i e, ρ => ((ev cl e).v ρ).fl fun v ρ => nx? (set1 i (.pl v.d) ρ)
  | .own i e, ρ => ((ev cl e).v ρ).fl fun v ρ => nx? (set1 i v.slot ρ)
  | .unp tg e, ρ => ((ev cl e).v ρ).fl fun v ρ => nx? (asg tg v.d ρ)
  | .exp e, ρ => ((ev cl e).v ρ).fl fun _ ρ => .nx ρ
  | .app i e, ρ => if ownQ i ρ then ((ev cl e).v ρ).fl fun v ρ => nx? (chg i (appF v.d) ρ) else .no
  | .sti i k e, ρ => ((ev cl e).v ρ).fl fun v ρ => if ownQ i ρ then ((ev cl k).v ρ).fl fun j ρ => nx? (chg i (stiF j.d v.d) ρ) else .no
  | .aug i o e, ρ => match ρ[i]? with
      | some (.pl d) => ((ev cl e).v ρ).fl fun v ρ => nx? ((aop o d v.d).bind fun r => set1 i (.pl r) ρ)
      | _ => .no
  | .ret e, ρ => ((ev cl e).v ρ).fl fun v ρ => .rt v ρ
  | .retn, ρ => .rt (.pl .none) ρ
  | .ite c a b, ρ => ((ev cl c).t ρ).fl fun k ρ => if k then ex cl a ρ else ex cl b ρ
  | .forr tg it b, ρ => ((ev cl it).i ρ).fl fun items ρ => forLoop (forTurn tg (ex cl b)) items ρ
  | .whl c b, ρ => whlLoop (ev cl c).t (ex cl b) FUEL ρ
  | .brk, ρ => .bk ρ
  | .cnt, ρ => .ct ρ
  | .rais nm e, ρ => ((ev cl e).v ρ).fl fun v ρ => .er ⟨nm, v.d⟩ ρ
  | .agi i k o e, ρ => if ownQ i ρ then ((ev cl k).v ρ).fl fun j ρ => (opt? (itemQ i j.d ρ) ρ).fl fun x ρ => ((ev cl e).v ρ).fl fun v ρ => nx? ((aop o x v.d).bind fun r => chg i (stiF j.d r) ρ) else .no
  | .ext i e, ρ => if ownQ i ρ then ((ev cl e).v ρ).fl fun v ρ => nx? (chg i (extF v) ρ) else .no
  | .rvs i, ρ => nx? (chg i (fun ds => some ds.reverse) ρ)
structure Df where
  nm : Str
  ps : List Str
  io : List Nat
  N : List Str
  body : Sm
def Ar.slot : Ar → Slot
  | .pl d => .pl d
  | .io ds => .io ds
def outs (ρ : Env) : List Nat → Option (List (List D))
  | [] => some []
  | i :: is => match ρ[i]?, outs ρ is with
    | some (.io ds), some r => some (ds :: r)
    | _, _ => none
/-- the places of the lists that are handed in and out -/
def ioPos : Nat → List Ar → List Nat
  | _, [] => []
  | k, .io _ :: r => k :: ioPos (k + 1) r
  | k, .pl _ :: r => ioPos (k + 1) r
def Fl.done (is : List Nat) : Fl → Ret
  | .nx ρ => match outs ρ is with
    | some o => .ok (.pl .none) o
    | none => .no
  | .rt v ρ => match outs ρ is with
    | some o => .ok v o
    | none => .no
  | .er x ρ => match outs ρ is with
    | some o => .er x o
    | none => .no
  | _ => .no
def runDef (df : Df) (cl : Nat → List Ar → Ret) (as : List Ar) : Ret :=
  if as.length = df.ps.length ∧ df.io = ioPos 0 as then
    (ex cl df.body (as.map Ar.slot ++ List.replicate (df.N.length - as.length) .em)).done df.io
  else .no
def call (Γ : List Df) : Nat → Nat → List Ar → Ret
  | 0, _, _ => .no
  | n + 1, f, as => match Γ[f]? with
    | some df => runDef df (call Γ n) as
    | none => .no
end Sw

end
section
set_option maxRecDepth 100000
namespace Sw
open PySem PySem.Spec PyProof.Rows
open L2 (V Hp HO upd upd_same upd_ne SqL SqT Rd VK XK WX)
mutual
inductive Rp (K : PySem.W.Frag) (F : Hp) : V → D → Prop
  | non : Rp K F .non .none
  | bl (b : Bool) : Rp K F (.bl b) (.bool b)
  | int (i : Int) : Rp K F (.int i) (.int i)
  | str (x : Str) : Rp K F (.str x) (.str x)
  | lst {a : Addr} {xs : List V} {ds : List D} : SqL K F a xs → Rps K F xs ds → Rp K F (.ref a) (.list ds)
  | tup {a : Addr} {xs : List V} {ds : List D} : SqT K F a xs → Rps K F xs ds → Rp K F (.ref a) (.tuple ds)
inductive Rps (K : PySem.W.Frag) (F : Hp) : List V → List D → Prop
  | nil : Rps K F [] []
  | cons {v : V} {vs : List V} {d : D} {ds : List D} : Rp K F v d → Rps K F vs ds → Rps K F (v :: vs) (d :: ds)
end
mutual
theorem Rp.dp {K : PySem.W.Frag} {F : Hp} : ∀ {v : V} {d : D}, Rp K F v d → L2.Dp K F v d
  | _, _, .non => .non
  | _, _, .bl b => .bl b
  | _, _, .int i => .int i
  | _, _, .str x => .str x
  | _, _, .lst s a => .lst s (Rps.dp a)
  | _, _, .tup s a => .tup s (Rps.dp a)
theorem Rps.dp {K : PySem.W.Frag} {F : Hp} : ∀ {vs : List V} {ds : List D}, Rps K F vs ds → L2.DpAll K F vs ds
  | _, _, .nil => .nil
  | _, _, .cons a b => .cons (Rp.dp a) (Rps.dp b)
end
section
variable {K : PySem.W.Frag} {F F' H H' : Hp}
theorem rd_mono (h : ∀ b o, F b = some o → F' b = some o) {a : Addr} {u : HO} (r : Rd F a u) : Rd F' a u := by
  rcases r with r | ⟨o, r⟩
  · exact .inl (h _ _ r)
  · exact .inr ⟨o, h _ _ r⟩
theorem sql_mono (h : ∀ b o, F b = some o → F' b = some o) {a : Addr} {xs : List V} (r : SqL K F a xs) : SqL K F' a xs := by
  rcases r with r | r
  · exact .inl (rd_mono h r)
  · exact .inr r
theorem sqt_mono (h : ∀ b o, F b = some o → F' b = some o) {a : Addr} {xs : List V} (r : SqT K F a xs) : SqT K F' a xs := by
  rcases r with r | r
  · exact .inl (rd_mono h r)
  · exact .inr r
mutual
theorem dp_mono (h : ∀ b o, F b = some o → F' b = some o) : ∀ {v : V} {d : D}, Rp K F v d → Rp K F' v d
  | _, _, .non => .non
  | _, _, .bl b => .bl b
  | _, _, .int i => .int i
  | _, _, .str x => .str x
  | _, _, .lst s a => .lst (sql_mono h s) (dps_mono h a)
  | _, _, .tup s a => .tup (sqt_mono h s) (dps_mono h a)
theorem dps_mono (h : ∀ b o, F b = some o → F' b = some o) : ∀ {vs : List V} {ds : List D}, Rps K F vs ds → Rps K F' vs ds
  | _, _, .nil => .nil
  | _, _, .cons a b => .cons (dp_mono h a) (dps_mono h b)
end
theorem dps_len : ∀ {vs : List V} {ds : List D}, Rps K F vs ds → vs.length = ds.length
  | _, _, .nil => rfl
  | _, _, .cons _ t => congrArg Nat.succ (dps_len t)
theorem dps_app : ∀ {vs ws : List V} {ds es : List D}, Rps K F vs ds → Rps K F ws es → Rps K F (vs ++ ws) (ds ++ es)
  | _, _, _, _, .nil, s => s
  | _, _, _, _, .cons r t, s => .cons r (dps_app t s)
theorem dps_get : ∀ {vs : List V} {ds : List D} {i : Nat} {d : D}, Rps K F vs ds → ds[i]? = some d → ∃ v, vs[i]? = some v ∧ Rp K F v d
  | _, _, _, _, .nil, e => by simp at e
  | _, _, 0, _, .cons r _, e => by
    simp at e
    subst e
    exact ⟨_, rfl, r⟩
  | _, _, i + 1, d, .cons _ t, e => by
    obtain ⟨v, h1, h2⟩ := dps_get (i := i) (d := d) t (by simpa using e)
    exact ⟨v, by simpa using h1, h2⟩
theorem dps_drop : ∀ {vs : List V} {ds : List D} (n : Nat), Rps K F vs ds → Rps K F (vs.drop n) (ds.drop n)
  | _, _, 0, r => r
  | _, _, _ + 1, .nil => .nil
  | _, _, n + 1, .cons _ t => dps_drop n t
theorem dps_take : ∀ {vs : List V} {ds : List D} (n : Nat), Rps K F vs ds → Rps K F (vs.take n) (ds.take n)
  | _, _, 0, _ => .nil
  | _, _, _ + 1, .nil => .nil
  | _, _, n + 1, .cons r t => .cons r (dps_take n t)
theorem dps_set {v : V} {d : D} (r : Rp K F v d) : ∀ {vs : List V} {ds : List D} (n : Nat), Rps K F vs ds → Rps K F (vs.set n v) (ds.set n d)
  | _, _, _, .nil => .nil
  | _, _, 0, .cons _ t => .cons r t
  | _, _, n + 1, .cons q t => .cons q (dps_set r n t)
theorem dps_rep {vs : List V} {ds : List D} (h : Rps K F vs ds) : ∀ k : Nat, Rps K F (List.replicate k vs).flatten (List.replicate k ds).flatten
  | 0 => .nil
  | k + 1 => by
    rw [List.replicate_succ, List.replicate_succ, List.flatten_cons, List.flatten_cons]
    exact dps_app h (dps_rep h k)
theorem dps_int : ∀ {vs : List V} {ds : List D} {ns : List Int}, Rps K F vs ds → intsD ds = some ns → vs = ns.map V.int
  | _, _, _, .nil, e => by
    cases e
    rfl
  | _, _, _, .cons (.int i) t, e => by
    rename_i vs ds
    cases q : Sw.intsD ds with
    | none => simp [Sw.intsD, q] at e
    | some l =>
      simp [Sw.intsD, q] at e
      subst e
      rw [dps_int t q]
      rfl
  | _, _, _, .cons .non t, e => by cases e
  | _, _, _, .cons (.bl _) t, e => by cases e
  | _, _, _, .cons (.str _) t, e => by cases e
  | _, _, _, .cons (.lst _ _) t, e => by cases e
  | _, _, _, .cons (.tup _ _) t, e => by cases e
theorem dps_bl : ∀ {vs : List V} {ds : List D} {ns : List Bool}, Rps K F vs ds → boolsD ds = some ns → vs = ns.map V.bl
  | _, _, _, .nil, e => by
    cases e
    rfl
  | _, _, _, .cons (.bl i) t, e => by
    rename_i vs ds
    cases q : Sw.boolsD ds with
    | none => simp [Sw.boolsD, q] at e
    | some l =>
      simp [Sw.boolsD, q] at e
      subst e
      rw [dps_bl t q]
      rfl
  | _, _, _, .cons .non t, e => by cases e
  | _, _, _, .cons (.int _) t, e => by cases e
  | _, _, _, .cons (.str _) t, e => by cases e
  | _, _, _, .cons (.lst _ _) t, e => by cases e
  | _, _, _, .cons (.tup _ _) t, e => by cases e
end
/-- what is frozen and what is tracked at the entry; which slots are handed in and out, and where their lists stand -/
structure Gh where
  F : Hp
  H : Hp
  A : Nat → Option Addr
def Gh.mine (Z : Gh) (b : Addr) : Prop := ∃ i, Z.A i = some b
def isOwn (ρ : Env) (i : Nat) : Prop := ∃ ds, ρ[i]? = some (Slot.ow ds) ∨ ρ[i]? = some (Slot.io ds)
/-- slot i holds a list of its own -/
structure Own (K : PySem.W.Frag) (F H : Hp) (σ : L2.St) (i : Nat) (a : Addr) (ds : List D) : Prop where
  at_ : σ[i]? = some (some (.ref a))
  nf : F a = none
  ob : ∃ vs, H a = some (.lst vs) ∧ Rps K F vs ds
/-- nothing stands there, or a table of code -/
def Nt (H : Hp) (b : Addr) : Prop := ∀ o, H b = some o → ∃ ps, o = .tbl ps
theorem nt_none {H : Hp} {b : Addr} (h : H b = none) : Nt H b := fun o e => by rw [h] at e; cases e
structure Rel (K : PySem.W.Frag) (T : List (Addr × Str)) (Z : Gh) (F H : Hp) (σ : L2.St) (ρ : Env) : Prop where
  sub : ∀ b o, F b = some o → H b = some o
  ntb : ∀ b ps, F b ≠ some (.tbl ps)
  tab : LamX.Tabs T H
  keep : ∀ b o, Z.H b = some o → ¬ Z.mine b → (∀ ps, o ≠ .tbl ps) → H b = some o
  old : ∀ b o, Z.F b = some o → F b = some o
  new : ∀ b o, F b = some o → Z.F b = some o ∨ Nt Z.H b
  len : ρ.length = σ.length
  pl : ∀ (i : Nat) d, ρ[i]? = some (Slot.pl d) → ∃ v, σ[i]? = some (some v) ∧ Rp K F v d
  ow : ∀ (i : Nat) ds, ρ[i]? = some (Slot.ow ds) → ∃ a, Own K F H σ i a ds ∧ Nt Z.H a
  io : ∀ (i : Nat) ds, ρ[i]? = some (Slot.io ds) → ∃ a, Own K F H σ i a ds ∧ Z.A i = some a
  mi : ∀ (i : Nat) a, Z.A i = some a → ∃ ds, ρ[i]? = some (Slot.io ds)
  ap : ∀ (i j : Nat) a, isOwn ρ i → isOwn ρ j → σ[i]? = some (some (.ref a)) → σ[j]? = some (some (.ref a)) → i = j
/-- from one state of a def's run to a later one within an expression -/
structure Stp (F H : Hp) (σ : L2.St) (ρ : Env) (F' H' : Hp) (ρ' : Env) : Prop where
  frz : ∀ b o, F b = some o → F' b = some o
  keep : ∀ b o, H b = some o → (∀ i, isOwn ρ i → σ[i]? ≠ some (some (.ref b))) → (∀ ps, o ≠ .tbl ps) → H' b = some o
  nfz : ∀ b o, F' b = some o → F b = some o ∨ Nt H b ∨ ∃ i, isOwn ρ i ∧ σ[i]? = some (some (.ref b))
  own : ∀ i, isOwn ρ' i → isOwn ρ i
section
variable {K : PySem.W.Frag} {T : List (Addr × Str)} {Z : Gh} {F F' F'' H H' H'' : Hp} {σ : L2.St} {ρ ρ' ρ'' : Env}
theorem Stp.refl : Stp F H σ ρ F H ρ := ⟨fun _ _ h => h, fun _ _ h _ _ => h, fun _ _ h => .inl h, fun _ h => h⟩
theorem Stp.trans (R : Rel K T Z F' H' σ ρ') (x : Stp F H σ ρ F' H' ρ') (y : Stp F' H' σ ρ' F'' H'' ρ'') : Stp F H σ ρ F'' H'' ρ'' := by
  refine ⟨fun b o h => y.frz b o (x.frz b o h), fun b o h n t => y.keep b o (x.keep b o h n t) (fun i hi => n i (x.own i hi)) t, fun b o h => ?_, fun i h => x.own i (y.own i h)⟩
  · rcases y.nfz b o h with h1 | h1 | ⟨i, hi, e⟩
    · exact x.nfz b o h1
    · by_cases n : ∃ i, isOwn ρ i ∧ σ[i]? = some (some (.ref b))
      · exact .inr (.inr n)
      · refine .inr (.inl fun u q => Classical.byContradiction fun z => ?_)
        obtain ⟨ps, e⟩ := h1 u (x.keep b u q (fun i hi e => n ⟨i, hi, e⟩) fun ps e => z ⟨ps, e⟩)
        exact z ⟨ps, e⟩
    · exact .inr (.inr ⟨i, x.own i hi, e⟩)
/-- what is free (or a table) later was so before -/
theorem Stp.back (x : Stp F H σ ρ F' H' ρ') {b : Addr} (h : Nt H' b) : Nt H b ∨ ∃ i, isOwn ρ i ∧ σ[i]? = some (some (.ref b)) := by
  by_cases n : ∃ i, isOwn ρ i ∧ σ[i]? = some (some (.ref b))
  · exact .inr n
  · refine .inl fun u q => Classical.byContradiction fun z => ?_
    obtain ⟨ps, e⟩ := h u (x.keep b u q (fun i hi e => n ⟨i, hi, e⟩) fun ps e => z ⟨ps, e⟩)
    exact z ⟨ps, e⟩
theorem Rel.ownAt (R : Rel K T Z F H σ ρ) {i : Nat} (h : isOwn ρ i) : ∃ a ds, Own K F H σ i a ds := by
  obtain ⟨ds, e | e⟩ := h
  · obtain ⟨a, o, _⟩ := R.ow i ds e
    exact ⟨a, ds, o⟩
  · obtain ⟨a, o, _⟩ := R.io i ds e
    exact ⟨a, ds, o⟩
/-- what is free now was free at the entry -/
theorem Rel.free (R : Rel K T Z F H σ ρ) {p : Addr} (hp : Nt H p) : Nt Z.H p := fun o q => Classical.byContradiction fun z => by
  by_cases m : Z.mine p
  · obtain ⟨i, e⟩ := m
    obtain ⟨ds, e2⟩ := R.mi i p e
    obtain ⟨a, o, e3⟩ := R.io i ds e2
    rw [e] at e3
    cases e3
    obtain ⟨vs, e4, _⟩ := o.ob
    obtain ⟨ps, e5⟩ := hp _ e4
    cases e5
  · exact z (hp o (R.keep p o q m fun ps e => z ⟨ps, e⟩))
theorem Rel.free0 (R : Rel K T Z F H σ ρ) {p : Addr} (hp : H p = none) : Nt Z.H p := R.free (nt_none hp)
theorem Rel.fnone (R : Rel K T Z F H σ ρ) {p : Addr} (hp : H p = none) : F p = none := by
  cases q : F p with
  | none => rfl
  | some o =>
    have := R.sub p o q
    rw [hp] at this; cases this
theorem Rel.notAt (R : Rel K T Z F H σ ρ) {p : Addr} (hp : H p = none) {i : Nat} (h : isOwn ρ i) : σ[i]? ≠ some (some (.ref p)) := by
  obtain ⟨a, ds, o⟩ := R.ownAt h
  intro e
  rw [o.at_] at e
  cases e
  obtain ⟨vs, e4, _⟩ := o.ob
  rw [hp] at e4; cases e4
theorem Rel.notNt (R : Rel K T Z F H σ ρ) {p : Addr} (hp : Nt H p) {i : Nat} (h : isOwn ρ i) : σ[i]? ≠ some (some (.ref p)) := by
  obtain ⟨a, ds, o⟩ := R.ownAt h
  intro e
  rw [o.at_] at e
  cases e
  obtain ⟨vs, e4, _⟩ := o.ob
  obtain ⟨ps, e5⟩ := hp _ e4
  cases e5
theorem tabs_upd {p : Addr} {o : HO} (t : LamX.Tabs T H) (h1 : ∀ ps, H p ≠ some (.tbl ps)) (h2 : ∀ φ, H p ≠ some (.ext φ)) : LamX.Tabs T (upd H p o) := by
  intro q hq
  obtain ⟨ps, a1, a2, a3⟩ := t q hq
  have n1 : q.1 ≠ p := fun e => h1 ps (by rw [← e]; exact a1)
  refine ⟨ps, by rw [upd_ne n1]; exact a1, a2, fun pos cv hcv => ?_⟩
  obtain ⟨c, e1, e2⟩ := a3 pos cv hcv
  refine ⟨c, e1, ?_⟩
  rw [upd_ne fun e => h2 _ (by rw [← e]; exact e2)]
  exact e2
/-- (1) a new object that is tracked -/
theorem Rel.alloc (R : Rel K T Z F H σ ρ) {p : Addr} {o : HO} (hp : H p = none) : Rel K T Z F (upd H p o) σ ρ := by
  have up : ∀ b u, H b = some u → upd H p o b = some u := fun b u e => by
    rw [upd_ne fun z => by rw [z, hp] at e; cases e]
    exact e
  have own : ∀ {i a ds}, Own K F H σ i a ds → Own K F (upd H p o) σ i a ds := fun x => ⟨x.at_, x.nf, let ⟨vs, e, d⟩ := x.ob; ⟨vs, up _ _ e, d⟩⟩
  refine ⟨fun b u e => up _ _ (R.sub b u e), R.ntb, tabs_upd R.tab (fun ps e => by rw [hp] at e; cases e) (fun ps e => by rw [hp] at e; cases e), fun b u e n t => up _ _ (R.keep b u e n t), R.old, R.new, R.len, R.pl, fun i ds e => ?_, fun i ds e => ?_, R.mi, R.ap⟩
  · obtain ⟨a, x, y⟩ := R.ow i ds e
    exact ⟨a, own x, y⟩
  · obtain ⟨a, x, y⟩ := R.io i ds e
    exact ⟨a, own x, y⟩
theorem stp_alloc {p : Addr} {o : HO} (hp : H p = none) : Stp F H σ ρ F (upd H p o) ρ :=
  ⟨fun _ _ h => h, fun b u e _ _ => (by rw [upd_ne fun z => by rw [z, hp] at e; cases e]; exact e), fun _ _ h => .inl h, fun _ h => h⟩
/-- (2) a tracked object of nobody is frozen -/
theorem Rel.freeze (R : Rel K T Z F H σ ρ) {p : Addr} {o : HO} (hp : H p = some o) (ht : ∀ ps, o ≠ .tbl ps) (hz : Nt Z.H p) (ho : ∀ i, isOwn ρ i → σ[i]? ≠ some (some (.ref p))) : Rel K T Z (upd F p o) H σ ρ := by
  have up : ∀ b u, F b = some u → upd F p o b = some u := fun b u e => by
    by_cases hb : b = p
    · rw [hb, upd_same]
      rw [hb] at e
      have := R.sub _ _ e
      rw [hp] at this
      exact this
    · rw [upd_ne hb]; exact e
  have own : ∀ {i a ds}, isOwn ρ i → Own K F H σ i a ds → Own K (upd F p o) H σ i a ds := fun {i a ds} hi x =>
    ⟨x.at_, by rw [upd_ne fun z => ho i hi (by rw [← z]; exact x.at_)]; exact x.nf, let ⟨vs, e, d⟩ := x.ob; ⟨vs, e, dps_mono up d⟩⟩
  refine ⟨fun b u e => ?_, fun b ps e => ?_, R.tab, R.keep, fun b u e => up _ _ (R.old b u e), fun b u e => ?_, R.len, fun i d e => ?_, fun i ds e => ?_, fun i ds e => ?_, R.mi, R.ap⟩
  · by_cases hb : b = p
    · rw [hb, upd_same] at e; cases e; rw [hb]; exact hp
    · rw [upd_ne hb] at e; exact R.sub b u e
  · by_cases hb : b = p
    · rw [hb, upd_same] at e
      exact ht ps (Option.some.inj e)
    · rw [upd_ne hb] at e; exact R.ntb b ps e
  · by_cases hb : b = p
    · rw [hb]; exact .inr hz
    · rw [upd_ne hb] at e; exact R.new b u e
  · obtain ⟨v, e1, e2⟩ := R.pl i d e
    exact ⟨v, e1, dp_mono up e2⟩
  · obtain ⟨a, x, y⟩ := R.ow i ds e
    exact ⟨a, own ⟨ds, .inl e⟩ x, y⟩
  · obtain ⟨a, x, y⟩ := R.io i ds e
    exact ⟨a, own ⟨ds, .inr e⟩ x, y⟩
theorem upd_up (hp : F p = none) {o : HO} : ∀ b u, F b = some u → upd F p o b = some u := fun b u e => by
  rw [upd_ne fun z => by rw [z, hp] at e; cases e]
  exact e
/-- (3) a slot is set -/
theorem Rel.set (R : Rel K T Z F H σ ρ) {i : Nat} {s : Slot} {v : V} (hi : ∀ ds, ρ[i]? ≠ some (Slot.io ds))
    (hs : match s with
      | .em => True
      | .pl d => Rp K F v d
      | .ow ds => ∃ a vs, v = .ref a ∧ H a = some (.lst vs) ∧ F a = none ∧ Rps K F vs ds ∧ Nt Z.H a ∧ ∀ j, isOwn ρ j → σ[j]? ≠ some (some (.ref a))
      | .io _ => False) : Rel K T Z F H (σ.set i (some v)) (ρ.set i s) := by
  have get : ∀ {j t}, (ρ.set i s)[j]? = some t → (j = i ∧ t = s ∧ j < ρ.length) ∨ (j ≠ i ∧ ρ[j]? = some t) := fun {j t} e => by
    by_cases h : j = i
    · subst h
      by_cases hl : j < ρ.length
      · rw [List.getElem?_set_self hl] at e; cases e; exact .inl ⟨rfl, rfl, hl⟩
      · rw [List.getElem?_eq_none (by simpa using hl)] at e; cases e
    · rw [List.getElem?_set_ne (Ne.symm h)] at e; exact .inr ⟨h, e⟩
  have ne : ∀ {j}, j ≠ i → (σ.set i (some v))[j]? = σ[j]? := fun h => List.getElem?_set_ne (Ne.symm h)
  have self : ∀ {j}, j = i → j < ρ.length → (σ.set i (some v))[j]? = some (some v) := fun {j} h hl => by
    subst h
    exact List.getElem?_set_self (by rw [← R.len]; exact hl)
  have own : ∀ {j a ds}, j ≠ i → Own K F H σ j a ds → Own K F H (σ.set i (some v)) j a ds := fun h x => ⟨(ne h).trans x.at_, x.nf, x.ob⟩
  refine ⟨R.sub, R.ntb, R.tab, R.keep, R.old, R.new, by rw [List.length_set, List.length_set]; exact R.len, fun j d e => ?_, fun j ds e => ?_, fun j ds e => ?_, fun j a e => ?_, fun j k a hj hk ej ek => ?_⟩
  · rcases get e with ⟨h, q, hl⟩ | ⟨h, q⟩
    · subst q
      exact ⟨v, self h hl, hs⟩
    · obtain ⟨u, e1, e2⟩ := R.pl j d q
      exact ⟨u, (ne h).trans e1, e2⟩
  · rcases get e with ⟨h, q, hl⟩ | ⟨h, q⟩
    · subst q
      obtain ⟨a, vs, ev, h1, h2, h3, h4, _⟩ := hs
      subst ev
      exact ⟨a, ⟨self h hl, h2, vs, h1, h3⟩, h4⟩
    · obtain ⟨a, x, y⟩ := R.ow j ds q
      exact ⟨a, own h x, y⟩
  · rcases get e with ⟨h, q, hl⟩ | ⟨h, q⟩
    · subst q
      exact hs.elim
    · obtain ⟨a, x, y⟩ := R.io j ds q
      exact ⟨a, own h x, y⟩
  · obtain ⟨ds, q⟩ := R.mi j a e
    have h : j ≠ i := fun z => hi ds (by rw [← z]; exact q)
    exact ⟨ds, by rw [List.getElem?_set_ne (Ne.symm h)]; exact q⟩
  · have cls : ∀ {j a}, isOwn (ρ.set i s) j → (σ.set i (some v))[j]? = some (some (.ref a)) → (j = i ∧ ∀ k, isOwn ρ k → σ[k]? ≠ some (some (.ref a))) ∨ (j ≠ i ∧ isOwn ρ j ∧ σ[j]? = some (some (.ref a))) := fun {j a} hj ej => by
      obtain ⟨ds, e⟩ := hj
      have : ∃ t, (ρ.set i s)[j]? = some t ∧ (t = .ow ds ∨ t = .io ds) := by
        rcases e with e | e
        · exact ⟨_, e, .inl rfl⟩
        · exact ⟨_, e, .inr rfl⟩
      obtain ⟨t, e, ht⟩ := this
      rcases get e with ⟨h, q, hl⟩ | ⟨h, q⟩
      · subst q
        rcases ht with rfl | rfl
        · obtain ⟨b, vs, ev, h1, h2, h3, h4, h5⟩ := hs
          rw [self h hl, ev] at ej
          cases ej
          exact .inl ⟨h, h5⟩
        · exact hs.elim
      · rw [ne h] at ej
        refine .inr ⟨h, ?_, ej⟩
        rcases ht with rfl | rfl
        · exact ⟨ds, .inl q⟩
        · exact ⟨ds, .inr q⟩
    rcases cls hj ej with ⟨h1, n1⟩ | ⟨h1, o1, e1⟩
    · rcases cls hk ek with ⟨h2, n2⟩ | ⟨h2, o2, e2⟩
      · rw [h1, h2]
      · exact absurd e2 (n1 k o2)
    · rcases cls hk ek with ⟨h2, n2⟩ | ⟨h2, o2, e2⟩
      · exact absurd e1 (n2 j o1)
      · exact R.ap j k a o1 o2 e1 e2
/-- (4) only what is known of slots is changed: a slot is let go, or its list becomes plain -/
theorem Rel.emp (R : Rel K T Z F H σ ρ) {i : Nat} (hi : ∀ ds, ρ[i]? ≠ some (Slot.io ds)) : Rel K T Z F H σ (ρ.set i .em) := by
  have get : ∀ {j t}, (ρ.set i .em)[j]? = some t → t = .em ∨ (j ≠ i ∧ ρ[j]? = some t) := fun {j t} e => by
    by_cases h : j = i
    · subst h
      by_cases hl : j < ρ.length
      · rw [List.getElem?_set_self hl] at e; cases e; exact .inl rfl
      · rw [List.getElem?_eq_none (by simpa using hl)] at e; cases e
    · rw [List.getElem?_set_ne (Ne.symm h)] at e; exact .inr ⟨h, e⟩
  have io : ∀ {j}, isOwn (ρ.set i .em) j → isOwn ρ j := fun {j} ⟨ds, e⟩ => by
    rcases e with e | e
    · rcases get e with q | ⟨_, q⟩
      · cases q
      · exact ⟨ds, .inl q⟩
    · rcases get e with q | ⟨_, q⟩
      · cases q
      · exact ⟨ds, .inr q⟩
  refine ⟨R.sub, R.ntb, R.tab, R.keep, R.old, R.new, by rw [List.length_set]; exact R.len, fun j d e => ?_, fun j ds e => ?_, fun j ds e => ?_, fun j a e => ?_, fun j k a hj hk => R.ap j k a (io hj) (io hk)⟩
  · rcases get e with q | ⟨_, q⟩
    · cases q
    · exact R.pl j d q
  · rcases get e with q | ⟨_, q⟩
    · cases q
    · exact R.ow j ds q
  · rcases get e with q | ⟨_, q⟩
    · cases q
    · exact R.io j ds q
  · obtain ⟨ds, q⟩ := R.mi j a e
    exact ⟨ds, by rw [List.getElem?_set_ne fun z => hi ds (by rw [z]; exact q)]; exact q⟩
theorem own_emp {i j : Nat} (h : isOwn (ρ.set i .em) j) : isOwn ρ j ∧ j ≠ i := by
  have key : ∀ {t}, (ρ.set i .em)[j]? = some t → t ≠ .em → ρ[j]? = some t ∧ j ≠ i := fun {t} e n => by
    by_cases h : j = i
    · subst h
      by_cases hl : j < ρ.length
      · rw [List.getElem?_set_self hl] at e; cases e; exact absurd rfl n
      · rw [List.getElem?_eq_none (by simpa using hl)] at e; cases e
    · rw [List.getElem?_set_ne (Ne.symm h)] at e; exact ⟨e, h⟩
  obtain ⟨ds, e | e⟩ := h
  · obtain ⟨q, n⟩ := key e (fun z => by cases z)
    exact ⟨⟨ds, .inl q⟩, n⟩
  · obtain ⟨q, n⟩ := key e (fun z => by cases z)
    exact ⟨⟨ds, .inr q⟩, n⟩
end
end Sw

end
section
set_option maxRecDepth 100000
namespace Sw
open PySem PySem.Spec PyProof.Rows
open L2 (V Hp HO upd upd_same upd_ne SqL SqT Rd VK XK WX Cx Inv RelV Vals PE PT PW PA PS PSs EP TP AP SP TE TT TA TS Takes thn Gl Vis Loc Room)
/-- the names of the error classes' fields -/
abbrev Fld := Str → Option Str
/-- a value of an expression that began at the heap H₀ and the slots ρ₀ -/
def Rv (K : PySem.W.Frag) (Z : Gh) (H₀ : Hp) (ρ₀ : Env) (F H : Hp) (σ : L2.St) (ρ : Env) (v : V) : VT → Prop
  | .pl d => Rp K F v d
  | .fr ds => ∃ a vs, v = .ref a ∧ H a = some (.lst vs) ∧ F a = none ∧ Rps K F vs ds ∧ Nt Z.H a ∧ (∀ j, isOwn ρ j → σ[j]? ≠ some (some (.ref a))) ∧
      (Nt H₀ a ∨ ∃ i, isOwn ρ₀ i ∧ σ[i]? = some (some (.ref a)))
def Xv (K : PySem.W.Frag) (mg : Str → Option Value) (fld : Fld) (F H : Hp) (c : Value) (d : Option Addr) (x : Exn) : Prop :=
  ∃ C dd f v, c = .ref C ∧ mg x.nm = some (.ref C) ∧ fld x.nm = some f ∧ d = some dd ∧ H dd = some (.xd [(f, v)]) ∧ Rp K F v x.d
section
variable (X : Cx) (T : List (Addr × Str)) (fld : Fld) (Z : Gh)
/-- what is wanted of an outcome: k of what comes, W of what is raised -/
def Fin {α : Type} (W : WX) (σ : L2.St) (F H : Hp) (ρ : Env) (o : Out α) (k : α → Env → Hp → Hp → Prop) : Prop :=
  match o with
  | .ok a ρ' => ∀ F' H', Rel X.K T Z F' H' σ ρ' → Stp F H σ ρ F' H' ρ' → k a ρ' F' H'
  | .er x ρ' => ∀ c d F' H', Rel X.K T Z F' H' σ ρ' → Stp F H σ ρ F' H' ρ' → Xv X.K X.mg fld F' H' c d x → W c d σ H'
  | .no => False
def tE (f : Env → Out VT) (W : WX) : TE := fun σ H Q => ∃ F ρ, Rel X.K T Z F H σ ρ ∧ Fin X T fld Z W σ F H ρ (f ρ) fun r ρ' F' H' => ∀ v, Rv X.K Z H ρ F' H' σ ρ' v r → Q v H'
def tT (f : Env → Out Bool) (W : WX) : TT := fun σ H Q => ∃ F ρ, Rel X.K T Z F H σ ρ ∧ Fin X T fld Z W σ F H ρ (f ρ) fun b _ _ H' => Q b H'
/-- an operand as it lies -/
def Qr (F : Hp) (σ : L2.St) (v : V) : Qv → Prop
  | .d d => Rp X.K F v d
  | .b i => σ[i]? = some (some v)
  | .io i => σ[i]? = some (some v)
def tQ (f : Env → Out Qv) (W : WX) : TE := fun σ H Q => ∃ F ρ, Rel X.K T Z F H σ ρ ∧ Fin X T fld Z W σ F H ρ (f ρ) fun q _ F' H' => ∀ v, Qr X F' σ v q → Q v H'
inductive Qrs (F : Hp) (σ : L2.St) : List V → List Qv → Prop
  | nil : Qrs F σ [] []
  | cons {v q vs qs} : Qr X F σ v q → Qrs F σ vs qs → Qrs F σ (v :: vs) (q :: qs)
def tAs (f : Env → Out (List Qv)) (W : WX) : TA := fun σ H Q => ∃ F ρ, Rel X.K T Z F H σ ρ ∧ Fin X T fld Z W σ F H ρ (f ρ) fun qs _ F' H' => ∀ vs, Qrs X F' σ vs qs → Q vs H'
end
section
variable {X : Cx} {T : List (Addr × Str)} {fld : Fld} {Z : Gh} {W : WX} {σ : L2.St} {F F' H H' : Hp} {ρ ρ' : Env}
theorem Fin.mono {α : Type} {o : Out α} {k k' : α → Env → Hp → Hp → Prop} (h : Fin X T fld Z W σ F H ρ o k) (m : ∀ a ρ' F' H', Rel X.K T Z F' H' σ ρ' → Stp F H σ ρ F' H' ρ' → k a ρ' F' H' → k' a ρ' F' H') : Fin X T fld Z W σ F H ρ o k' := by
  cases o with
  | ok a ρ' => exact fun F' H' R S => m a ρ' F' H' R S (h F' H' R S)
  | er x ρ' => exact h
  | no => exact h
theorem Fin.base {α : Type} {o : Out α} {k : α → Env → Hp → Hp → Prop} (R1 : Rel X.K T Z F' H' σ ρ') (S1 : Stp F H σ ρ F' H' ρ') (h : Fin X T fld Z W σ F H ρ o k) : Fin X T fld Z W σ F' H' ρ' o k := by
  cases o with
  | ok a ρ2 => exact fun F2 H2 R S => h F2 H2 R (S1.trans R1 S)
  | er x ρ2 => exact fun c d F2 H2 R S => h c d F2 H2 R (S1.trans R1 S)
  | no => exact h
theorem Fin.bind {α β : Type} {o : Out α} {g : α → Env → Out β} {k : β → Env → Hp → Hp → Prop} (h : Fin X T fld Z W σ F H ρ (o.bind g) k) :
    Fin X T fld Z W σ F H ρ o fun a ρ1 _ _ => Fin X T fld Z W σ F H ρ (g a ρ1) k := by
  cases o with
  | ok a ρ1 => exact fun F1 H1 R S => h
  | er x ρ1 => exact h
  | no => exact h
theorem PE.imp {e : Expr} {t t' : TE} (h : PE X e t) (m : ∀ σ H Q, t' σ H Q → t σ H Q) : PE X e t' := ⟨fun pins s σ H Q I q => h.run pins s σ H Q I (m σ H Q q)⟩
theorem PT.imp {e : Expr} {t t' : TT} (h : PT X e t) (m : ∀ σ H Q, t' σ H Q → t σ H Q) : PT X e t' := ⟨fun pins s σ H Q I q => h.run pins s σ H Q I (m σ H Q q)⟩
theorem PW.imp {e : Expr} {t t' : TT} (h : PW X e t) (m : ∀ σ H Q, t' σ H Q → t σ H Q) : PW X e t' := ⟨fun wh pins s σ H Q I q => h.run wh pins s σ H Q I (m σ H Q q)⟩
theorem PA.imp {es : List Expr} {t t' : TA} (h : PA X es t) (m : ∀ σ H Q, t' σ H Q → t σ H Q) : PA X es t' := ⟨fun pos pins s σ H Q I q => h.run pos pins s σ H Q I (m σ H Q q)⟩
theorem PS.imp {st : Stmt} {t t' : TS} (h : PS X st t) (m : ∀ D σ H, t' D σ H → t D σ H) : PS X st t' := ⟨fun pins s σ H D I q => h.run pins s σ H D I (m D σ H q)⟩
theorem PSs.imp {st : List Stmt} {t t' : TS} (h : PSs X st t) (m : ∀ D σ H, t' D σ H → t D σ H) : PSs X st t' := ⟨fun pins s σ H D I q => h.run pins s σ H D I (m D σ H q)⟩
/-- a fresh list is handed on as plain data: it is frozen -/
theorem freeze {r : VT} {v : V} (R : Rel X.K T Z F' H' σ ρ') (S : Stp F H σ ρ F' H' ρ') (q : Rv X.K Z H ρ F' H' σ ρ' v r) :
    ∃ F2, Rel X.K T Z F2 H' σ ρ' ∧ Stp F H σ ρ F2 H' ρ' ∧ (∀ b o, F' b = some o → F2 b = some o) ∧ Rp X.K F2 v r.d := by
  cases r with
  | pl d => exact ⟨F', R, S, fun _ _ h => h, q⟩
  | fr ds =>
    obtain ⟨a, vs, e, h1, h2, h3, h4, h5, h6⟩ := q
    subst e
    refine ⟨upd F' a (.lst vs), R.freeze h1 (fun ps z => by cases z) h4 h5, ⟨fun b o e => upd_up h2 b o (S.frz b o e), S.keep, fun b o e => ?_, S.own⟩, upd_up h2, .lst (.of upd_same) (dps_mono (upd_up h2) h3)⟩
    by_cases hb : b = a
    · subst hb
      exact .inr h6
    · rw [upd_ne hb] at e
      exact S.nfz b o e

/-- data as an operand: plain, or a list of the def's own -/
def Dq (K : PySem.W.Frag) (F H : Hp) (v : V) (d : D) : Prop := Rp K F v d ∨ ∃ a vs ds, v = .ref a ∧ d = .list ds ∧ H a = some (.lst vs) ∧ Rps K F vs ds
theorem Dq.rp {K : PySem.W.Frag} {v : V} {d : D} (hs : ∀ b o, F b = some o → H b = some o) (q : Dq K F H v d) : Rp K H v d := by
  rcases q with q | ⟨a, vs, ds, e1, e2, h, r⟩
  · exact dp_mono hs q
  · subst e1 e2
    exact .lst (.of h) (dps_mono hs r)
theorem dq_of {v : V} {q : Qv} {d : D} (R : Rel X.K T Z F H σ ρ) (h : Qr X F σ v q) (e : rsv ρ q = some d) : Dq X.K F H v d := by
  cases q with
  | d d' =>
    cases e
    exact .inl h
  | b i =>
    have h : σ[i]? = some (some v) := h
    have own : ∀ {ds a}, Own X.K F H σ i a ds → Dq X.K F H v (.list ds) := fun {ds a} o => by
      obtain ⟨vs, e1, e2⟩ := o.ob
      have e3 := o.at_
      rw [h] at e3
      cases e3
      exact .inr ⟨a, vs, ds, rfl, rfl, e1, e2⟩
    cases q : ρ[i]? with
    | none => simp [rsv, q] at e
    | some s =>
      cases s with
      | em => simp [rsv, q] at e
      | pl d' =>
        simp [rsv, q] at e
        subst e
        obtain ⟨u, e1, e2⟩ := R.pl i _ q
        rw [h] at e1
        cases e1
        exact .inl e2
      | ow ds =>
        simp [rsv, q] at e
        subst e
        obtain ⟨a, o, _⟩ := R.ow i _ q
        exact own o
      | io ds =>
        simp [rsv, q] at e
        subst e
        obtain ⟨a, o, _⟩ := R.io i _ q
        exact own o
  | io i => cases e
theorem qr_mono {v : V} {q : Qv} (m : ∀ b o, F b = some o → F' b = some o) (h : Qr X F σ v q) : Qr X F' σ v q := by
  cases q with
  | d d' => exact dp_mono m h
  | b i => exact h
  | io i => exact h
theorem qrs_mono {vs : List V} {qs : List Qv} (m : ∀ b o, F b = some o → F' b = some o) (h : Qrs X F σ vs qs) : Qrs X F' σ vs qs := by
  induction h with
  | nil => exact .nil
  | cons a _ ih => exact .cons (qr_mono m a) ih
theorem rsv_some {i : Nat} {d : D} (R : Rel X.K T Z F H σ ρ) (e : rsv ρ (.b i) = some d) : ∃ v, σ[i]? = some (some v) := by
  cases q : ρ[i]? with
  | none => simp [rsv, q] at e
  | some s =>
    cases s with
    | em => simp [rsv, q] at e
    | pl d' =>
      obtain ⟨u, e1, _⟩ := R.pl i _ q
      exact ⟨u, e1⟩
    | ow ds =>
      obtain ⟨a, o, _⟩ := R.ow i _ q
      exact ⟨_, o.at_⟩
    | io ds =>
      obtain ⟨a, o, _⟩ := R.io i _ q
      exact ⟨_, o.at_⟩
/-- a value as an operand -/
theorem pe_q {e : Expr} {f : Env → Out VT} (h : PE X e (tE X T fld Z f W)) : PE X e (tQ X T fld Z (fun ρ => (f ρ).bind fun v ρ => .ok (.d v.d) ρ) W) := by
  refine PE.imp h fun σ H Q ⟨F, ρ, R, q⟩ => ⟨F, ρ, R, Fin.mono (Fin.bind q) fun r ρ1 F1 H1 R1 S1 k v rv => ?_⟩
  obtain ⟨F2, R2, S2, _, d⟩ := freeze R1 S1 rv
  exact k F2 H1 R2 S2 v d
theorem pe_opd {e : Expr} {t : Tm} {f : Env → Out VT} (hb : ∀ i, t = .bor i → PE X e (L2.tVar i)) (h : (∀ i, t ≠ .bor i) → PE X e (tE X T fld Z f W)) : PE X e (tQ X T fld Z (opd t f) W) := by
  by_cases c : ∃ i, t = .bor i
  · obtain ⟨i, rfl⟩ := c
    refine PE.imp (hb i rfl) fun σ H Q ⟨F, ρ, R, q⟩ => ?_
    cases e : rsv ρ (.b i) with
    | none =>
      have : opd (.bor i) f ρ = .no := by simp only [opd, e]
      rw [this] at q
      exact q.elim
    | some d =>
      have : opd (.bor i) f ρ = .ok (.b i) ρ := by simp only [opd, e]
      rw [this] at q
      obtain ⟨v, hv⟩ := rsv_some R e
      exact ⟨v, hv, q F H R Stp.refl v hv⟩
  · have e : opd t f = fun ρ => (f ρ).bind fun v ρ => .ok (.d v.d) ρ := by
      funext ρ
      cases t <;> first | rfl | exact absurd ⟨_, rfl⟩ c
    rw [e]
    exact pe_q (h fun i z => c ⟨i, z⟩)
/-- an operation on two values that keeps to g -/
def OpS (X : Cx) (T : List (Addr × Str)) (Z : Gh) (f : Value → Value → Sem Value) (g : D → D → Option VT) : Prop :=
  ∀ (pins : List (Addr × Obj)) (s : Shared) (σ : L2.St) (H : Hp) (x y : V) (v u : Value) (Q : VK) (F : Hp) (ρ : Env) (d e : D) (r : VT), Inv X pins σ H s → RelV x v → RelV y u →
    Rel X.K T Z F H σ ρ → Dq X.K F H x d → Dq X.K F H y e → g d e = some r →
    (∀ w F' H', Rel X.K T Z F' H' σ ρ → Stp F H σ ρ F' H' ρ → Rv X.K Z H ρ F' H' σ ρ w r → Q w H') → wpAny (model X.prog X.w) X.A (f v u) (EP X pins σ Q) X.xe s
/-- what a step adds, told from an earlier state -/
theorem rv_base {H₀ F₀ : Hp} {ρ₀ : Env} {F1 H1 : Hp} {ρ1 : Env} {v : V} {r : VT} (R1 : Rel X.K T Z F1 H1 σ ρ1) (S : Stp F₀ H₀ σ ρ₀ F1 H1 ρ1) (q : Rv X.K Z H1 ρ1 F' H' σ ρ' v r) : Rv X.K Z H₀ ρ₀ F' H' σ ρ' v r := by
  cases r with
  | pl d => exact q
  | fr ds =>
    obtain ⟨a, vs, e, h1, h2, h3, h4, h5, h6⟩ := q
    refine ⟨a, vs, e, h1, h2, h3, h4, h5, ?_⟩
    rcases h6 with h6 | ⟨i, hi, hs⟩
    · exact S.back h6
    · exact .inr ⟨i, S.own i hi, hs⟩
theorem pe_two {a b e : Expr} {q1 q2 : Env → Out Qv} {f : Value → Value → Sem Value} {g : D → D → Option VT} (ha : PE X a (tQ X T fld Z q1 W)) (hb : PE X b (tQ X T fld Z q2 W)) (hf : OpS X T Z f g)
    (hw : ∀ (Q : Value → Shared → Prop) (s : Shared), wpAny (model X.prog X.w) X.A (eval a X.env) (fun v s₁ => wpAny (model X.prog X.w) X.A (eval b X.env) (fun u s₂ => wpAny (model X.prog X.w) X.A (f v u) Q X.xe s₂) X.xe s₁) X.xe s → wpAny (model X.prog X.w) X.A (eval e X.env) Q X.xe s) :
    PE X e (tE X T fld Z (fun ρ => (q1 ρ).bind fun x ρ => (q2 ρ).bind fun y ρ => fin2 g x y ρ) W) := by
  refine ⟨fun pins s σ H Q I h => ?_⟩
  obtain ⟨F, ρ, R, q⟩ := h
  refine hw _ s ?_
  refine L2.binT (R := fun x y H2 => ∃ F2 ρ2 d e r, Rel X.K T Z F2 H2 σ ρ2 ∧ Dq X.K F2 H2 x d ∧ Dq X.K F2 H2 y e ∧ g d e = some r ∧ (∀ w F' H', Rel X.K T Z F' H' σ ρ2 → Stp F2 H2 σ ρ2 F' H' ρ2 → Rv X.K Z H2 ρ2 F' H' σ ρ2 w r → Q w H')) ha hb I ?_ ?_
  · refine ⟨F, ρ, R, Fin.mono (Fin.bind q) fun x ρ1 F1 H1 R1 S1 k v hv => ⟨F1, ρ1, R1, ?_⟩⟩
    refine Fin.mono (Fin.bind (Fin.base R1 S1 k)) fun y ρ2 F2 H2 R2 S2 k2 u hu => ?_
    have k3 := Fin.base R2 S2 k2
    unfold fin2 at k3
    cases e1 : rsv ρ2 x with
    | none => simp only [e1] at k3; exact k3.elim
    | some d =>
      cases e2 : rsv ρ2 y with
      | none => simp only [e1, e2] at k3; exact k3.elim
      | some e' =>
        simp only [e1, e2] at k3
        cases e3 : g d e' with
        | none => simp only [e3, ret?] at k3; exact k3.elim
        | some r =>
          simp only [e3, ret?] at k3
          exact ⟨F2, ρ2, d, e', r, R2, dq_of R2 (qr_mono S2.frz hv) e1, dq_of R2 hu e2, e3, fun w F' H' R' S' rv => k3 F' H' R' S' w (rv_base R2 (S1.trans R1 S2) rv)⟩
  · rintro v u s2 x y H2 I2 rx ry ⟨F2, ρ2, d, e', r, R2, dx, dy, eg, k⟩
    exact hf pins s2 σ H2 x y v u Q F2 ρ2 d e' r I2 rx ry R2 dx dy eg k
end
end Sw

end
section
set_option maxRecDepth 100000
set_option maxHeartbeats 1000000
namespace Sw
open PySem PySem.Spec PyProof.Rows
open L2 (V Hp HO upd upd_same upd_ne SqL SqT Rd VK XK WX Cx Inv RelV Vals PE PT PW PA PS PSs EP TP AP SP TE TT TA TS Takes thn Gl Vis Loc Room OpR)
section
variable {X : Cx} {T : List (Addr × Str)} {fld : Fld} {Z : Gh} {W : WX} {σ : L2.St} {F F' H H' : Hp} {ρ ρ' : Env} {K : PySem.W.Frag}
theorem dq_non {v : V} (q : Dq K F H v .none) : v = .non := by
  rcases q with q | ⟨_, _, _, _, e, _⟩
  · cases q; rfl
  · cases e
theorem dq_bl {v : V} {b : Bool} (q : Dq K F H v (.bool b)) : v = .bl b := by
  rcases q with q | ⟨_, _, _, _, e, _⟩
  · cases q; rfl
  · cases e
theorem dq_int {v : V} {i : Int} (q : Dq K F H v (.int i)) : v = .int i := by
  rcases q with q | ⟨_, _, _, _, e, _⟩
  · cases q; rfl
  · cases e
theorem dq_str {v : V} {x : Str} (q : Dq K F H v (.str x)) : v = .str x := by
  rcases q with q | ⟨_, _, _, _, e, _⟩
  · cases q; rfl
  · cases e
theorem dq_tup {v : V} {ds : List D} (q : Dq K F H v (.tuple ds)) : ∃ a vs, v = .ref a ∧ SqT K F a vs ∧ Rps K F vs ds := by
  rcases q with q | ⟨_, _, _, _, e, _⟩
  · cases q with
    | tup s a => exact ⟨_, _, rfl, s, a⟩
  · cases e
theorem dq_lst {v : V} {ds : List D} (q : Dq K F H v (.list ds)) (hs : ∀ b o, F b = some o → H b = some o) : ∃ a vs, v = .ref a ∧ SqL K H a vs ∧ Rps K F vs ds := by
  rcases q with q | ⟨a, vs, _, e1, e, h, r⟩
  · cases q with
    | lst s a => exact ⟨_, _, rfl, sql_mono hs s, a⟩
  · cases e
    exact ⟨a, vs, e1, .inl (.inl h), r⟩
theorem k_tup {p : Addr} {xs : List V} {ds : List D} (R : Rel X.K T Z F H σ ρ) (hp : H p = none) (hr : Rps X.K F xs ds) :
    ∃ F', Rel X.K T Z F' (upd H p (.tup xs)) σ ρ ∧ Stp F H σ ρ F' (upd H p (.tup xs)) ρ ∧ Rp X.K F' (.ref p) (.tuple ds) := by
  have fn := R.fnone hp
  refine ⟨upd F p (.tup xs), (R.alloc hp).freeze upd_same (fun ps z => by cases z) (R.free0 hp) (fun i hi => R.notAt hp hi), ⟨upd_up fn, (stp_alloc hp (F := F) (σ := σ) (ρ := ρ)).keep, fun b o e => ?_, fun _ h => h⟩, .tup (.of upd_same) (dps_mono (upd_up fn) hr)⟩
  by_cases hb : b = p
  · subst hb
    exact .inr (.inl (nt_none hp))
  · rw [upd_ne hb] at e
    exact .inl e
theorem k_lst {p : Addr} {xs : List V} {ds : List D} (R : Rel X.K T Z F H σ ρ) (hp : H p = none) (hr : Rps X.K F xs ds) :
    Rel X.K T Z F (upd H p (.lst xs)) σ ρ ∧ Stp F H σ ρ F (upd H p (.lst xs)) ρ ∧ Rv X.K Z H ρ F (upd H p (.lst xs)) σ ρ (.ref p) (.fr ds) :=
  ⟨R.alloc hp, stp_alloc hp, p, xs, rfl, upd_same, R.fnone hp, hr, R.free0 hp, fun i hi => R.notAt hp hi, .inl (nt_none hp)⟩
theorem ops_of {f : Value → Value → Sem Value} {g : D → D → Option VT} {r : L2.R2} (h : OpR X f r)
    (hr : ∀ (σ : L2.St) (H : Hp) (x y : V) (Q : VK) (F : Hp) (ρ : Env) (d e : D) (z : VT), Rel X.K T Z F H σ ρ → Dq X.K F H x d → Dq X.K F H y e → g d e = some z →
      (∀ w F' H', Rel X.K T Z F' H' σ ρ → Stp F H σ ρ F' H' ρ → Rv X.K Z H ρ F' H' σ ρ w z → Q w H') → r x y H Q) : OpS X T Z f g :=
  fun pins s σ H x y v u Q F ρ d e z I rx ry R dx dy eg k => h pins s σ H x y v u Q I rx ry (hr σ H x y Q F ρ d e z R dx dy eg k)
theorem ops_or {f : Value → Value → Sem Value} {g g1 g2 : D → D → Option VT} (h1 : OpS X T Z f g1) (h2 : OpS X T Z f g2) (hg : ∀ d e z, g d e = some z → g1 d e = some z ∨ g2 d e = some z) : OpS X T Z f g :=
  fun pins s σ H x y v u Q F ρ d e z I rx ry R dx dy eg k => by
    rcases hg d e z eg with q | q
    · exact h1 pins s σ H x y v u Q F ρ d e z I rx ry R dx dy q k
    · exact h2 pins s σ H x y v u Q F ρ d e z I rx ry R dx dy q k
theorem ops_imp {f : Value → Value → Sem Value} {g g1 : D → D → Option VT} (h : OpS X T Z f g1) (hg : ∀ d e z, g d e = some z → g1 d e = some z) : OpS X T Z f g :=
  fun pins s σ H x y v u Q F ρ d e z I rx ry R dx dy eg k => h pins s σ H x y v u Q F ρ d e z I rx ry R dx dy (hg d e z eg) k
/-- on ints -/
def gI (C : Int → Int → Bool) (g : Int → Int → D) : D → D → Option VT
  | .int i, .int j => if C i j = true then some (.pl (g i j)) else none
  | _, _ => none
theorem gI_inv {C : Int → Int → Bool} {g : Int → Int → D} {d e : D} {z : VT} (h : gI C g d e = some z) : ∃ i j, d = .int i ∧ e = .int j ∧ C i j = true ∧ z = .pl (g i j) := by
  cases d <;> cases e <;> simp [gI] at h
  exact ⟨_, _, rfl, rfl, h.1, h.2.symm⟩
theorem ops_int {f : Value → Value → Sem Value} {C : Int → Int → Bool} {c : Int → Int → Prop} {g : Int → Int → Int} (h : OpR X f (L2.rI c fun i j => .int (g i j))) (hc : ∀ i j, C i j = true → c i j) : OpS X T Z f (gI C fun i j => .int (g i j)) := by
  refine ops_of h fun σ H x y Q F ρ d e z R dx dy eg k => ?_
  obtain ⟨i, j, rfl, rfl, hC, rfl⟩ := gI_inv eg
  exact ⟨i, j, dq_int dx, dq_int dy, hc i j hC, k _ F H R Stp.refl (.int _)⟩
theorem ops_int0 {f : Value → Value → Sem Value} {g : Int → Int → Int} (h : OpR X f (L2.rI0 fun i j => .int (g i j))) : OpS X T Z f (gI (fun _ _ => true) fun i j => .int (g i j)) := by
  refine ops_of h fun σ H x y Q F ρ d e z R dx dy eg k => ?_
  obtain ⟨i, j, rfl, rfl, hC, rfl⟩ := gI_inv eg
  exact ⟨i, j, dq_int dx, dq_int dy, k _ F H R Stp.refl (.int _)⟩
theorem ops_bool0 {f : Value → Value → Sem Value} {g : Int → Int → Bool} (h : OpR X f (L2.rI0 fun i j => .bl (g i j))) : OpS X T Z f (gI (fun _ _ => true) fun i j => .bool (g i j)) := by
  refine ops_of h fun σ H x y Q F ρ d e z R dx dy eg k => ?_
  obtain ⟨i, j, rfl, rfl, hC, rfl⟩ := gI_inv eg
  exact ⟨i, j, dq_int dx, dq_int dy, k _ F H R Stp.refl (.bl _)⟩
def gCatT : D → D → Option VT
  | .tuple xs, .tuple ys => if xs.length + ys.length ≤ SZ then some (.pl (.tuple (xs ++ ys))) else none
  | _, _ => none
def gCatL : D → D → Option VT
  | .list xs, .list ys => if xs.length + ys.length ≤ SZ then some (.fr (xs ++ ys)) else none
  | _, _ => none
def gRepT : D → D → Option VT
  | .tuple xs, .int k => if xs ≠ [] ∧ 2 ≤ k ∧ k ≤ 1000 ∧ xs.length ≤ 1000 then some (.pl (.tuple (List.replicate k.toNat xs).flatten)) else none
  | _, _ => none
def gRepL : D → D → Option VT
  | .list xs, .int k => if -(2 ^ 63) ≤ k ∧ k < 2 ^ 63 ∧ xs.length * k.toNat ≤ SZ then some (.fr (List.replicate k.toNat xs).flatten) else none
  | _, _ => none
theorem SZ_line : SZ = sizeLine := by rw [sizeLine_eq]; rfl
/-- the list's object -/
theorem lst_at {pins : List (Addr × Obj)} {s : Shared} {a : Addr} {xs : List V} (I : Inv X pins σ H s) (h : SqL X.K H a xs) : ∃ (its : List Value) (n : Nat) (dd : Option Addr) (sl : Array (Option Value)), Vals xs its ∧ xs.length = its.length ∧ s.heap.get? a = some { cls := .type "list", dict := dd, data := .seq its.toArray n, slots := sl } := by
  rcases h with h | ⟨⟨cl, dd, da, sl⟩, its, n, e, c1, _, c2, _, r⟩
  · obtain ⟨_, its, n, r, e⟩ := h.ok I.hok
    exact ⟨its, n, none, #[], r, r.length, e⟩
  · simp only at c1 c2
    subst c1 c2
    exact ⟨its.toList, n, dd, sl, r, r.length, by simpa using I.kIn _ _ e⟩
theorem mulG (l : Addr) (its : Array Value) (n : Nat) (x : Int) (u : Tok) (dd : Option Addr) (sl : Array (Option Value)) (c0 : ¬(!Builtin.List.listFitsIndex x) = true) (c1 : ¬its.size * x.toNat > (2 ^ 63 - 1) / 8) (c2 : ¬Builtin.List.listTooLong (its.size * x.toNat) = true) :
    Meets (Builtin.«list.__mul__» ⟨[.ref l, .int x u], []⟩) (fun _ R s => s.heap.get? l = some { cls := .type "list", dict := dd, data := .seq its n, slots := sl } ∧
      R (.ok (.ret (Value.ref s.heap.objs.size))) { s with heap := s.heap.push { cls := Value.type "list", data := Data.seq (List.foldl (fun p q => p ++ q) #[] (List.replicate (if its.isEmpty = true then 0 else x.toNat) its)) }, toks := s.toks }) :=
  .of_wp fun prog w A R s h => by
    obtain ⟨hp, g, dr, tk, os⟩ := s
    obtain ⟨hl, h⟩ := h
    have hsz := AutoListH.joined_fits c2
    wp_walk
    refine wpAny_ite_false (decide_eq_false (Nat.not_lt.mpr hsz)) ?_
    wp_walk
    exact ⟨_, rfl, h⟩
theorem rmulG (a : Int) (t : Tok) (l : Addr) (its : Array Value) (n : Nat) (dd : Option Addr) (sl : Array (Option Value)) :
    Meets (Builtin.«int.__rmul__» ⟨[.int a t, .ref l], []⟩) (fun _ R s => s.heap.get? l = some { cls := .type "list", dict := dd, data := .seq its n, slots := sl } ∧ R (.ok (.ret Value.notImplemented)) s) :=
  .of_wp fun prog w A R s h => by
    obtain ⟨hp, g, dr, tk, os⟩ := s
    obtain ⟨hl, h⟩ := h
    wp_walk
    exact ⟨_, rfl, h⟩
theorem ops_catL : OpS X T Z (binaryOp .Add) gCatL := by
  intro pins s σ H x y v u Q F ρ d e z I rx ry R dx dy eg k
  cases d <;> cases e <;> simp only [gCatL] at eg <;> try (cases eg; done)
  rename_i xs ys
  by_cases hz : xs.length + ys.length ≤ SZ
  · rw [if_pos hz] at eg
    cases eg
    obtain ⟨a, vs, rfl, h1, r1⟩ := dq_lst dx R.sub
    obtain ⟨b, us, rfl, h2, r2⟩ := dq_lst dy R.sub
    cases rx
    cases ry
    obtain ⟨its, n, dd, sl, q1, l1, g1⟩ := lst_at I h1
    obtain ⟨its2, n2, dd2, sl2, q2, l2, g2⟩ := lst_at I h2
    have t1 := dps_len r1
    have t2 := dps_len r2
    have hsz : vs.length + us.length ≤ sizeLine := by rw [t1, t2, ← SZ_line]; exact hz
    refine concat_meets ⟨_, g1, rfl⟩ ⟨_, g2, rfl⟩ noFill_list_add seq_list_add PySem.F.slot_list_add PySem.F.entry_list_add (PySem.F.args_list_add_2 _ _) (list_addW _ _ its.toArray its2.toArray n n2 dd dd2 sl sl2 (by rw [List.size_toArray, List.size_toArray]; omega)) ⟨g1, g2, ?_⟩
    have ea : its.toArray ++ its2.toArray = (its ++ its2).toArray := by simp
    rw [ea]
    obtain ⟨R2, S2, q⟩ := k_lst (p := s.heap.objs.size) R I.fresh (dps_app r1 r2)
    exact ⟨.ref _, _, I.lnew (t' := s.toks) (q1.append q2) (by rw [List.length_append]; exact hsz), rfl, k _ _ _ R2 S2 q⟩
  · rw [if_neg hz] at eg; cases eg
theorem ops_catT : OpS X T Z (binaryOp .Add) gCatT := by
  intro pins s σ H x y v u Q F ρ d e z I rx ry R dx dy eg k
  cases d <;> cases e <;> simp only [gCatT] at eg <;> try (cases eg; done)
  rename_i xs ys
  by_cases hz : xs.length + ys.length ≤ SZ
  · rw [if_pos hz] at eg
    cases eg
    obtain ⟨a, vs, rfl, h1, r1⟩ := dq_tup dx
    obtain ⟨b, us, rfl, h2, r2⟩ := dq_tup dy
    have t1 := dps_len r1
    have t2 := dps_len r2
    have hsz : vs.length + us.length ≤ sizeLine := by rw [t1, t2, ← SZ_line]; exact hz
    by_cases hv : vs = []
    · subst hv
      cases r1
      cases rx
      cases ry
      obtain ⟨its, q1, p1, _⟩ := I.tuple (sqt_mono R.sub h1)
      obtain ⟨its2, q2, p2, _⟩ := I.tuple (sqt_mono R.sub h2)
      cases q1
      obtain ⟨⟨cls, dd, data, sl⟩, ho, hc, n, hd⟩ := id p1
      obtain ⟨⟨cls2, dd2, data2, sl2⟩, ho2, hc2, n2, hd2⟩ := id p2
      simp only at hc hd hc2 hd2
      subst hc hd hc2 hd2
      refine concat_meets ⟨_, ho, rfl⟩ ⟨_, ho2, rfl⟩ noFill_tuple_add seq_tuple_add PySem.F.slot_tuple_add PySem.F.entry_tuple_add (PySem.F.args_tuple_add_2 _ _) (tuple_addW0 a b ([] : List Value).toArray its2.toArray n n2 dd dd2 sl sl2 (by simp)) ⟨ho, ho2, ?_⟩
      refine ⟨.ref b, H, I, rfl, k _ F H R Stp.refl ?_⟩
      rw [List.nil_append]
      exact .tup h2 r2
    · refine L2.op_catT pins s σ H _ _ v u Q I rx ry ⟨a, b, vs, us, rfl, rfl, sqt_mono R.sub h1, sqt_mono R.sub h2, hv, hsz, fun e => ?_, fun _ p hp => ?_⟩
      · subst e
        cases r2
        refine k _ F H R Stp.refl ?_
        rw [List.append_nil]
        exact .tup h1 r1
      · obtain ⟨F2, R2, S2, q⟩ := k_tup R hp (dps_app r1 r2)
        exact k _ F2 _ R2 S2 q
  · rw [if_neg hz] at eg; cases eg
theorem ops_repT : OpS X T Z (binaryOp .Mult) gRepT := by
  refine ops_of L2.op_repT fun σ H x y Q F ρ d e z R dx dy eg k => ?_
  cases d <;> cases e <;> simp only [gRepT] at eg <;> try (cases eg; done)
  rename_i xs i
  by_cases c : xs ≠ [] ∧ 2 ≤ i ∧ i ≤ 1000 ∧ xs.length ≤ 1000
  · rw [if_pos c] at eg
    cases eg
    obtain ⟨a, vs, rfl, h1, r1⟩ := dq_tup dx
    have t1 := dps_len r1
    refine ⟨a, i, vs, rfl, dq_int dy, sqt_mono R.sub h1, fun e => c.1 ?_, c.2.1, c.2.2.1, by rw [t1]; exact c.2.2.2, fun p hp => ?_⟩
    · subst e
      cases r1
      rfl
    · obtain ⟨F2, R2, S2, q⟩ := k_tup R hp (dps_rep r1 i.toNat)
      exact k _ F2 _ R2 S2 q
  · rw [if_neg c] at eg; cases eg
theorem rep_rd : OpR X (binaryOp .Mult) (fun x y H Q => ∃ l k xs, x = .ref l ∧ y = .int k ∧ SqL X.K H l xs ∧ -(2 ^ 63) ≤ k ∧ k < 2 ^ 63 ∧ xs.length * k.toNat ≤ sizeLine ∧
    ∀ p, H p = none → Q (.ref p) (upd H p (.lst (List.replicate k.toNat xs).flatten))) := by
  intro pins s σ H x y v u Q I rx ry h
  obtain ⟨l, k, xs, rfl, rfl, hH, h1, h2, hz, q⟩ := h
  cases rx
  obtain ⟨t, rfl⟩ := ry
  obtain ⟨its, n, dd, sl, r, hl, e⟩ := lst_at I hH
  have c1 : its.toArray.size * k.toNat ≤ sizeLine := by rw [List.size_toArray, ← hl]; exact hz
  have c2 : ¬ its.toArray.size * k.toNat > (2 ^ 63 - 1) / 8 := by
    have w8 : (sizeLine : Nat) ≤ (2 ^ 63 - 1) / 8 := by decide
    omega
  have c3 : ¬ (!Builtin.List.listFitsIndex k) = true := by rw [fitsIndex_both h1 h2]; simp
  have c4 : ¬ Builtin.List.listTooLong (its.toArray.size * k.toNat) = true := by rw [L2.notLongL c1]; simp
  have c5 : List.foldl (fun x1 x2 => x1 ++ x2) #[] (List.replicate (if its.toArray.isEmpty = true then 0 else k.toNat) its.toArray) = (List.replicate k.toNat its).flatten.toArray := by
    rw [show (if its.toArray.isEmpty = true then 0 else k.toNat) = (if its.isEmpty = true then 0 else k.toNat) by cases its <;> simp, L2.size_rep its]
    cases its with
    | nil => simp
    | cons a r' => simp
  refine wpAny_binaryOp_repeat_ref (T := "list") (U := "int") (by decide) ⟨_, e, rfl⟩ (fun w => typeIs_int w k t) noFill_list_mul F.fills_int_mul F.slot_int_rmul repeat_list F.slot_int_index.lookup
    (call_meets F.slot_int_rmul (typeIs_int s k t) F.entry_int_rmul (F.args_int_rmul_2 _ _) (rmulG k t l its.toArray n dd sl)
      ⟨e, rfl, ⟨_, e, rfl⟩, call_meets F.slot_list_mul ⟨_, e, rfl⟩ F.entry_list_mul (F.args_list_mul_2 _ _) (mulG l its.toArray n k t dd sl c3 c2 c4) ⟨e, ?_⟩⟩)
  rw [c5]
  exact ⟨.ref _, _, I.lnew (t' := s.toks) (r.rep k.toNat) (by rw [PyProof.Rows.lm_len_rep_flat, Nat.mul_comm]; exact hz), rfl, q _ I.fresh⟩
theorem ops_repL : OpS X T Z (binaryOp .Mult) gRepL := by
  refine ops_of rep_rd fun σ H x y Q F ρ d e z R dx dy eg k => ?_
  cases d <;> cases e <;> simp only [gRepL] at eg <;> try (cases eg; done)
  rename_i xs i
  by_cases c : -(2 ^ 63) ≤ i ∧ i < 2 ^ 63 ∧ xs.length * i.toNat ≤ SZ
  · rw [if_pos c] at eg
    cases eg
    obtain ⟨a, vs, rfl, h1, r1⟩ := dq_lst dx R.sub
    have t1 := dps_len r1
    refine ⟨a, i, vs, rfl, dq_int dy, h1, c.1, c.2.1, by rw [t1, ← SZ_line]; exact c.2.2, fun p hp => ?_⟩
    obtain ⟨R2, S2, q⟩ := k_lst R hp (dps_rep r1 i.toNat)
    exact k _ _ _ R2 S2 q
  · rw [if_neg c] at eg; cases eg
/-- what Python's operator a stands for -/
def opOf : Bo → Operator
  | .add => .Add | .sub => .Sub | .mul => .Mult | .fdiv => .FloorDiv | .mod => .Mod | .pow => .Pow | .shl => .LShift | .shr => .RShift | .band => .BitAnd | .bor => .BitOr | .bxor => .BitXor
theorem mulOk_c {i j : Int} (h : mulOk i j = true) : L2.CMul i j := by
  unfold mulOk at h
  simp only [Bool.or_eq_true, Bool.and_eq_true, decide_eq_true_eq] at h
  exact h
theorem ops_bop (o : Bo) : OpS X T Z (binaryOp (opOf o)) (bop o) := by
  cases o with
  | add =>
    refine ops_or (ops_int0 L2.op_add) (ops_or ops_catT ops_catL (g := fun d e => (gCatT d e).orElse fun _ => gCatL d e) fun d e z h => ?_) fun d e z h => ?_
    · cases q : gCatT d e with
      | some w => rw [q] at h; exact .inl h
      | none => rw [q] at h; exact .inr h
    · cases d <;> cases e <;> simp only [bop] at h <;> first | (cases h; done) | exact .inl h | exact .inr (by simpa [gCatT, gCatL] using h)
  | sub =>
    exact ops_imp (ops_int0 L2.op_sub) fun d e z h => by
      cases d <;> cases e <;> simp only [bop] at h <;> first | (cases h; done) | exact h
  | mul =>
    refine ops_or (ops_int L2.op_mul fun i j h => mulOk_c h) (ops_or ops_repT ops_repL (g := fun d e => (gRepT d e).orElse fun _ => gRepL d e) fun d e z h => ?_) fun d e z h => ?_
    · cases q : gRepT d e with
      | some w => rw [q] at h; exact .inl h
      | none => rw [q] at h; exact .inr h
    · cases d <;> cases e <;> simp only [bop] at h <;> try (cases h; done)
      · exact .inl h
      · exact .inr (by simp only [gRepT, Option.orElse, gRepL]; exact h)
      · refine .inr ?_
        simp only [gRepT, gRepL]
        rw [h]
        rfl
  | fdiv =>
    exact ops_imp (ops_int (C := fun i j => decide (j ≠ 0 ∧ j.natAbs < 1073741824)) L2.op_fdivN (fun i j h => by simpa only [decide_eq_true_eq, L2.CDivN] using h)) fun d e z h => by
      cases d <;> cases e <;> simp only [bop] at h <;> first | (cases h; done) | simpa only [gI, decide_eq_true_eq] using h
  | mod =>
    exact ops_imp (ops_int (C := fun i j => decide (j ≠ 0)) L2.op_modN (fun i j h => of_decide_eq_true h)) fun d e z h => by
      cases d <;> cases e <;> simp only [bop] at h <;> first | (cases h; done) | simpa only [gI, decide_eq_true_eq] using h
  | pow =>
    exact ops_imp (ops_int (C := fun i j => decide (0 ≤ j ∧ j ≤ 1000000 ∧ i.natAbs < 2 ^ 64)) L2.op_pow (fun i j h => by simpa only [decide_eq_true_eq, L2.CPow] using h)) fun d e z h => by
      cases d <;> cases e <;> simp only [bop] at h <;> first | (cases h; done) | simpa only [gI, decide_eq_true_eq] using h
  | shl =>
    exact ops_imp (ops_int (C := fun i j => decide (0 ≤ j ∧ j ≤ 1000000 ∧ i.natAbs < 2 ^ 64)) L2.op_shl (fun i j h => by simpa only [decide_eq_true_eq, L2.CPow] using h)) fun d e z h => by
      cases d <;> cases e <;> simp only [bop] at h <;> first | (cases h; done) | simpa only [gI, decide_eq_true_eq] using h
  | shr =>
    exact ops_imp (ops_int (C := fun i j => decide (0 ≤ j)) L2.op_shr (fun i j h => of_decide_eq_true h)) fun d e z h => by
      cases d <;> cases e <;> simp only [bop] at h <;> first | (cases h; done) | simpa only [gI, decide_eq_true_eq] using h
  | band =>
    exact ops_imp (ops_int0 L2.op_and) fun d e z h => by
      cases d <;> cases e <;> simp only [bop] at h <;> first | (cases h; done) | exact h
  | bor =>
    exact ops_imp (ops_int0 L2.op_or) fun d e z h => by
      cases d <;> cases e <;> simp only [bop] at h <;> first | (cases h; done) | exact h
  | bxor =>
    exact ops_imp (ops_int0 L2.op_xor) fun d e z h => by
      cases d <;> cases e <;> simp only [bop] at h <;> first | (cases h; done) | exact h

def coOf : Co → CmpOp
  | .eq => .Eq | .ne => .NotEq | .lt => .Lt | .le => .LtE | .gt => .Gt | .ge => .GtE | .isn => .Is | .notn => .IsNot | .inn => .In | .nin => .NotIn
theorem flat_V {v : V} {d : D} (h : flat d = true) (q : Dq K F H v d) : L2.flatV v = true ∧ ∀ {w e}, flat e = true → Rp K F w e → L2.eqV w v = PyData.eqv e d := by
  rcases q with q | ⟨_, _, _, _, e, _⟩
  · cases q with
    | non => exact ⟨rfl, fun {w e} he r => by cases r <;> first | rfl | (cases he; done)⟩
    | bl b => exact ⟨rfl, fun {w e} he r => by cases r <;> first | rfl | (cases he; done)⟩
    | int i => exact ⟨rfl, fun {w e} he r => by cases r <;> first | rfl | (cases he; done)⟩
    | str x => exact ⟨rfl, fun {w e} he r => by cases r <;> first | rfl | (cases he; done)⟩
    | lst _ _ => cases h
    | tup _ _ => cases h
  · subst e
    cases h
theorem flat_all : ∀ {vs : List V} {l : List D}, Rps K F vs l → l.all flat = true → vs.all L2.flatV = true
  | _, _, .nil, _ => rfl
  | _, _, .cons a b, h => by
    simp only [List.all_cons, Bool.and_eq_true] at h ⊢
    exact ⟨(flat_V (H := fun _ => none) h.1 (.inl a)).1, flat_all b h.2⟩
theorem in_eq {v : V} {d : D} (h : flat d = true) (q : Dq K F H v d) : ∀ {vs : List V} {l : List D}, Rps K F vs l → l.all flat = true → L2.inV v vs = inD d l
  | _, _, .nil, _ => rfl
  | _, _, .cons a b, e => by
    simp only [List.all_cons, Bool.and_eq_true] at e
    have h1 := (flat_V h q).2 e.1 a
    have h2 := in_eq h q b e.2
    unfold L2.inV inD at h2 ⊢
    simp only [List.any_cons, h1, h2]
theorem lexI_eq : ∀ a b : List Int, HT.lexLt a b = lexI a b
  | [], [] => rfl
  | [], _ :: _ => rfl
  | _ :: _, [] => rfl
  | x :: xs, y :: ys => by
    show (if x = y then HT.lexLt xs ys else decide (x < y)) = if x = y then lexI xs ys else decide (x < y)
    rw [lexI_eq xs ys]
theorem cval_inv {o : Co} {d e : D} {z : VT} (h : cval o d e = some z) : ∃ b, cop o d e = some b ∧ z = .pl (.bool b) := by
  unfold cval at h
  cases q : cop o d e with
  | none => rw [q] at h; cases h
  | some b => rw [q] at h; cases h; exact ⟨b, rfl, rfl⟩
theorem ops_inF : OpS X T Z (compareOp .In) fun d e => (inF d e).map fun b => .pl (.bool b) := by
  refine ops_of L2.op_in_seq fun σ H x y Q F ρ d e z R dx dy eg k => ?_
  cases e <;> simp only [inF] at eg <;> try (cases eg; done)
  · rename_i l
    split at eg
    · rename_i c
      rw [Bool.and_eq_true] at c
      cases eg
      obtain ⟨a, vs, rfl, h1, r1⟩ := dq_lst dy R.sub
      refine ⟨a, vs, rfl, .inl h1, (flat_V c.1 dx).1, flat_all r1 c.2, ?_⟩
      simp only [Bool.false_eq_true, if_false]
      rw [in_eq c.1 dx r1 c.2]
      exact k _ F H R Stp.refl (.bl _)
    · cases eg
  · rename_i l
    split at eg
    · rename_i c
      rw [Bool.and_eq_true] at c
      cases eg
      obtain ⟨a, vs, rfl, h1, r1⟩ := dq_tup dy
      refine ⟨a, vs, rfl, .inr (sqt_mono R.sub h1), (flat_V c.1 dx).1, flat_all r1 c.2, ?_⟩
      simp only [Bool.false_eq_true, if_false]
      rw [in_eq c.1 dx r1 c.2]
      exact k _ F H R Stp.refl (.bl _)
    · cases eg
theorem ops_inP (hu : X.A.units + 128 < cLine) : OpS X T Z (compareOp .In) fun d e => (inP d e).map fun b => .pl (.bool b) := by
  have h := fun (pins : List (Addr × Obj)) (s : Shared) (σ : L2.St) (H : Hp) (x y : V) (v u : Value) (Q : VK) (I : Inv X pins σ H s) (rx : RelV x v) (ry : RelV y u) (d : D) (l : List D) (lst : Bool) (hd : L2.Dp X.K H x d) (he : L2.Dp X.K H y (if lst then .list l else .tuple l)) (sd : PySem.SeqAt.shaped d = true) (se : PySem.SeqAt.shaped (if lst then .list l else .tuple l) = true) (q : Q (.bl (l.any fun z => PyData.eqv z d)) H) => show wpAny (model X.prog X.w) X.A (compareOp .In v u) (EP X pins σ Q) X.xe s from by
    obtain ⟨as, r1⟩ := L2.Dp.reads I d x v hd rx
    obtain ⟨bs, r2⟩ := L2.Dp.reads I _ y u he ry
    cases lst with
    | true => exact PySem.SeqAt.in_list_reads r2 r1 (PySem.SeqAt.canLay_of_shaped se) (PySem.SeqAt.canLay_of_shaped sd) (PyProof.Rows.room_in_shaped sd (by omega)) ⟨.bl _, H, I, rfl, q⟩
    | false => exact PySem.SeqAt.in_tuple_reads r2 r1 (PySem.SeqAt.canLay_of_shaped se) (PySem.SeqAt.canLay_of_shaped sd) (PyProof.Rows.room_in_shaped sd (by omega)) ⟨.bl _, H, I, rfl, q⟩
  intro pins s σ H x y v u Q F ρ d e z I rx ry R dx dy eg k
  cases e <;> simp only [inP] at eg <;> try (cases eg; done)
  · rename_i l
    split at eg
    · rename_i c
      rw [Bool.and_eq_true] at c
      cases eg
      exact h pins s σ H x y v u Q I rx ry d l true (dx.rp R.sub).dp (dy.rp R.sub).dp c.1 c.2 (k _ F H R Stp.refl (.bl _))
    · cases eg
  · rename_i l
    split at eg
    · rename_i c
      rw [Bool.and_eq_true] at c
      cases eg
      exact h pins s σ H x y v u Q I rx ry d l false (dx.rp R.sub).dp (dy.rp R.sub).dp c.1 c.2 (k _ F H R Stp.refl (.bl _))
    · cases eg
theorem ops_ninF : OpS X T Z (compareOp .NotIn) fun d e => (inF d e).map fun b => .pl (.bool (!b)) := by
  refine ops_of L2.op_notIn_seq fun σ H x y Q F ρ d e z R dx dy eg k => ?_
  cases e <;> simp only [inF] at eg <;> try (cases eg; done)
  · rename_i l
    split at eg
    · rename_i c
      rw [Bool.and_eq_true] at c
      cases eg
      obtain ⟨a, vs, rfl, h1, r1⟩ := dq_lst dy R.sub
      refine ⟨a, vs, rfl, .inl h1, (flat_V c.1 dx).1, flat_all r1 c.2, ?_⟩
      simp only [if_true]
      rw [in_eq c.1 dx r1 c.2]
      exact k _ F H R Stp.refl (.bl _)
    · cases eg
  · rename_i l
    split at eg
    · rename_i c
      rw [Bool.and_eq_true] at c
      cases eg
      obtain ⟨a, vs, rfl, h1, r1⟩ := dq_tup dy
      refine ⟨a, vs, rfl, .inr (sqt_mono R.sub h1), (flat_V c.1 dx).1, flat_all r1 c.2, ?_⟩
      simp only [if_true]
      rw [in_eq c.1 dx r1 c.2]
      exact k _ F H R Stp.refl (.bl _)
    · cases eg
theorem ops_ninP (hu : X.A.units + 128 < cLine) : OpS X T Z (compareOp .NotIn) fun d e => (inP d e).map fun b => .pl (.bool (!b)) := by
  have h := fun (pins : List (Addr × Obj)) (s : Shared) (σ : L2.St) (H : Hp) (x y : V) (v u : Value) (Q : VK) (I : Inv X pins σ H s) (rx : RelV x v) (ry : RelV y u) (d : D) (l : List D) (lst : Bool) (hd : L2.Dp X.K H x d) (he : L2.Dp X.K H y (if lst then .list l else .tuple l)) (sd : PySem.SeqAt.shaped d = true) (se : PySem.SeqAt.shaped (if lst then .list l else .tuple l) = true) (q : Q (.bl (!l.any fun z => PyData.eqv z d)) H) => show wpAny (model X.prog X.w) X.A (compareOp .NotIn v u) (EP X pins σ Q) X.xe s from by
    obtain ⟨as, r1⟩ := L2.Dp.reads I d x v hd rx
    obtain ⟨bs, r2⟩ := L2.Dp.reads I _ y u he ry
    cases lst with
    | true => exact PySem.SeqAt.notIn_list_reads r2 r1 (PySem.SeqAt.canLay_of_shaped se) (PySem.SeqAt.canLay_of_shaped sd) (PyProof.Rows.room_in_shaped sd (by omega)) ⟨.bl _, H, I, rfl, q⟩
    | false => exact PySem.SeqAt.notIn_tuple_reads r2 r1 (PySem.SeqAt.canLay_of_shaped se) (PySem.SeqAt.canLay_of_shaped sd) (PyProof.Rows.room_in_shaped sd (by omega)) ⟨.bl _, H, I, rfl, q⟩
  intro pins s σ H x y v u Q F ρ d e z I rx ry R dx dy eg k
  cases e <;> simp only [inP] at eg <;> try (cases eg; done)
  · rename_i l
    split at eg
    · rename_i c
      rw [Bool.and_eq_true] at c
      cases eg
      exact h pins s σ H x y v u Q I rx ry d l true (dx.rp R.sub).dp (dy.rp R.sub).dp c.1 c.2 (k _ F H R Stp.refl (.bl _))
    · cases eg
  · rename_i l
    split at eg
    · rename_i c
      rw [Bool.and_eq_true] at c
      cases eg
      exact h pins s σ H x y v u Q I rx ry d l false (dx.rp R.sub).dp (dy.rp R.sub).dp c.1 c.2 (k _ F H R Stp.refl (.bl _))
    · cases eg
/-- an order of data -/
def gDat (r : D → D → Bool) (d e : D) : Option VT := if ordE d e && !isNone d then some (.pl (.bool (r d e))) else none
theorem ops_dat {op : CmpOp} {r : D → D → Bool} (hu : X.A.units + 64 < cLine)
    (h : ∀ (s : Shared) (a b : Value) (da db : D) (as bs : List Addr) (Q : Value → Shared → Prop), Reads s.heap a da as → Reads s.heap b db bs → PySem.W.alike da db = true → da ≠ .none → X.A.units + min da.depth db.depth < cLine → Q (.bool (r da db)) s → wpAny (model X.prog X.w) X.A (compareOp op a b) Q X.xe s) :
    OpS X T Z (compareOp op) (gDat r) := by
  intro pins s σ H x y v u Q F ρ d e z I rx ry R dx dy eg k
  unfold gDat at eg
  split at eg
  · rename_i c
    cases eg
    simp only [ordE, Bool.and_eq_true, decide_eq_true_eq, Bool.not_eq_true'] at c
    obtain ⟨⟨c1, c2, c3⟩, c4⟩ := c
    obtain ⟨as, r1⟩ := L2.Dp.reads I d x v (dx.rp R.sub).dp rx
    obtain ⟨bs, r2⟩ := L2.Dp.reads I e y u (dy.rp R.sub).dp ry
    refine h s v u d e as bs _ r1 r2 c1 (fun z => by rw [z] at c4; cases c4) (by omega) ⟨.bl _, H, I, rfl, k _ F H R Stp.refl (.bl _)⟩
  · cases eg
theorem gDat_of {r : D → D → Bool} {d e : D} {b : Bool} (h : (if ordE d e then some (r d e) else none) = some b) (hn : isNone d = false) : gDat r d e = some (.pl (.bool b)) := by
  unfold gDat
  split at h
  · rename_i c
    cases h
    rw [c, hn]; rfl
  · cases h
theorem ops_cop (o : Co) (hu : X.A.units + 128 < cLine) : OpS X T Z (compareOp (coOf o)) (cval o) := by
  have cmpI : ∀ {p : Int → Int → Bool} {f : Value → Value → Sem Value}, OpR X f (L2.rI0 fun i j => .bl (p i j)) → OpS X T Z f (gI (fun _ _ => true) fun i j => .bool (p i j)) := fun h => ops_bool0 h
  cases o with
  | eq =>
    refine ops_of (L2.op_eqD (by omega)) fun σ H x y Q F ρ d e z R dx dy eg k => ?_
    obtain ⟨b, eb, rfl⟩ := cval_inv eg
    simp only [cop] at eb
    split at eb
    · rename_i c
      rw [Bool.and_eq_true] at c
      cases eb
      exact ⟨d, e, (dx.rp R.sub).dp, (dy.rp R.sub).dp, c.1, c.2, k _ F H R Stp.refl (.bl _)⟩
    · cases eb
  | ne =>
    refine ops_of (L2.op_neD (by omega)) fun σ H x y Q F ρ d e z R dx dy eg k => ?_
    obtain ⟨b, eb, rfl⟩ := cval_inv eg
    simp only [cop] at eb
    split at eb
    · rename_i c
      rw [Bool.and_eq_true] at c
      cases eb
      exact ⟨d, e, (dx.rp R.sub).dp, (dy.rp R.sub).dp, c.1, c.2, k _ F H R Stp.refl (.bl _)⟩
    · cases eb
  | lt =>
    refine ops_or (cmpI L2.op_lt) (ops_or (g := fun d e => (match d, e with | .tuple xs, .tuple ys => (lexD xs ys).map fun b => VT.pl (.bool b) | _, _ => none).orElse fun _ => gDat PySem.W.dataLt d e) (g1 := fun d e => match d, e with | .tuple xs, .tuple ys => (lexD xs ys).map fun b => .pl (.bool b) | _, _ => none) (ops_of (L2.op_ltT (by omega)) fun σ H x y Q F ρ d e z R dx dy eg k => ?_) (ops_dat (by omega) fun s a b da db as bs Q r1 r2 r3 r4 r5 q => PySem.W.lt_data r1 r2 r3 r4 r5 q) fun d e z h => ?_) fun d e z h => ?_
    · cases d <;> cases e <;> simp only at eg <;> try (cases eg; done)
      rename_i xs ys
      unfold lexD at eg
      cases q1 : intsD xs with
      | none => rw [q1] at eg; cases eg
      | some a =>
        cases q2 : intsD ys with
        | none => rw [q1, q2] at eg; cases eg
        | some b =>
          rw [q1, q2] at eg
          cases eg
          obtain ⟨p, vs, rfl, h1, r1⟩ := dq_tup dx
          obtain ⟨q, us, rfl, h2, r2⟩ := dq_tup dy
          have e1 := dps_int r1 q1
          have e2 := dps_int r2 q2
          subst e1 e2
          refine ⟨p, q, a, b, rfl, rfl, sqt_mono R.sub h1, sqt_mono R.sub h2, ?_⟩
          rw [lexI_eq]
          exact k _ F H R Stp.refl (.bl _)
    · generalize (match d, e with | .tuple xs, .tuple ys => (lexD xs ys).map fun b => VT.pl (.bool b) | _, _ => none) = o at h ⊢
      cases o with
      | none => exact .inr h
      | some w => exact .inl h
    · obtain ⟨b, eb, rfl⟩ := cval_inv h
      cases d <;> cases e <;> simp only [cop] at eb <;> first | (cases eb; done) | (cases eb; exact .inl rfl) | skip
      · exact .inr (gDat_of eb rfl)
      · exact .inr (gDat_of eb rfl)
      · rename_i xs ys
        refine .inr ?_
        show ((lexD xs ys).map fun b => VT.pl (.bool b)).orElse _ = _
        cases q : lexD xs ys with
        | some w => rw [q] at eb; cases eb; rfl
        | none => rw [q] at eb; exact gDat_of eb rfl
  | le =>
    refine ops_or (cmpI L2.op_le) (ops_dat (r := fun x y => !PySem.W.dataLt y x) (by omega) fun s a b da db as bs Q r1 r2 r3 r4 r5 q => PySem.W.le_data r1 r2 r3 r4 r5 q) fun d e z h => ?_
    obtain ⟨b, eb, rfl⟩ := cval_inv h
    cases d <;> cases e <;> simp only [cop] at eb <;> first | (cases eb; done) | (cases eb; exact .inl rfl) | exact .inr (gDat_of eb rfl)
  | gt =>
    refine ops_or (cmpI L2.op_gt) (ops_dat (r := fun x y => PySem.W.dataLt y x) (by omega) fun s a b da db as bs Q r1 r2 r3 r4 r5 q => PySem.W.gt_data r1 r2 r3 r4 r5 q) fun d e z h => ?_
    obtain ⟨b, eb, rfl⟩ := cval_inv h
    cases d <;> cases e <;> simp only [cop] at eb <;> first | (cases eb; done) | (cases eb; exact .inl rfl) | exact .inr (gDat_of eb rfl)
  | ge =>
    refine ops_or (cmpI L2.op_ge) (ops_dat (r := fun x y => !PySem.W.dataLt x y) (by omega) fun s a b da db as bs Q r1 r2 r3 r4 r5 q => PySem.W.ge_data r1 r2 r3 r4 r5 q) fun d e z h => ?_
    obtain ⟨b, eb, rfl⟩ := cval_inv h
    cases d <;> cases e <;> simp only [cop] at eb <;> first | (cases eb; done) | (cases eb; exact .inl rfl) | exact .inr (gDat_of eb rfl)
  | isn =>
    refine ops_of L2.op_isN fun σ H x y Q F ρ d e z R dx dy eg k => ?_
    obtain ⟨b, eb, rfl⟩ := cval_inv eg
    cases e <;> simp only [cop] at eb <;> try (cases eb; done)
    refine ⟨dq_non dy, ?_⟩
    have q := k (.bl b) F H R Stp.refl (.bl _)
    cases eb
    have ex : decide (x = .non) = isNone d := by
      rcases dx with dx | ⟨a, vs, ds, rfl, rfl, _⟩
      · cases dx <;> simp [isNone]
      · simp [isNone]
    rw [ex]
    exact q
  | notn =>
    refine ops_of L2.op_notN fun σ H x y Q F ρ d e z R dx dy eg k => ?_
    obtain ⟨b, eb, rfl⟩ := cval_inv eg
    cases e <;> simp only [cop] at eb <;> try (cases eb; done)
    refine ⟨dq_non dy, ?_⟩
    have q := k (.bl b) F H R Stp.refl (.bl _)
    cases eb
    have ex : (!decide (x = .non)) = !isNone d := by
      rcases dx with dx | ⟨a, vs, ds, rfl, rfl, _⟩
      · cases dx <;> simp [isNone]
      · simp [isNone]
    rw [ex]
    exact q
  | inn =>
    refine ops_or (ops_inF) (ops_inP (by omega)) fun d e z h => ?_
    obtain ⟨b, eb, rfl⟩ := cval_inv h
    have eb : (inF d e).or (inP d e) = some b := eb
    cases q : inF d e with
    | some c => rw [q] at eb; cases eb; exact .inl rfl
    | none => rw [q] at eb; exact .inr (by rw [show inP d e = some b from eb]; rfl)
  | nin =>
    refine ops_or (ops_ninF) (ops_ninP (by omega)) fun d e z h => ?_
    obtain ⟨b, eb, rfl⟩ := cval_inv h
    have eb : ((inF d e).or (inP d e)).map (fun b => !b) = some b := eb
    cases q : inF d e with
    | some c => rw [q] at eb; cases eb; exact .inl rfl
    | none =>
      rw [q] at eb
      refine .inr ?_
      have eb : (inP d e).map (fun b => !b) = some b := eb
      cases q2 : inP d e with
      | none => rw [q2] at eb; cases eb
      | some c => rw [q2] at eb; cases eb; rfl
end
end Sw

end
section
set_option maxRecDepth 100000
set_option maxHeartbeats 1000000
namespace Sw
open PySem PySem.Spec PyProof.Rows
open L2 (V Hp HO upd upd_same upd_ne SqL SqT Rd VK XK WX Cx Inv RelV Vals PE PT PW PA PS PSs EP TP AP SP TE TT TA TS Takes thn Gl Vis Loc Room OpR CallR)
section
variable {X : Cx} {T : List (Addr × Str)} {fld : Fld} {Z : Gh} {W : WX} {σ : L2.St} {F F' H H' : Hp} {ρ ρ' : Env} {K : PySem.W.Frag}
theorem ixN_eq (n : Nat) (i : Int) : L2.ixN n i = ixN n i := rfl
theorem atI_of {vs : List V} {ds : List D} {i : Int} {d : D} (r : Rps K F vs ds) (h : atI ds i = some d) : ∃ v, L2.atI vs i = some v ∧ Rp K F v d := by
  unfold atI at h
  cases q : ixN ds.length i with
  | none => rw [q] at h; cases h
  | some j =>
    rw [q] at h
    obtain ⟨v, e1, e2⟩ := dps_get r h
    refine ⟨v, ?_, e2⟩
    unfold L2.atI
    rw [ixN_eq, dps_len r, q]
    exact e1
theorem atI_str (l : List Nat) (i : Int) : L2.atI l i = atI l i := rfl
theorem ops_ix {a b : Expr} (hp : L2.PlainIx b) : OpS X T Z (fun v u => subscriptTail a b v u) (fun d e => (ixD d e).map .pl) := by
  intro pins s σ H x y v u Q F ρ d e z I rx ry R dx dy eg k
  refine L2.ix_seq a b pins s σ H x y v u Q I rx ry ?_ (hp _ _)
  cases d <;> cases e <;> simp only [ixD] at eg <;> try (cases eg; done)
  · rename_i x i
    split at eg
    · rename_i hz
      cases q : atI x.cps.toList i with
      | none => rw [q] at eg; cases eg
      | some c =>
        rw [q] at eg
        cases eg
        exact .inr (.inr ⟨x, i, c, dq_str dx, dq_int dy, by rw [← SZ_line]; exact hz, (atI_str _ _).trans q, k _ F H R Stp.refl (.str _)⟩)
    · cases eg
  · rename_i l i
    cases q : atI l i with
    | none => rw [q] at eg; cases eg
    | some c =>
      rw [q] at eg
      cases eg
      obtain ⟨p, vs, rfl, h1, r1⟩ := dq_lst dx R.sub
      obtain ⟨w, e1, e2⟩ := atI_of r1 q
      exact .inl ⟨p, vs, i, w, rfl, dq_int dy, h1, e1, k _ F H R Stp.refl e2⟩
  · rename_i l i
    cases q : atI l i with
    | none => rw [q] at eg; cases eg
    | some c =>
      rw [q] at eg
      cases eg
      obtain ⟨p, vs, rfl, h1, r1⟩ := dq_tup dx
      obtain ⟨w, e1, e2⟩ := atI_of r1 q
      exact .inr (.inl ⟨p, vs, i, w, rfl, dq_int dy, sqt_mono R.sub h1, e1, k _ F H R Stp.refl e2⟩)
theorem sIx_eq (n d : Nat) (o : Option Int) : HT.sIx n d o = sIx n d o := by
  cases o <;> rfl
theorem cut_of {vs : List V} {ds : List D} (r : Rps K F vs ds) (lo hi : Option Int) : Rps K F (L2.cutV vs lo hi) (cut ds lo hi) := by
  unfold L2.cutV cut
  rw [sIx_eq, sIx_eq, dps_len r]
  exact dps_take _ (dps_drop _ r)
theorem sIx_le (n : Nat) (o : Option Int) : sIx n n o ≤ n ∨ True := .inr trivial
theorem cut_whole {ds : List D} {lo hi : Option Int} (h : sIx ds.length 0 lo = 0 ∧ sIx ds.length ds.length hi = ds.length) : cut ds lo hi = ds := by
  unfold cut
  rw [h.1, h.2, List.drop_zero, Nat.sub_zero]
  exact List.take_length
def rSl (K : PySem.W.Frag) : V → Option Int → Option Int → Hp → VK → Prop := fun x lo hi H Q => L2.rSlL K x lo hi H Q ∨ L2.rSlA K x lo hi H Q
theorem sl_any : L2.SlR X (rSl X.K) := L2.sl_list.or L2.sl_tupA
theorem rsl_of {x : V} {d : D} {lo hi : Option Int} {Q : VK} {z : VT} (R : Rel X.K T Z F H σ ρ) (dx : Dq X.K F H x d) (eg : sliD d lo hi = some z)
    (k : ∀ w F' H', Rel X.K T Z F' H' σ ρ → Stp F H σ ρ F' H' ρ → Rv X.K Z H ρ F' H' σ ρ w z → Q w H') : rSl X.K x lo hi H Q := by
  cases d <;> simp only [sliD] at eg <;> try (cases eg; done)
  · rename_i l
    cases eg
    obtain ⟨p, vs, rfl, h1, r1⟩ := dq_lst dx R.sub
    refine .inl ⟨p, vs, rfl, h1, fun q hq => ?_⟩
    obtain ⟨R2, S2, w⟩ := k_lst R hq (cut_of r1 lo hi)
    exact k _ _ _ R2 S2 w
  · rename_i l
    cases eg
    obtain ⟨p, vs, rfl, h1, r1⟩ := dq_tup dx
    refine .inr ⟨p, vs, rfl, sqt_mono R.sub h1, fun hw => ?_, fun hw q hq => ?_⟩
    · rw [sIx_eq, sIx_eq, dps_len r1] at hw
      refine k _ F H R Stp.refl ?_
      rw [cut_whole hw]
      exact .tup h1 r1
    · obtain ⟨F2, R2, S2, w⟩ := k_tup R hq (cut_of r1 lo hi)
      exact k _ F2 _ R2 S2 w
inductive Dqs (K : PySem.W.Frag) (F H : Hp) : List V → List D → Prop
  | nil : Dqs K F H [] []
  | cons {v d vs ds} : Dq K F H v d → Dqs K F H vs ds → Dqs K F H (v :: vs) (d :: ds)
theorem dqs_of (R : Rel X.K T Z F H σ ρ) : ∀ {vs : List V} {qs : List Qv} {ds : List D}, Qrs X F σ vs qs → rsvs ρ qs = some ds → Dqs X.K F H vs ds
  | _, _, _, .nil, e => by
    cases e
    exact .nil
  | _, _, _, .cons (q := q) (qs := qs) a b, e => by
    unfold rsvs at e
    cases e1 : rsv ρ q with
    | none => rw [e1] at e; cases e
    | some d =>
      cases e2 : rsvs ρ qs with
      | none => rw [e1, e2] at e; cases e
      | some l =>
        rw [e1, e2] at e
        cases e
        exact .cons (dq_of R a e1) (dqs_of R b e2)
def CallS (X : Cx) (T : List (Addr × Str)) (Z : Gh) (u : Value) (g : List D → Option VT) : Prop :=
  ∀ (pins : List (Addr × Obj)) (s : Shared) (σ : L2.St) (H : Hp) (xs : List V) (us : List Value) (Q : VK) (F : Hp) (ρ : Env) (ds : List D) (r : VT), Inv X pins σ H s → Vals xs us →
    Rel X.K T Z F H σ ρ → Dqs X.K F H xs ds → g ds = some r →
    (∀ w F' H', Rel X.K T Z F' H' σ ρ → Stp F H σ ρ F' H' ρ → Rv X.K Z H ρ F' H' σ ρ w r → Q w H') → wpAny (model X.prog X.w) X.A (PySem.call u us) (EP X pins σ Q) X.xe s
theorem calls_of {u : Value} {g : List D → Option VT} {r : List V → Hp → VK → Prop} (h : CallR X u r)
    (hr : ∀ (σ : L2.St) (H : Hp) (xs : List V) (Q : VK) (F : Hp) (ρ : Env) (ds : List D) (z : VT), Rel X.K T Z F H σ ρ → Dqs X.K F H xs ds → g ds = some z →
      (∀ w F' H', Rel X.K T Z F' H' σ ρ → Stp F H σ ρ F' H' ρ → Rv X.K Z H ρ F' H' σ ρ w z → Q w H') → r xs H Q) : CallS X T Z u g :=
  fun pins s σ H xs us Q F ρ ds z I rv R dx eg k => h pins s σ H xs us Q I rv (hr σ H xs Q F ρ ds z R dx eg k)
theorem calls_or {u : Value} {g g1 g2 : List D → Option VT} (h1 : CallS X T Z u g1) (h2 : CallS X T Z u g2) (hg : ∀ ds z, g ds = some z → g1 ds = some z ∨ g2 ds = some z) : CallS X T Z u g :=
  fun pins s σ H xs us Q F ρ ds z I rv R dx eg k => by
    rcases hg ds z eg with q | q
    · exact h1 pins s σ H xs us Q F ρ ds z I rv R dx q k
    · exact h2 pins s σ H xs us Q F ρ ds z I rv R dx q k
theorem dqs_one {xs : List V} {d : D} (h : Dqs K F H xs [d]) : ∃ v, xs = [v] ∧ Dq K F H v d := by
  cases h with
  | cons a b =>
    cases b
    exact ⟨_, rfl, a⟩
theorem dqs_two {xs : List V} {d e : D} (h : Dqs K F H xs [d, e]) : ∃ v u, xs = [v, u] ∧ Dq K F H v d ∧ Dq K F H u e := by
  cases h with
  | cons a b =>
    cases b with
    | cons c b =>
      cases b
      exact ⟨_, _, rfl, a, c⟩
/-- the value that the name of a built-in function stands for -/
def valOf : Bf → Value
  | .len => .builtin "len" | .tuple => .type "tuple" | .list => .type "list" | .int => .type "int" | .min => .builtin "min" | .max => .builtin "max" | .abs => .builtin "abs" | .sum => .builtin "sum"
  | .divmod => .builtin "divmod"
  | .all => .builtin "all" | .any => .builtin "any" | .sorted => .builtin "sorted" | .isqrt => .builtin "math.isqrt" | .gcd => .builtin "math.gcd" | .isi _ => .builtin "isinstance" | .isis _ => .builtin "isinstance"
theorem greatest_spec : ∀ (l : List Int) (m : Int), (greatest m l = m ∨ greatest m l ∈ l) ∧ m ≤ greatest m l ∧ ∀ y ∈ l, y ≤ greatest m l
  | [], m => ⟨.inl rfl, Int.le_refl _, fun _ h => by cases h⟩
  | x :: r, m => by
    have w : m ≤ (if m < x then x else m) ∧ x ≤ (if m < x then x else m) ∧ ((if m < x then x else m) = x ∨ (if m < x then x else m) = m) := by split <;> omega
    obtain ⟨w1, w2, w3⟩ := w
    show (greatest (if m < x then x else m) r = m ∨ greatest (if m < x then x else m) r ∈ x :: r) ∧ m ≤ greatest (if m < x then x else m) r ∧ ∀ y ∈ x :: r, y ≤ greatest (if m < x then x else m) r
    generalize (if m < x then x else m) = g at *
    obtain ⟨h1, h2, h3⟩ := greatest_spec r g
    refine ⟨?_, by omega, fun y hy => ?_⟩
    · rcases h1 with h1 | h1
      · rcases w3 with w3 | w3
        · exact .inr (by rw [h1, w3]; exact List.mem_cons_self)
        · exact .inl (h1.trans w3)
      · exact .inr (List.mem_cons_of_mem _ h1)
    · rcases List.mem_cons.mp hy with e | e
      · omega
      · exact h3 y e
theorem least_spec : ∀ (l : List Int) (m : Int), (least m l = m ∨ least m l ∈ l) ∧ least m l ≤ m ∧ ∀ y ∈ l, least m l ≤ y
  | [], m => ⟨.inl rfl, Int.le_refl _, fun _ h => by cases h⟩
  | x :: r, m => by
    have w : (if x < m then x else m) ≤ m ∧ (if x < m then x else m) ≤ x ∧ ((if x < m then x else m) = x ∨ (if x < m then x else m) = m) := by split <;> omega
    obtain ⟨w1, w2, w3⟩ := w
    show (least (if x < m then x else m) r = m ∨ least (if x < m then x else m) r ∈ x :: r) ∧ least (if x < m then x else m) r ≤ m ∧ ∀ y ∈ x :: r, least (if x < m then x else m) r ≤ y
    generalize (if x < m then x else m) = g at *
    obtain ⟨h1, h2, h3⟩ := least_spec r g
    refine ⟨?_, by omega, fun y hy => ?_⟩
    · rcases h1 with h1 | h1
      · rcases w3 with w3 | w3
        · exact .inr (by rw [h1, w3]; exact List.mem_cons_self)
        · exact .inl (h1.trans w3)
      · exact .inr (List.mem_cons_of_mem _ h1)
    · rcases List.mem_cons.mp hy with e | e
      · omega
      · exact h3 y e
theorem calls_len : CallS X T Z (.builtin "len") lenF := by
  refine calls_of L2.call_len fun σ H xs Q F ρ ds z R dx eg k => ?_
  unfold lenF at eg
  split at eg
  · cases eg
    obtain ⟨v, rfl, q⟩ := dqs_one dx
    obtain ⟨a, vs, rfl, h1, r1⟩ := dq_lst q R.sub
    refine ⟨_, vs.length, rfl, .inl ⟨vs, h1, rfl⟩, ?_⟩
    rw [dps_len r1]
    exact k _ F H R Stp.refl (.int _)
  · cases eg
    obtain ⟨v, rfl, q⟩ := dqs_one dx
    obtain ⟨a, vs, rfl, h1, r1⟩ := dq_tup q
    refine ⟨_, vs.length, rfl, .inr ⟨vs, sqt_mono R.sub h1, rfl⟩, ?_⟩
    rw [dps_len r1]
    exact k _ F H R Stp.refl (.int _)
  · split at eg
    · rename_i hz
      cases eg
      obtain ⟨v, rfl, q⟩ := dqs_one dx
      cases dq_str q
      exact ⟨_, _, rfl, ⟨by rw [← SZ_line]; exact hz, rfl⟩, k _ F H R Stp.refl (.int _)⟩
    · cases eg
  · cases eg
theorem calls_tup : CallS X T Z (.type "tuple") tupF := by
  refine calls_of L2.call_tuple_of fun σ H xs Q F ρ ds z R dx eg k => ?_
  unfold tupF at eg
  split at eg
  · cases eg
    obtain ⟨v, rfl, q⟩ := dqs_one dx
    obtain ⟨a, vs, rfl, h1, r1⟩ := dq_lst q R.sub
    refine ⟨a, vs, rfl, .inl ⟨h1, fun p hp => ?_⟩⟩
    obtain ⟨F2, R2, S2, w⟩ := k_tup R hp r1
    exact k _ F2 _ R2 S2 w
  · cases eg
    obtain ⟨v, rfl, q⟩ := dqs_one dx
    obtain ⟨a, vs, rfl, h1, r1⟩ := dq_tup q
    exact ⟨a, vs, rfl, .inr ⟨sqt_mono R.sub h1, k _ F H R Stp.refl (.tup h1 r1)⟩⟩
  · cases eg
theorem calls_lis : CallS X T Z (.type "list") lisF := by
  refine calls_of L2.call_list_of fun σ H xs Q F ρ ds z R dx eg k => ?_
  unfold lisF at eg
  split at eg
  · cases eg
    obtain ⟨v, rfl, q⟩ := dqs_one dx
    obtain ⟨a, vs, rfl, h1, r1⟩ := dq_lst q R.sub
    refine ⟨a, vs, rfl, .inl h1, fun p hp => ?_⟩
    obtain ⟨R2, S2, w⟩ := k_lst R hp r1
    exact k _ _ _ R2 S2 w
  · cases eg
    obtain ⟨v, rfl, q⟩ := dqs_one dx
    obtain ⟨a, vs, rfl, h1, r1⟩ := dq_tup q
    refine ⟨a, vs, rfl, .inr (sqt_mono R.sub h1), fun p hp => ?_⟩
    obtain ⟨R2, S2, w⟩ := k_lst R hp r1
    exact k _ _ _ R2 S2 w
  · cases eg
theorem calls_int : CallS X T Z (.type "int") intF := by
  refine calls_of L2.call_int1 fun σ H xs Q F ρ ds z R dx eg k => ?_
  unfold intF at eg
  split at eg
  · cases eg
    obtain ⟨v, rfl, q⟩ := dqs_one dx
    cases dq_int q
    exact .inl ⟨_, rfl, k _ F H R Stp.refl (.int _)⟩
  · cases eg
theorem calls_abs : CallS X T Z (.builtin "abs") absF := by
  refine calls_of L2.call_abs fun σ H xs Q F ρ ds z R dx eg k => ?_
  unfold absF at eg
  split at eg
  · cases eg
    obtain ⟨v, rfl, q⟩ := dqs_one dx
    cases dq_int q
    exact ⟨_, rfl, k _ F H R Stp.refl (.int _)⟩
  · cases eg
theorem calls_sum (hc : X.calm = true) : CallS X T Z (.builtin "sum") sumF := by
  refine calls_of (L2.cr_sum hc) fun σ H xs Q F ρ ds z R dx eg k => ?_
  unfold sumF at eg
  split at eg
  · rename_i l
    cases e : intsD l with
    | none => rw [e] at eg; cases eg
    | some ns =>
      rw [e] at eg
      cases eg
      obtain ⟨v, rfl, q⟩ := dqs_one dx
      obtain ⟨a, vs, rfl, h1, r1⟩ := dq_lst q R.sub
      have e2 := dps_int r1 e
      subst e2
      exact ⟨a, ns, rfl, h1, k _ F H R Stp.refl (.int _)⟩
  · cases eg
theorem calls_all (hc : X.calm = true) : CallS X T Z (.builtin "all") allF := by
  refine calls_of (L2.cr_all hc) fun σ H xs Q F ρ ds z R dx eg k => ?_
  unfold allF at eg
  split at eg
  · rename_i l
    cases e : boolsD l with
    | none => rw [e] at eg; cases eg
    | some ns =>
      rw [e] at eg
      cases eg
      obtain ⟨v, rfl, q⟩ := dqs_one dx
      obtain ⟨a, vs, rfl, h1, r1⟩ := dq_lst q R.sub
      have e2 := dps_bl r1 e
      subst e2
      exact ⟨a, ns, rfl, h1, k _ F H R Stp.refl (.bl _)⟩
  · cases eg
theorem calls_any (hc : X.calm = true) : CallS X T Z (.builtin "any") anyF := by
  refine calls_of (L2.cr_any hc) fun σ H xs Q F ρ ds z R dx eg k => ?_
  unfold anyF at eg
  split at eg
  · rename_i l
    cases e : boolsD l with
    | none => rw [e] at eg; cases eg
    | some ns =>
      rw [e] at eg
      cases eg
      obtain ⟨v, rfl, q⟩ := dqs_one dx
      obtain ⟨a, vs, rfl, h1, r1⟩ := dq_lst q R.sub
      have e2 := dps_bl r1 e
      subst e2
      exact ⟨a, ns, rfl, h1, k _ F H R Stp.refl (.bl _)⟩
  · cases eg
def rMaxT (K : PySem.W.Frag) : List V → Hp → VK → Prop := fun vs H Q => ∃ (a : Addr) (ns : List Int), vs = [V.ref a] ∧ SqT K H a (ns.map V.int) ∧ 0 < ns.length ∧ ∀ m, m ∈ ns → (∀ y, y ∈ ns → y ≤ m) → Q (.int m) H
def rMinT (K : PySem.W.Frag) : List V → Hp → VK → Prop := fun vs H Q => ∃ (a : Addr) (ns : List Int), vs = [V.ref a] ∧ SqT K H a (ns.map V.int) ∧ 0 < ns.length ∧ ∀ m, m ∈ ns → (∀ y, y ∈ ns → m ≤ y) → Q (.int m) H
theorem alike_ints (ns : List Int) : PySem.W.AlikeAll (ns.map PyData.int) := by
  refine ⟨fun x hx y hy => ?_, fun x hx => ?_⟩
  · obtain ⟨a, _, rfl⟩ := List.mem_map.mp hx
    obtain ⟨b, _, rfl⟩ := List.mem_map.mp hy
    simp only [PySem.W.alike]
  · obtain ⟨a, _, rfl⟩ := List.mem_map.mp hx
    intro e
    cases e
theorem depth_ints : ∀ ns : List Int, PyData.depthAll (ns.map PyData.int) ≤ 1
  | [] => by simp [PyData.depthAll]
  | n :: ns => by
    have := depth_ints ns
    simp only [List.map_cons, PyData.depthAll, PyData.depth]
    omega
theorem fold_max : ∀ (ns : List Int) (n : Int), (ns.foldl max n = n ∨ ns.foldl max n ∈ ns) ∧ n ≤ ns.foldl max n ∧ ∀ y ∈ ns, y ≤ ns.foldl max n
  | [], n => ⟨.inl rfl, Int.le_refl _, fun y h => by cases h⟩
  | x :: r, n => by
    obtain ⟨h1, h2, h3⟩ := fold_max r (max n x)
    rw [List.foldl_cons]
    refine ⟨?_, by omega, fun y hy => ?_⟩
    · rcases h1 with h1 | h1
      · rw [h1]
        by_cases c : n ≤ x
        · exact .inr (by rw [show max n x = x by omega]; exact List.mem_cons_self)
        · exact .inl (by omega)
      · exact .inr (List.mem_cons_of_mem _ h1)
    · rcases List.mem_cons.mp hy with e | hy
      · subst e; omega
      · exact h3 y hy
theorem fold_min : ∀ (ns : List Int) (n : Int), (ns.foldl min n = n ∨ ns.foldl min n ∈ ns) ∧ ns.foldl min n ≤ n ∧ ∀ y ∈ ns, ns.foldl min n ≤ y
  | [], n => ⟨.inl rfl, Int.le_refl _, fun y h => by cases h⟩
  | x :: r, n => by
    obtain ⟨h1, h2, h3⟩ := fold_min r (min n x)
    rw [List.foldl_cons]
    refine ⟨?_, by omega, fun y hy => ?_⟩
    · rcases h1 with h1 | h1
      · rw [h1]
        by_cases c : x ≤ n
        · exact .inr (by rw [show min n x = x by omega]; exact List.mem_cons_self)
        · exact .inl (by omega)
      · exact .inr (List.mem_cons_of_mem _ h1)
    · rcases List.mem_cons.mp hy with e | hy
      · subst e; omega
      · exact h3 y hy
theorem reads_int {h : Heap} {v : Value} {i : Int} {bs : List Addr} (r : Reads h v (.int i) bs) : ∃ t, v = .int i t := by cases r; exact ⟨_, rfl⟩
theorem cr_maxT (hc : X.calm = true) (hu : X.A.units + 64 < cLine) : CallR X (.builtin "max") (rMaxT X.K) := by
  intro pins s σ H vs us Q I r h
  obtain ⟨a, ns, rfl, hs, hne, q⟩ := h
  obtain ⟨its, rv, hl, _⟩ := I.tuple hs
  rw [L2.Vals.ref1 r]
  have hi := rv.ints
  cases ns with
  | nil => exact absurd hne (by simp)
  | cons n ns =>
    have hd : PyData.depthAll (PyData.int n :: ns.map PyData.int) ≤ 1 := depth_ints (n :: ns)
    refine PySem.W.max_tuple_data (I.ok.hd hc) hl (hi.reads s.heap) (alike_ints (n :: ns)) (by omega) fun i v h' tk bs hv hr hk => ?_
    have e : PySem.W.maxD (.int n) (ns.map .int) = .int (ns.foldl max n) := PySem.W.maxD_ints n ns
    rw [e] at hr
    obtain ⟨t, rfl⟩ := reads_int hr
    obtain ⟨f1, f2, f3⟩ := fold_max ns n
    exact ⟨.int _, H, I.kept hk, ⟨_, rfl⟩, q _ (by rcases f1 with f1 | f1; · rw [f1]; exact List.mem_cons_self
                                                   · exact List.mem_cons_of_mem _ f1) fun y hy => by rcases List.mem_cons.mp hy with e | hy; · subst e; exact f2
                                                                                                     · exact f3 y hy⟩
theorem cr_minT (hc : X.calm = true) (hu : X.A.units + 64 < cLine) : CallR X (.builtin "min") (rMinT X.K) := by
  intro pins s σ H vs us Q I r h
  obtain ⟨a, ns, rfl, hs, hne, q⟩ := h
  obtain ⟨its, rv, hl, _⟩ := I.tuple hs
  rw [L2.Vals.ref1 r]
  have hi := rv.ints
  cases ns with
  | nil => exact absurd hne (by simp)
  | cons n ns =>
    have hd : PyData.depthAll (PyData.int n :: ns.map PyData.int) ≤ 1 := depth_ints (n :: ns)
    refine PySem.W.min_tuple_data (I.ok.hd hc) hl (hi.reads s.heap) (alike_ints (n :: ns)) (by omega) fun i v h' tk bs hv hr hk => ?_
    have e : PySem.W.minD (.int n) (ns.map .int) = .int (ns.foldl min n) := PySem.W.minD_ints n ns
    rw [e] at hr
    obtain ⟨t, rfl⟩ := reads_int hr
    obtain ⟨f1, f2, f3⟩ := fold_min ns n
    exact ⟨.int _, H, I.kept hk, ⟨_, rfl⟩, q _ (by rcases f1 with f1 | f1; · rw [f1]; exact List.mem_cons_self
                                                   · exact List.mem_cons_of_mem _ f1) fun y hy => by rcases List.mem_cons.mp hy with e | hy; · subst e; exact f2
                                                                                                     · exact f3 y hy⟩
def max2F : List D → Option VT
  | [.int i, .int j] => some (.pl (.int (if j > i then j else i)))
  | _ => none
def maxlF : List D → Option VT
  | [.list (.int i :: r)] => (intsD r).map fun l => .pl (.int (greatest i l))
  | _ => none
def min2F : List D → Option VT
  | [.int i, .int j] => some (.pl (.int (if j < i then j else i)))
  | _ => none
def minlF : List D → Option VT
  | [.list (.int i :: r)] => (intsD r).map fun l => .pl (.int (least i l))
  | _ => none
def maxtF : List D → Option VT
  | [.tuple (.int i :: r)] => (intsD r).map fun l => .pl (.int (greatest i l))
  | _ => none
theorem calls_maxT (hc : X.calm = true) (hu : X.A.units + 64 < cLine) : CallS X T Z (.builtin "max") maxtF := by
  refine calls_of (cr_maxT hc hu) fun σ H xs Q F ρ ds z R dx eg k => ?_
  unfold maxtF at eg
  split at eg
  · rename_i i l
    cases e : intsD l with
    | none => rw [e] at eg; cases eg
    | some ns =>
      rw [e] at eg
      cases eg
      obtain ⟨v, rfl, q⟩ := dqs_one dx
      obtain ⟨a, vs, rfl, h1, r1⟩ := dq_tup q
      have e2 := dps_int r1 (ns := i :: ns) (by simp [intsD, e])
      subst e2
      refine ⟨a, i :: ns, rfl, sqt_mono R.sub h1, by simp, fun m hm hle => ?_⟩
      obtain ⟨g1, g2, g3⟩ := greatest_spec ns i
      have em : m = greatest i ns := by
        rcases List.mem_cons.mp hm with h2 | h2
        · rcases g1 with g1 | g1
          · omega
          · have := hle _ (List.mem_cons_of_mem _ g1); omega
        · have := g3 m h2
          rcases g1 with g1 | g1
          · have := hle _ List.mem_cons_self; omega
          · have := hle _ (List.mem_cons_of_mem _ g1); omega
      rw [em]
      exact k _ F H R Stp.refl (.int _)
  · cases eg
theorem calls_max (hc : X.calm = true) (hu : X.A.units + 64 < cLine) : CallS X T Z (.builtin "max") maxF := by
  refine calls_or (g1 := fun ds => (max2F ds).or (maxlF ds)) (g2 := maxtF) ?_ (calls_maxT hc hu) fun ds z h => ?_
  rotate_left
  · unfold maxF at h
    split at h
    · exact .inl (by simpa [max2F, maxlF] using h)
    · exact .inl (by simpa [max2F, maxlF] using h)
    · exact .inr h
    · cases h
  refine calls_or (g1 := max2F) (g2 := maxlF) (calls_of (L2.call_max2 hc) fun σ H xs Q F ρ ds z R dx eg k => ?_) (calls_of (L2.cr_max hc) fun σ H xs Q F ρ ds z R dx eg k => ?_) fun ds z h => ?_
  · unfold max2F at eg
    split at eg
    · cases eg
      obtain ⟨v, u, rfl, q, q2⟩ := dqs_two dx
      cases dq_int q
      cases dq_int q2
      exact ⟨_, _, rfl, k _ F H R Stp.refl (.int _)⟩
    · cases eg
  · unfold maxlF at eg
    split at eg
    · rename_i i l
      cases e : intsD l with
      | none => rw [e] at eg; cases eg
      | some ns =>
        rw [e] at eg
        cases eg
        obtain ⟨v, rfl, q⟩ := dqs_one dx
        obtain ⟨a, vs, rfl, h1, r1⟩ := dq_lst q R.sub
        have e2 := dps_int r1 (ns := i :: ns) (by simp [intsD, e])
        subst e2
        refine ⟨a, i :: ns, rfl, h1, by simp, fun m hm hle => ?_⟩
        obtain ⟨g1, g2, g3⟩ := greatest_spec ns i
        have em : m = greatest i ns := by
          have h1 : greatest i ns ≤ m := by
            rcases g1 with g1 | g1
            · rw [g1]; exact hle _ List.mem_cons_self
            · exact hle _ (List.mem_cons_of_mem _ g1)
          rcases List.mem_cons.mp hm with h2 | h2
          · omega
          · have := g3 m h2; omega
        rw [em]
        exact k _ F H R Stp.refl (.int _)
    · cases eg
  · cases e : max2F ds with
    | none => rw [e] at h; exact .inr h
    | some r => rw [e] at h; exact .inl h
def mintF : List D → Option VT
  | [.tuple (.int i :: r)] => (intsD r).map fun l => .pl (.int (least i l))
  | _ => none
theorem calls_minT (hc : X.calm = true) (hu : X.A.units + 64 < cLine) : CallS X T Z (.builtin "min") mintF := by
  refine calls_of (cr_minT hc hu) fun σ H xs Q F ρ ds z R dx eg k => ?_
  unfold mintF at eg
  split at eg
  · rename_i i l
    cases e : intsD l with
    | none => rw [e] at eg; cases eg
    | some ns =>
      rw [e] at eg
      cases eg
      obtain ⟨v, rfl, q⟩ := dqs_one dx
      obtain ⟨a, vs, rfl, h1, r1⟩ := dq_tup q
      have e2 := dps_int r1 (ns := i :: ns) (by simp [intsD, e])
      subst e2
      refine ⟨a, i :: ns, rfl, sqt_mono R.sub h1, by simp, fun m hm hle => ?_⟩
      obtain ⟨g1, g2, g3⟩ := least_spec ns i
      have em : m = least i ns := by
        rcases List.mem_cons.mp hm with h2 | h2
        · rcases g1 with g1 | g1
          · omega
          · have := hle _ (List.mem_cons_of_mem _ g1); omega
        · have := g3 m h2
          rcases g1 with g1 | g1
          · have := hle _ List.mem_cons_self; omega
          · have := hle _ (List.mem_cons_of_mem _ g1); omega
      rw [em]
      exact k _ F H R Stp.refl (.int _)
  · cases eg
def min0F : List D → Option VT
  | [.int i, .int j] => some (.pl (.int (if j < i then j else i)))
  | [.list (.int i :: r)] => (intsD r).map fun l => .pl (.int (least i l))
  | [.tuple (.int i :: r)] => (intsD r).map fun l => .pl (.int (least i l))
  | _ => none
theorem calls_min0 (hc : X.calm = true) (hu : X.A.units + 64 < cLine) : CallS X T Z (.builtin "min") min0F := by
  refine calls_or (g1 := fun ds => (min2F ds).or (minlF ds)) (g2 := mintF) ?_ (calls_minT hc hu) fun ds z h => ?_
  rotate_left
  · unfold min0F at h
    split at h
    · exact .inl (by simpa [min2F, minlF] using h)
    · exact .inl (by simpa [min2F, minlF] using h)
    · exact .inr h
    · cases h
  refine calls_or (g1 := min2F) (g2 := minlF) (calls_of (L2.call_min2 hc) fun σ H xs Q F ρ ds z R dx eg k => ?_) (calls_of (L2.cr_min hc) fun σ H xs Q F ρ ds z R dx eg k => ?_) fun ds z h => ?_
  · unfold min2F at eg
    split at eg
    · cases eg
      obtain ⟨v, u, rfl, q, q2⟩ := dqs_two dx
      cases dq_int q
      cases dq_int q2
      exact ⟨_, _, rfl, k _ F H R Stp.refl (.int _)⟩
    · cases eg
  · unfold minlF at eg
    split at eg
    · rename_i i l
      cases e : intsD l with
      | none => rw [e] at eg; cases eg
      | some ns =>
        rw [e] at eg
        cases eg
        obtain ⟨v, rfl, q⟩ := dqs_one dx
        obtain ⟨a, vs, rfl, h1, r1⟩ := dq_lst q R.sub
        have e2 := dps_int r1 (ns := i :: ns) (by simp [intsD, e])
        subst e2
        refine ⟨a, i :: ns, rfl, h1, by simp, fun m hm hle => ?_⟩
        obtain ⟨g1, g2, g3⟩ := least_spec ns i
        have em : m = least i ns := by
          have h1 : m ≤ least i ns := by
            rcases g1 with g1 | g1
            · rw [g1]; exact hle _ List.mem_cons_self
            · exact hle _ (List.mem_cons_of_mem _ g1)
          rcases List.mem_cons.mp hm with h2 | h2
          · omega
          · have := g3 m h2; omega
        rw [em]
        exact k _ F H R Stp.refl (.int _)
    · cases eg
  · cases e : min2F ds with
    | none => rw [e] at h; exact .inr h
    | some r => rw [e] at h; exact .inl h
theorem isq_call : CallR X (.builtin "math.isqrt") (fun xs H Q => ∃ i : Int, xs = [.int i] ∧ 0 ≤ i ∧ i < 2 ^ 64 ∧ Q (.int ((Float64.isqrt i.toNat : Nat) : Int)) H) := by
  intro pins s σ H xs us Q I r h
  obtain ⟨i, rfl, h0, h1, q⟩ := h
  obtain ⟨u, rfl, t, rfl⟩ := L2.vals1 r
  exact PySem.W.mg_isqrt h0 h1 ⟨.int _, H, I.tok _, ⟨_, rfl⟩, q⟩
theorem calls_isq : CallS X T Z (.builtin "math.isqrt") isqF := by
  refine calls_of isq_call fun σ H xs Q F ρ ds z R dx eg k => ?_
  unfold isqF at eg
  split at eg
  · split at eg
    · rename_i h
      cases eg
      obtain ⟨v, rfl, q⟩ := dqs_one dx
      cases dq_int q
      exact ⟨_, rfl, h.1, h.2, k _ F H R Stp.refl (.int _)⟩
    · cases eg
  · cases eg
theorem calls_dvm : CallS X T Z (.builtin "divmod") dvmF := by
  refine calls_of L2.call_divmodW fun σ H xs Q F ρ ds z R dx eg k => ?_
  unfold dvmF at eg
  split at eg
  · rename_i i j
    split at eg
    · rename_i h
      cases eg
      obtain ⟨v, u, rfl, q, q2⟩ := dqs_two dx
      cases dq_int q
      cases dq_int q2
      refine ⟨_, _, rfl, ⟨h.1, PyProof.noPylong_small (by omega)⟩, fun p hp => ?_⟩
      obtain ⟨F2, R2, S2, w⟩ := k_tup R hp (.cons (.int _) (.cons (.int _) .nil))
      exact k _ F2 _ R2 S2 w
    · cases eg
  · cases eg
theorem calls_gcd : CallS X T Z (.builtin "math.gcd") gcdF := by
  refine calls_of L2.cr_gcd fun σ H xs Q F ρ ds z R dx eg k => ?_
  unfold gcdF at eg
  split at eg
  · cases eg
    obtain ⟨v, u, rfl, q, q2⟩ := dqs_two dx
    cases dq_int q
    cases dq_int q2
    exact ⟨_, _, rfl, k _ F H R Stp.refl (.int _)⟩
  · cases eg
end
end Sw

end
section
set_option maxRecDepth 100000
set_option maxHeartbeats 1000000
namespace Sw
open PySem PySem.Spec PyProof.Rows
open L2 (V Hp HO upd upd_same upd_ne SqL SqT Rd VK XK WX Cx Inv RelV Vals PE PT PW PA PS PSs EP TP AP SP TE TT TA TS Takes thn Gl Vis Loc Room OpR CallR)
open PySem.W (dataLt alike alikeAll keyToks keyToksAll AllAlike Sortable EachIs dataLe)
mutual
theorem alike_eq : ∀ (x y : D), alike x y = true → PyData.eqv x y = true → x = y
  | .none, y, h, e => by cases y <;> first | rfl | simp [alike] at h
  | .bool a, y, h, e => by
    cases y <;> first | (simp [alike] at h; done) | skip
    simp [PyData.eqv] at e; rw [e]
  | .int a, y, h, e => by
    cases y <;> first | (simp [alike] at h; done) | skip
    simp [PyData.eqv] at e; rw [e]
  | .str a, y, h, e => by
    cases y <;> first | (simp [alike] at h; done) | skip
    simp [PyData.eqv] at e; rw [e]
  | .list xs, y, h, e => by
    cases y with
    | list ys => exact congrArg PyData.list (alikeAll_eq xs ys (by simpa [alike] using h) (by simpa [PyData.eqv] using e))
    | _ => simp [alike] at h
  | .tuple xs, y, h, e => by
    cases y with
    | tuple ys => exact congrArg PyData.tuple (alikeAll_eq xs ys (by simpa [alike] using h) (by simpa [PyData.eqv] using e))
    | _ => simp [alike] at h
  | .dict _, y, h, e => by cases y <;> simp [alike] at h
theorem alikeAll_eq : ∀ (xs ys : List D), alikeAll xs ys = true → PyData.eqvAll xs ys = true → xs = ys
  | [], [], _, _ => rfl
  | [], _ :: _, _, e => by simp [PyData.eqvAll] at e
  | _ :: _, [], _, e => by simp [PyData.eqvAll] at e
  | x :: xs, y :: ys, h, e => by
    obtain ⟨h1, h2⟩ := PySem.W.alike_all_cons h
    rw [PySem.W.eqv_all_cons, Bool.and_eq_true] at e
    rw [alike_eq x y h1 e.1, alikeAll_eq xs ys h2 e.2]
end
theorem dlt_neg (a b c : D) (h : dataLt a c = true) : dataLt a b = true ∨ dataLt b c = true := (listOrd itemOrd).negTrans _ (keyToks b) _ h
theorem dlt_trans (a b c : D) (h : dataLt a b = true) (h2 : dataLt b c = true) : dataLt a c = true := (listOrd itemOrd).trans _ _ _ h h2
theorem dlt_irr (a : D) : dataLt a a = false := (listOrd itemOrd).irrefl _
theorem dlt_tot (a b : D) (h : dataLt a b = false) (h2 : dataLt b a = false) : keyToks a = keyToks b := (listOrd itemOrd).total _ _ h h2
theorem leD_trans (a b c : D) (h1 : leD a b = true) (h2 : leD b c = true) : leD a c = true := by
  unfold leD at *
  cases h : dataLt c a with
  | false => rfl
  | true =>
    rcases dlt_neg _ b _ h with q | q
    · rw [q] at h2; cases h2
    · rw [q] at h1; cases h1
theorem leD_total (a b : D) : (leD a b || leD b a) = true := by
  unfold leD
  cases h : dataLt b a with
  | false => rfl
  | true =>
    cases h2 : dataLt a b with
    | false => rfl
    | true =>
      have := dlt_trans _ _ _ h h2
      rw [dlt_irr] at this
      cases this
theorem leD_anti {a b : D} (ha : alike a b = true) (h1 : leD a b = true) (h2 : leD b a = true) : a = b := by
  unfold leD at *
  simp only [Bool.not_eq_true'] at *
  have e := dlt_tot _ _ h2 h1
  refine alike_eq a b ha ?_
  cases q : PyData.eqv a b with
  | true => rfl
  | false =>
    have z := (PySem.W.toks_eqv a b ha).2 q [] [.inl 0]
    rw [e, PySem.W.lex_pre] at z
    have i : PyProof.Rows.lexLt itemOrd (keyToks b) (keyToks b) = false := dlt_irr b
    rw [i] at z
    exact absurd z (by decide)
theorem ins_perm (x : D) : ∀ l : List D, (insD x l).Perm (x :: l)
  | [] => .refl _
  | y :: r => by
    rw [insD]
    split
    · exact .refl _
    · exact ((ins_perm x r).cons y).trans (.swap x y r)
theorem sort_perm : ∀ l : List D, (sortD l).Perm l
  | [] => .refl _
  | x :: r => (ins_perm x (sortD r)).trans ((sort_perm r).cons x)
theorem ins_pw (x : D) : ∀ l : List D, l.Pairwise (fun a b => leD a b = true) → (insD x l).Pairwise fun a b => leD a b = true
  | [], _ => by simp [insD]
  | y :: r, h => by
    rw [insD]
    obtain ⟨h1, h2⟩ := List.pairwise_cons.mp h
    split
    · rename_i c
      refine List.pairwise_cons.mpr ⟨fun z hz => ?_, h⟩
      rcases List.mem_cons.mp hz with e | hz
      · subst e; exact c
      · exact leD_trans _ _ _ c (h1 z hz)
    · rename_i c
      refine List.pairwise_cons.mpr ⟨fun z hz => ?_, ins_pw x r h2⟩
      rcases List.mem_cons.mp ((ins_perm x r).mem_iff.mp hz) with e | hz
      · subst e
        have := leD_total y z
        simp only [Bool.or_eq_true] at this
        exact this.resolve_right c
      · exact h1 z hz
theorem sort_pw : ∀ l : List D, (sortD l).Pairwise fun a b => leD a b = true
  | [] => .nil
  | x :: r => ins_pw x _ (sort_pw r)
theorem sort_merge {l : List D} (h : AllAlike l) : l.mergeSort leD = sortD l := by
  refine List.Perm.eq_of_pairwise (le := fun a b => leD a b = true) (fun a b ha hb h1 h2 => ?_) (List.pairwise_mergeSort leD_trans leD_total l) (sort_pw l) ((List.mergeSort_perm l leD).trans (sort_perm l).symm)
  exact leD_anti (h a ((List.mergeSort_perm l leD).mem_iff.mp ha) b ((sort_perm l).mem_iff.mp hb)) h1 h2
theorem alikeL_ok {l : List D} (h : alikeL l = true) : AllAlike l := by
  intro x hx y hy
  unfold alikeL at h
  rcases Bool.or_eq_true_iff.mp h with h | h
  · cases q : intsD l with
    | none => rw [q] at h; cases h
    | some ns =>
      have : ∀ (l : List D) (ns : List Int), intsD l = some ns → ∀ d ∈ l, ∃ i, d = .int i := by
        intro l
        induction l with
        | nil => intro ns _ d hd; cases hd
        | cons a r ih =>
          intro ns e d hd
          cases a with
          | int i =>
            rcases List.mem_cons.mp hd with e2 | hd
            · exact ⟨i, e2⟩
            · cases q : intsD r with
              | none => simp [intsD, q] at e
              | some ms => exact ih ms q d hd
          | _ => cases e
      obtain ⟨i, rfl⟩ := this l ns q x hx
      obtain ⟨j, rfl⟩ := this l ns q y hy
      simp [alike]
  · exact List.all_eq_true.mp (List.all_eq_true.mp h x hx) y hy
theorem sortable_ok {l : List D} (h : sortableL l = true) : Sortable l := by
  unfold sortableL at h
  rcases Bool.or_eq_true_iff.mp h with h | h
  · refine .inl fun d hd => ?_
    have := List.all_eq_true.mp h d hd
    split at this
    · exact ⟨_, _, rfl⟩
    · cases this
  · refine .inr fun d hd => ?_
    have := List.all_eq_true.mp h d hd
    split at this
    · cases this
    · cases this
    · rename_i h1 h2
      exact ⟨h1, h2⟩
section
variable {X : Cx} {T : List (Addr × Str)} {fld : Fld} {Z : Gh} {W : WX} {σ : L2.St} {F F' H H' : Hp} {ρ ρ' : Env} {K : PySem.W.Frag}
theorem each_zip {h : List V → List Value → Prop} {K : PySem.W.Frag} {H : Hp} : ∀ {xs : List V} {us : List Value} {ds : List D}, Vals xs us → L2.DpAll K H xs ds → EachIs (fun v (b : V × D) => RelV b.1 v ∧ L2.Dp K H b.1 b.2) us (xs.zip ds)
  | _, _, _, .nil, .nil => .nil
  | _, _, _, .cons a b, .cons c d => .cons ⟨a, c⟩ (each_zip (h := h) b d)
theorem vals_each {K : PySem.W.Frag} {H : Hp} : ∀ {us : List Value} {bs : List (V × D)}, EachIs (fun v (b : V × D) => RelV b.1 v ∧ L2.Dp K H b.1 b.2) us bs → Vals (bs.map (·.1)) us
  | _, _, .nil => .nil
  | _, _, .cons a b => .cons a.1 (vals_each b)
theorem dpall_len {K : PySem.W.Frag} {H : Hp} : ∀ {xs : List V} {ds : List D}, L2.DpAll K H xs ds → xs.length = ds.length
  | _, _, .nil => rfl
  | _, _, .cons _ t => congrArg Nat.succ (dpall_len t)
theorem depth_le {d : D} : ∀ {l : List D}, d ∈ l → d.depth ≤ PyData.depthAll l
  | a :: r, h => by
    simp only [PyData.depthAll]
    rcases List.mem_cons.mp h with e | h
    · subst e; omega
    · have := depth_le h; omega
def rSortedD (K : PySem.W.Frag) : List V → Hp → VK → Prop := fun vs H Q => ∃ (a : Addr) (xs : List V) (ds : List D), vs = [V.ref a] ∧ SqL K H a xs ∧ L2.DpAll K H xs ds ∧ AllAlike ds ∧ Sortable ds ∧ PyData.depthAll ds ≤ 50 ∧
  ∀ p, H p = none → Q (.ref p) (upd H p (.lst (((xs.zip ds).mergeSort (dataLe false Prod.snd)).map (·.1))))
theorem cr_sortedD (hu : X.A.units + 64 < cLine) : CallR X (.builtin "sorted") (rSortedD X.K) := by
  intro pins s σ H vs us Q I r h
  obtain ⟨a, xs, ds, rfl, hs, hd, ha, hk, hz, q⟩ := h
  obtain ⟨its, rv, hl, hxz⟩ := I.list hs
  rw [L2.Vals.ref1 r]
  have ez := each_zip (h := fun _ _ => True) rv hd
  have len : (xs.zip ds).length = xs.length := by
    have : xs.length = ds.length := dpall_len hd
    simp [List.length_zip, this]
  have sn : (xs.zip ds).map (·.2) = ds := by
    exact List.map_snd_zip (by have := dpall_len hd; omega)
  refine PySem.W.sorted_data (β := V × D) (enc := Prod.snd) (bs := xs.zip ds) (R := fun v b => RelV b.1 v ∧ L2.Dp X.K H b.1 b.2) hl.isList ez (ez.mono fun v b ⟨h1, h2⟩ => L2.Dp.reads I b.2 b.1 v h2 h1) (by rw [show (xs.zip ds).map Prod.snd = ds from sn]; exact ha) (by rw [show (xs.zip ds).map Prod.snd = ds from sn]; exact hk) (by rw [len]; exact hxz)
    (fun b hb => by
      have : b.2 ∈ ds := by rw [← sn]; exact List.mem_map.mpr ⟨b, hb, rfl⟩
      have := depth_le this
      omega) fun out ho he => ?_
  obtain ⟨ep, he'⟩ := PyProof.Rows.sortedAll_at s.heap its out.toArray
  have ve := vals_each he
  have hlen : (((xs.zip ds).mergeSort (dataLe false Prod.snd)).map (·.1)).length ≤ sizeLine := by rw [List.length_map, List.length_mergeSort, len]; exact hxz
  exact ⟨.ref _, upd H (s.heap.objs.size + 1) (.lst (((xs.zip ds).mergeSort (dataLe false Prod.snd)).map (·.1))), I.laid (t' := s.toks) (fun _ _ => PyProof.Rows.sortedAll_old) (Nat.le_succ _) ⟨hlen, out, ep, ve, he'⟩, rfl, q _ (I.hok.fresh (Nat.le_succ _))⟩
theorem rps_zip : ∀ {xs : List V} {ds : List D}, Rps K F xs ds → ∀ b ∈ xs.zip ds, Rp K F b.1 b.2
  | _, _, .nil, b, h => by simp at h
  | _, _, .cons a r, b, h => by
    rw [List.zip_cons_cons] at h
    rcases List.mem_cons.mp h with e | h
    · subst e; exact a
    · exact rps_zip r b h
theorem rps_of : ∀ {bs : List (V × D)}, (∀ b ∈ bs, Rp K F b.1 b.2) → Rps K F (bs.map (·.1)) (bs.map (·.2))
  | [], _ => .nil
  | b :: r, h => .cons (h b List.mem_cons_self) (rps_of fun b hb => h b (List.mem_cons_of_mem _ hb))
theorem calls_sorted (hu : X.A.units + 64 < cLine) : CallS X T Z (.builtin "sorted") sorF := by
  refine calls_of (cr_sortedD hu) fun σ H xs Q F ρ ds z R dx eg k => ?_
  unfold sorF at eg
  split at eg
  · rename_i l
    split at eg
    · rename_i hc
      cases eg
      simp only [Bool.and_eq_true, decide_eq_true_eq] at hc
      obtain ⟨⟨c1, c2⟩, c3⟩ := hc
      obtain ⟨v, rfl, q⟩ := dqs_one dx
      obtain ⟨a, vs, rfl, h1, r1⟩ := dq_lst q R.sub
      have ha := alikeL_ok c1
      refine ⟨a, vs, l, rfl, h1, Rps.dp (dps_mono R.sub r1), ha, sortable_ok c2, c3, fun p hp => ?_⟩
      have hl : vs.length = l.length := dps_len r1
      have sn : (vs.zip l).map (·.2) = l := List.map_snd_zip (by omega)
      have e : ((vs.zip l).mergeSort (dataLe false Prod.snd)).map (·.2) = sortD l := by
        have m := List.map_mergeSort (r := dataLe false (Prod.snd : V × D → D)) (s := leD) (f := Prod.snd) (l := vs.zip l) (fun a _ b _ => rfl)
        exact m.trans (by rw [show (vs.zip l).map Prod.snd = l from sn]; exact sort_merge ha)
      have rr : Rps X.K F (((vs.zip l).mergeSort (dataLe false Prod.snd)).map (·.1)) (sortD l) := by
        rw [← e]
        exact rps_of fun b hb => rps_zip r1 b ((List.mergeSort_perm _ _).mem_iff.mp hb)
      obtain ⟨R2, S2, w⟩ := k_lst R hp rr
      exact k _ _ _ R2 S2 w
    · cases eg
  · cases eg
end
end Sw

end
section
set_option maxRecDepth 100000
set_option maxHeartbeats 1000000
namespace Sw
open PySem PySem.Spec PyProof.Rows
open L2 (V Hp HO upd upd_same upd_ne SqL SqT Rd VK XK WX Cx Inv RelV Vals PE PT PW PA PS PSs EP TP AP SP TE TT TA TS Takes thn Gl Vis Loc Room OpR CallR)
open PySem.W (dataLt alike minD AlikeAll)
theorem depth_all {l : List D} (h : decide (PyData.depthAll l ≤ 50) = true) : PyData.depthAll l ≤ 50 := of_decide_eq_true h
theorem cmpL_ok {l : List D} (h : cmpL l = true) : AlikeAll l ∧ PyData.depthAll l ≤ 50 := by
  unfold cmpL at h
  simp only [Bool.and_eq_true, List.all_eq_true] at h
  obtain ⟨h1, h2, h3⟩ := h
  exact ⟨⟨fun x hx y hy => h1 x hx y hy, fun x hx e => by
    have := h2 x hx
    rw [e] at this
    cases this⟩, depth_all h3⟩
section
variable {prog : Program} {w : World} {A : Around} {E : Value → Shared → Prop} {s : Shared}
theorem best_at (x : D) (xs : List D) (n : Nat) (hn : n = xs.length + 1) : (x :: xs).getD (argBest (fun i j => dataLt ((x :: xs).getD i .none) ((x :: xs).getD j .none)) (n - 1)) .none = minD x xs ∧ argBest (fun i j => dataLt ((x :: xs).getD i .none) ((x :: xs).getD j .none)) (n - 1) < n := by
  obtain ⟨b1, b2⟩ := PySem.W.argBest_fold dataLt PyData.none x xs xs.length (Nat.le_refl _)
  have en : n - 1 = xs.length := by omega
  rw [List.take_length] at b2
  rw [en]
  exact ⟨b2, by omega⟩
theorem getD_some {l : List D} {i : Nat} {d : D} (h : l.getD i .none = d) (hi : i < l.length) : l[i]? = some d := by
  rw [List.getD_eq_getElem?_getD, List.getElem?_eq_getElem hi] at h
  rw [List.getElem?_eq_getElem hi]
  exact congrArg some h
theorem min_at {l : Addr} {vs : Array Value} {x : D} {xs : List D} {as : List Addr} {Q : Value → Shared → Prop} (hd : A.handled = none) (il : s.heap.IsList l vs) (rd : ReadsAll s.heap vs.toList (x :: xs) as) (al : AlikeAll (x :: xs)) (room : A.units + 1 + PyData.depthAll (x :: xs) < cLine)
    (q : ∀ (i : Nat) v h' tk, vs[i]? = some v → (x :: xs)[i]? = some (minD x xs) → (∀ b o, s.heap.get? b = some o → h'.get? b = some o) → Q v { s with heap := h', toks := tk }) :
    wpAny (model prog w) A (PySem.call (.builtin "min") [.ref l]) Q E s := by
  have len : vs.size = xs.length + 1 := PySem.W.readsAll_len rd
  refine call_min_walkH (PySem.W.iter_listW (A := A.in1) hd il fun s2 e2 walk st fp hw kp => ⟨_, _, _, _, _, _, _, s.heap, _, rfl, walk, st, fp, by rw [len]; exact Nat.succ_pos _, hw, kp, PySem.W.cmpIn_lt (A := A.in1) rd al (show A.units + 1 + _ < _ from room), fun v s3 pv mv => ?_⟩)
  obtain ⟨h3, t3, rfl, k3⟩ := PySem.W.moved_old e2 rfl mv
  obtain ⟨g1, g2⟩ := best_at x xs vs.size len
  exact q _ v h3 t3 pv (getD_some g1 (by rw [List.length_cons, ← len]; exact g2)) k3
theorem min_at_or {l : Addr} {vs : Array Value} {xs : List D} {as : List Addr} {d : Value} {Q : Value → Shared → Prop} (hd : A.handled = none) (il : s.heap.IsList l vs) (rd : ReadsAll s.heap vs.toList xs as) (al : AlikeAll xs) (room : A.units + 1 + PyData.depthAll xs < cLine)
    (q0 : xs = [] → ∀ h' tk, (∀ b o, s.heap.get? b = some o → h'.get? b = some o) → Q d { s with heap := h', toks := tk })
    (q : ∀ (y : D) (ys : List D), xs = y :: ys → ∀ (i : Nat) v h' tk, vs[i]? = some v → xs[i]? = some (minD y ys) → (∀ b o, s.heap.get? b = some o → h'.get? b = some o) → Q v { s with heap := h', toks := tk }) :
    wpAny (model prog w) A (PySem.call (.builtin "min") [.ref l] [(Str.ofString "default", d)]) Q E s := by
  have len : vs.size = xs.length := PySem.W.readsAll_len rd
  refine call_min_walkD (PySem.W.iter_listW (A := A.in1) hd il fun s2 e2 walk st fp hw kp => ⟨_, _, _, _, _, _, _, s.heap, (fun i j => dataLt (xs.getD i .none) (xs.getD j .none)), rfl, walk, st, fp, hw, kp, fun z s3 mv => ?_, fun pos => ⟨PySem.W.cmpIn_lt (A := A.in1) rd al (show A.units + 1 + _ < _ from room), fun v s3 pv mv => ?_⟩⟩)
  · obtain ⟨h3, t3, rfl, k3⟩ := PySem.W.moved_old e2 rfl mv
    exact q0 (List.eq_nil_of_length_eq_zero (by rw [← len]; exact z)) h3 t3 k3
  · obtain ⟨h3, t3, rfl, k3⟩ := PySem.W.moved_old e2 rfl mv
    cases xs with
    | nil => rw [len] at pos; exact absurd pos (Nat.lt_irrefl _)
    | cons y ys =>
      obtain ⟨g1, g2⟩ := best_at y ys vs.size len
      exact q y ys rfl _ v h3 t3 pv (getD_some g1 (by rw [← len]; exact g2)) k3
end
section
variable {X : Cx} {T : List (Addr × Str)} {fld : Fld} {Z : Gh} {W : WX} {σ : L2.St} {F F' H H' : Hp} {ρ ρ' : Env} {K : PySem.W.Frag}
def rMinData (K : PySem.W.Frag) : List V → Hp → VK → Prop := fun vs H Q => ∃ (a : Addr) (xs : List V) (d : D) (ds : List D), vs = [V.ref a] ∧ SqL K H a xs ∧ L2.DpAll K H xs (d :: ds) ∧ AlikeAll (d :: ds) ∧ PyData.depthAll (d :: ds) ≤ 50 ∧
  ∀ (i : Nat) v, xs[i]? = some v → (d :: ds)[i]? = some (minD d ds) → Q v H
theorem cr_minData (hc : X.calm = true) (hu : X.A.units + 64 < cLine) : CallR X (.builtin "min") (rMinData X.K) := by
  intro pins s σ H vs us Q I r h
  obtain ⟨a, xs, d, ds, rfl, hs, hd, ha, hz, q⟩ := h
  obtain ⟨its, rv, hl, _⟩ := I.list hs
  rw [L2.Vals.ref1 r]
  obtain ⟨as, rd⟩ := L2.Dp.readsAll I (d :: ds) xs its hd rv
  refine min_at (I.ok.hd hc) hl.isList (as := as) (by simpa using rd) ha (by omega) fun i v h' tk e1 e2 k => ?_
  have e1 : its[i]? = some v := by simpa using e1
  have hi : i < xs.length := by
    have := (List.getElem?_eq_some_iff.mp e1).1
    rw [rv.length]; exact this
  obtain ⟨u, hu2, ru⟩ := rv.get (List.getElem?_eq_getElem hi)
  rw [e1] at hu2
  cases hu2
  exact ⟨_, H, I.kept k, ru, q i _ (List.getElem?_eq_getElem hi) e2⟩
def minD1F : List D → Option VT
  | [.list l] => minDF l
  | _ => none
theorem calls_minD (hc : X.calm = true) (hu : X.A.units + 64 < cLine) : CallS X T Z (.builtin "min") minD1F := by
  refine calls_of (cr_minData hc hu) fun σ H xs Q F ρ ds z R dx eg k => ?_
  unfold minD1F at eg
  split at eg
  · rename_i l
    cases l with
    | nil => cases eg
    | cons d r =>
      have eg : (if cmpL (d :: r) then some (VT.pl (minD d r)) else none) = some z := eg
      split at eg
      · rename_i c
        cases eg
        obtain ⟨c1, c2⟩ := cmpL_ok c
        obtain ⟨v, rfl, q⟩ := dqs_one dx
        obtain ⟨a, vs, rfl, h1, r1⟩ := dq_lst q R.sub
        refine ⟨a, vs, d, r, rfl, h1, Rps.dp (dps_mono R.sub r1), c1, c2, fun i v e1 e2 => ?_⟩
        obtain ⟨v2, e3, e4⟩ := dps_get r1 e2
        rw [e1] at e3
        cases e3
        exact k _ F H R Stp.refl e4
      · cases eg
  · cases eg
theorem calls_min (hc : X.calm = true) (hu : X.A.units + 64 < cLine) : CallS X T Z (.builtin "min") minF := by
  refine calls_or (calls_min0 hc hu) (calls_minD hc hu) fun ds z h => ?_
  unfold minF at h
  split at h
  · exact .inl h
  · exact .inl h
  · exact .inl h
  · exact .inr h
  · cases h
/-- min(xs, default=None) -/
def rMinOr (K : PySem.W.Frag) : List V → List V → Hp → VK → Prop := fun vs zs H Q => ∃ (a : Addr) (xs : List V) (ds : List D), vs = [V.ref a] ∧ zs = [.non] ∧ SqL K H a xs ∧ L2.DpAll K H xs ds ∧ AlikeAll ds ∧ PyData.depthAll ds ≤ 50 ∧
  (ds = [] → Q .non H) ∧ ∀ (y : D) (ys : List D), ds = y :: ys → ∀ (i : Nat) v, xs[i]? = some v → ds[i]? = some (minD y ys) → Q v H
theorem cr_minOr (hc : X.calm = true) (hu : X.A.units + 64 < cLine) : L2.CallRK X (.builtin "min") [Str.ofString "default"] (rMinOr X.K) := by
  intro pins s σ H vs zs us ws Q I r rz h
  obtain ⟨a, xs, ds, rfl, rfl, hs, hd, ha, hz, q0, q⟩ := h
  obtain ⟨its, rv, hl, _⟩ := I.list hs
  obtain rfl := L2.Vals.ref1 r
  obtain ⟨w1, rfl, e0⟩ := L2.vals1 rz
  obtain rfl : w1 = Value.none := e0
  obtain ⟨as, rd⟩ := L2.Dp.readsAll I ds xs its hd rv
  refine min_at_or (I.ok.hd hc) hl.isList (as := as) (by simpa using rd) ha (by omega) (fun z h' tk k => ⟨.non, H, I.kept k, rfl, q0 z⟩) fun y ys ey i v h' tk e1 e2 k => ?_
  have e1 : its[i]? = some v := by simpa using e1
  have hi : i < xs.length := by
    have := (List.getElem?_eq_some_iff.mp e1).1
    rw [rv.length]; exact this
  obtain ⟨u, hu2, ru⟩ := rv.get (List.getElem?_eq_getElem hi)
  rw [e1] at hu2
  cases hu2
  exact ⟨_, H, I.kept k, ru, q y ys ey i _ (List.getElem?_eq_getElem hi) e2⟩
end
end Sw

end
section
set_option maxRecDepth 100000
set_option maxHeartbeats 1000000
namespace Sw
open PySem PySem.Spec PyProof.Rows
open L2 (V Hp HO upd upd_same upd_ne SqL SqT Rd VK XK WX Cx Inv RelV Vals PE PT PW PA PI PS PSs EP TP AP SP TE TT TA TS TI It Takes thn Gl Vis Loc Room OpR CallR)
section
variable {X : Cx} {T : List (Addr × Str)} {fld : Fld} {Z : Gh} {W : WX} {σ : L2.St} {F F' H H' : Hp} {ρ ρ' : Env} {K : PySem.W.Frag}
theorem set_at {σ : L2.St} {i : Nat} {v : V} (h : σ[i]? = some (some v)) : σ.set i (some v) = σ := by
  apply List.ext_getElem?
  intro j
  by_cases hj : i = j
  · subst hj
    rw [List.getElem?_set_self (List.getElem?_eq_some_iff.mp h).1, h]
  · rw [List.getElem?_set_ne hj]
/-- a slot's own list becomes plain -/
theorem Rel.thaw (R : Rel K T Z F H σ ρ) {i : Nat} {ds : List D} (e : ρ[i]? = some (.ow ds)) :
    ∃ a F', σ[i]? = some (some (.ref a)) ∧ Rel K T Z F' H σ (ρ.set i (.pl (.list ds))) ∧ Stp F H σ ρ F' H (ρ.set i (.pl (.list ds))) ∧ Rp K F' (.ref a) (.list ds) := by
  obtain ⟨a, ow, hz⟩ := R.ow i ds e
  obtain ⟨vs, h1, r1⟩ := ow.ob
  have ni : ∀ es, ρ[i]? ≠ some (Slot.io es) := fun es z => by rw [e] at z; cases z
  have R1 := R.emp ni
  have R2 := R1.freeze (o := .lst vs) h1 (fun ps z => by cases z) hz fun j hj ej => by
    obtain ⟨oj, nj⟩ := own_emp hj
    exact nj (R.ap j i a oj ⟨ds, .inl e⟩ ej ow.at_)
  have up := upd_up (F := F) ow.nf (o := HO.lst vs)
  have dat : Rp K (upd F a (.lst vs)) (.ref a) (.list ds) := .lst (.of upd_same) (dps_mono up r1)
  have hi : i < ρ.length := (List.getElem?_eq_some_iff.mp e).1
  have R3 := R2.set (i := i) (s := .pl (.list ds)) (v := .ref a) (fun es z => by
    rw [List.getElem?_set_self hi] at z
    cases z) dat
  rw [set_at ow.at_, List.set_set] at R3
  refine ⟨a, _, ow.at_, R3, ⟨up, fun b o h _ _ => h, fun b o h => ?_, fun j ⟨es, hj⟩ => ?_⟩, dat⟩
  · by_cases hb : b = a
    · subst hb
      exact .inr (.inr ⟨i, ⟨ds, .inl e⟩, ow.at_⟩)
    · rw [upd_ne hb] at h
      exact .inl h
  · by_cases hji : j = i
    · subst hji
      exact ⟨ds, .inl e⟩
    · rw [List.getElem?_set_ne (Ne.symm hji)] at hj
      exact ⟨es, hj⟩
theorem t_var {e : Expr} {i : Nat} (h : PE X e (L2.tVar i)) : PE X e (tE X T fld Z (rdVar i) W) := by
  refine PE.imp h fun σ H Q ⟨F, ρ, R, q⟩ => ?_
  cases e1 : ρ[i]? with
  | none => simp only [rdVar, e1] at q; exact q.elim
  | some s =>
    cases s with
    | em => simp only [rdVar, e1] at q; exact q.elim
    | io ds => simp only [rdVar, e1] at q; exact q.elim
    | pl d =>
      simp only [rdVar, e1] at q
      obtain ⟨v, e2, r⟩ := R.pl i d e1
      exact ⟨v, e2, q F H R Stp.refl v r⟩
    | ow ds =>
      simp only [rdVar, e1] at q
      obtain ⟨a, F', e2, R', S', r⟩ := R.thaw e1
      exact ⟨_, e2, q F' H R' S' _ r⟩
theorem t_mov {e : Expr} {i : Nat} (h : PE X e (L2.tVar i)) : PE X e (tE X T fld Z (mvVar i) W) := by
  refine PE.imp h fun σ H Q ⟨F, ρ, R, q⟩ => ?_
  cases e1 : ρ[i]? with
  | none => simp only [mvVar, e1] at q; exact q.elim
  | some s =>
    cases s with
    | em => simp only [mvVar, e1] at q; exact q.elim
    | io ds => simp only [mvVar, e1] at q; exact q.elim
    | pl d =>
      simp only [mvVar, e1] at q
      obtain ⟨v, e2, r⟩ := R.pl i d e1
      exact ⟨v, e2, q F H R Stp.refl v r⟩
    | ow ds =>
      simp only [mvVar, e1] at q
      obtain ⟨a, ow, hz⟩ := R.ow i ds e1
      obtain ⟨vs, h1, r1⟩ := ow.ob
      have ni : ∀ es, ρ[i]? ≠ some (Slot.io es) := fun es z => by rw [e1] at z; cases z
      refine ⟨_, ow.at_, q F H (R.emp ni) ⟨fun _ _ h => h, fun _ _ h _ _ => h, fun _ _ h => .inl h, fun j hj => (own_emp hj).1⟩ _ ⟨a, vs, rfl, h1, ow.nf, r1, hz, fun j hj ej => ?_, .inr ⟨i, ⟨ds, .inl e1⟩, ow.at_⟩⟩⟩
      obtain ⟨oj, nj⟩ := own_emp hj
      exact nj (R.ap j i a oj ⟨ds, .inl e1⟩ ej ow.at_)
/-- a constant -/
inductive Cst : Expr → D → Prop
  | int {i j pos} : Cst (.Constant (.int i) j pos) (.int i)
  | str {i j pos} : Cst (.Constant (.str i) j pos) (.str i)
  | bool {i j pos} : Cst (.Constant (.bool i) j pos) (.bool i)
  | none {j pos} : Cst (.Constant .none j pos) .none
theorem t_cst {e : Expr} {d : D} (h : Cst e d) : PE X e (tE X T fld Z (fun ρ => .ok (.pl d) ρ) W) := by
  cases h with
  | int => exact PE.imp L2.pe_int fun σ H Q ⟨F, ρ, R, q⟩ => q F H R Stp.refl _ (.int _)
  | str => exact PE.imp L2.pe_str fun σ H Q ⟨F, ρ, R, q⟩ => q F H R Stp.refl _ (.str _)
  | bool => exact PE.imp L2.pe_bl fun σ H Q ⟨F, ρ, R, q⟩ => q F H R Stp.refl _ (.bl _)
  | none => exact PE.imp L2.pe_non fun σ H Q ⟨F, ρ, R, q⟩ => q F H R Stp.refl _ .non
/-- a module's constant -/
def GlbOk (K : PySem.W.Frag) (mg : Str → Option Value) (x : Str) (d : D) : Prop := ∃ v u, mg x = some u ∧ RelV v u ∧ ∀ F, Rp K F v d
theorem t_glb {x : Str} {d : D} {pos : Pos} (hg : Gl X x) (hd : (x == ("__debug__" : Str)) = false) (h : GlbOk X.K X.mg x d) : PE X (.Name x pos) (tE X T fld Z (fun ρ => .ok (.pl d) ρ) W) := by
  obtain ⟨v, u, e, r, q⟩ := h
  exact PE.imp (L2.pe_glob hg e r hd) fun σ H Q ⟨F, ρ, R, k⟩ => k F H R Stp.refl _ (q F)
theorem t_neg {a : Expr} {f : Env → Out VT} {pos : Pos} (ha : PE X a (tE X T fld Z f W)) : PE X (.UnaryOp .USub a pos) (tE X T fld Z (fun ρ => (f ρ).bind fun x ρ => ret? (negV x.d) ρ) W) := by
  refine PE.imp (L2.pe_un L2.un_neg ha) fun σ H Q ⟨F, ρ, R, q⟩ => ⟨F, ρ, R, Fin.mono (Fin.bind q) fun r ρ1 F1 H1 R1 S1 k v rv => ?_⟩
  obtain ⟨F2, R2, S2, _, d⟩ := freeze R1 S1 rv
  have k := Fin.base R2 ⟨S2.frz, S2.keep, S2.nfz, S2.own⟩ k
  generalize r.d = z at k d
  cases d with
  | int i => exact ⟨i, rfl, k F2 H1 R2 Stp.refl _ (.int _)⟩
  | non => exact k.elim
  | bl b => exact k.elim
  | str b => exact k.elim
  | lst s a => exact k.elim
  | tup s a => exact k.elim
end
end Sw

end
section
set_option maxRecDepth 100000
set_option maxHeartbeats 1000000
namespace Sw
open PySem PySem.Spec PyProof.Rows
open L2 (V Hp HO upd upd_same upd_ne SqL SqT Rd VK XK WX Cx Inv RelV Vals PE PT PW PA PI PS PSs EP TP AP SP TE TT TA TS TI It Takes thn Gl Vis Loc Room OpR CallR)
section
variable {X : Cx} {T : List (Addr × Str)} {fld : Fld} {Z : Gh} {W : WX} {σ : L2.St} {F F' H H' : Hp} {ρ ρ' : Env} {K : PySem.W.Frag}
theorem truV_of {v : V} {d : D} {b : Bool} (hs : ∀ b o, F b = some o → H b = some o) (q : Dq K F H v d) (e : tru d = some b) : L2.TruV K v H b := by
  have emp : ∀ {vs : List V} {ds : List D}, Rps K F vs ds → (!ds.isEmpty) = !vs.isEmpty := fun r => by cases r <;> rfl
  cases d with
  | none => cases dq_non q; cases e; exact rfl
  | bool i => cases dq_bl q; cases e; exact rfl
  | int i => cases dq_int q; cases e; exact rfl
  | str x =>
    cases dq_str q
    have e : (if x.length ≤ SZ then some (x.length != 0) else none) = some b := e
    by_cases hz : x.length ≤ SZ
    · rw [if_pos hz] at e
      cases e
      refine ⟨by rw [← SZ_line]; exact hz, ?_⟩
      rcases Nat.eq_zero_or_pos x.length with h | h
      · rw [h]; rfl
      · have h1 : (x.length != 0) = true := by simp; omega
        have h2 : ((x.length : Int) != 0) = true := by simp; omega
        rw [h1, h2]
    · rw [if_neg hz] at e; cases e
  | list l =>
    obtain ⟨a, vs, rfl, h1, r1⟩ := dq_lst q hs
    cases e
    exact .inl ⟨vs, h1, emp r1⟩
  | tuple l =>
    obtain ⟨a, vs, rfl, h1, r1⟩ := dq_tup q
    cases e
    exact .inr (.inl ⟨vs, sqt_mono hs h1, emp r1⟩)
  | dict l => cases e
theorem t_truth {e : Expr} {f : Env → Out VT} (h : PE X e (tE X T fld Z f W)) (he : ∀ whole, isTrue e X.env whole = (do let v ← whole; standAt e.pos; holding [v] (truthy v))) :
    PT X e (tT X T fld Z (fun ρ => (f ρ).bind fun x ρ => opt? (tru x.d) ρ) W) := by
  refine PT.imp (L2.pt_truth h he) fun σ H Q ⟨F, ρ, R, q⟩ => ⟨F, ρ, R, Fin.mono (Fin.bind q) fun r ρ1 F1 H1 R1 S1 k v rv => ?_⟩
  obtain ⟨F2, R2, S2, up, d⟩ := freeze R1 S1 rv
  cases e1 : tru r.d with
  | none => simp only [e1, opt?] at k; exact k.elim
  | some b =>
    simp only [e1, opt?] at k
    exact ⟨b, truV_of R2.sub (.inl d) e1, k F2 H1 R2 S2⟩
theorem t_truthB {e : Expr} {i : Nat} (h : PE X e (L2.tVar i)) (he : ∀ whole, isTrue e X.env whole = (do let v ← whole; standAt e.pos; holding [v] (truthy v))) :
    PT X e (tT X T fld Z (fun ρ => opt? ((rsv ρ (.b i)).bind tru) ρ) W) := by
  refine PT.imp (L2.pt_truth h he) fun σ H Q ⟨F, ρ, R, q⟩ => ?_
  cases e1 : rsv ρ (.b i) with
  | none => simp only [e1, Option.bind_none, opt?] at q; exact q.elim
  | some d =>
    cases e2 : tru d with
    | none => simp only [e1, Option.bind_some, e2, opt?] at q; exact q.elim
    | some b =>
      simp only [e1, Option.bind_some, e2, opt?] at q
      obtain ⟨v, hv⟩ := rsv_some R e1
      exact ⟨v, hv, b, truV_of R.sub (dq_of R (show Qr X F σ v (.b i) from hv) e1) e2, q F H R Stp.refl⟩
/-- a comparison as a test -/
theorem pt_two {a b e : Expr} {q1 q2 : Env → Out Qv} {f : Value → Value → Sem Value} {g : D → D → Option VT} (ha : PE X a (tQ X T fld Z q1 W)) (hb : PE X b (tQ X T fld Z q2 W)) (hf : OpS X T Z f g)
    (hg : ∀ d e z, g d e = some z → ∃ k, z = .pl (.bool k))
    (hw : ∀ (Q : Bool → Shared → Prop) (s : Shared), wpAny (model X.prog X.w) X.A (eval a X.env) (fun v s₁ => wpAny (model X.prog X.w) X.A (eval b X.env) (fun u s₂ => wpAny (model X.prog X.w) X.A (f v u) (fun c s₃ => wpAny (model X.prog X.w) X.A (truthy c) Q X.xe s₃) X.xe s₂) X.xe s₁) X.xe s → wpAny (model X.prog X.w) X.A (isTrue e X.env (eval e X.env)) Q X.xe s) :
    PT X e (tT X T fld Z (fun ρ => ((q1 ρ).bind fun x ρ => (q2 ρ).bind fun y ρ => fin2 g x y ρ).bind fun x ρ => opt? (tru x.d) ρ) W) := by
  refine ⟨fun pins s σ H Q I h => ?_⟩
  obtain ⟨F, ρ, R, q⟩ := h
  refine hw _ s ?_
  refine L2.binT (R := fun x y H2 => ∃ F2 ρ2 d e r, Rel X.K T Z F2 H2 σ ρ2 ∧ Dq X.K F2 H2 x d ∧ Dq X.K F2 H2 y e ∧ g d e = some r ∧ (∀ w F' H', Rel X.K T Z F' H' σ ρ2 → Stp F2 H2 σ ρ2 F' H' ρ2 → Rv X.K Z H2 ρ2 F' H' σ ρ2 w r → ∃ k, w = .bl k ∧ Q k H')) ha hb I ?_ ?_
  · refine ⟨F, ρ, R, Fin.mono (Fin.bind (Fin.bind q)) fun x ρ1 F1 H1 R1 S1 k v hv => ⟨F1, ρ1, R1, ?_⟩⟩
    refine Fin.mono (Fin.bind (Fin.base R1 S1 k)) fun y ρ2 F2 H2 R2 S2 k2 u hu => ?_
    have k3 := Fin.base R2 S2 k2
    unfold fin2 at k3
    cases e1 : rsv ρ2 x with
    | none => simp only [e1] at k3; exact k3.elim
    | some d =>
      cases e2 : rsv ρ2 y with
      | none => simp only [e1, e2] at k3; exact k3.elim
      | some e' =>
        simp only [e1, e2] at k3
        cases e3 : g d e' with
        | none => simp only [e3, ret?] at k3; exact k3.elim
        | some r =>
          simp only [e3, ret?] at k3
          refine ⟨F2, ρ2, d, e', r, R2, dq_of R2 (qr_mono S2.frz hv) e1, dq_of R2 hu e2, e3, fun w F' H' R' S' rv => ?_⟩
          obtain ⟨b, rfl⟩ := hg _ _ _ e3
          have k4 := k3 F' H' R' S'
          cases rv with
          | bl b => exact ⟨b, rfl, k4 F' H' R' (S1.trans R1 S2 |>.trans R2 S')⟩
  · rintro v u s2 x y H2 I2 rx ry ⟨F2, ρ2, d, e', r, R2, dx, dy, eg, k⟩
    refine thn (hf pins s2 σ H2 x y v u (fun w H' => ∃ k, w = .bl k ∧ Q k H') F2 ρ2 d e' r I2 rx ry R2 dx dy eg k) fun c s3 ⟨w, H3, I3, r3, b, e4, q4⟩ => ?_
    subst e4
    cases r3
    exact wpAny_truthy_bool ⟨H3, I3, q4⟩
theorem cval_bool {o : Co} (d e : D) (z : VT) (h : cval o d e = some z) : ∃ k, z = .pl (.bool k) := by
  obtain ⟨b, _, e⟩ := cval_inv h
  exact ⟨b, e⟩
theorem t_cmp {a b : Expr} {ta tb : Tm} {fa fb : Env → Out VT} {o : Co} {pos : Pos} (hu : X.A.units + 128 < cLine) (ha : PE X a (tQ X T fld Z (opd ta fa) W)) (hb : PE X b (tQ X T fld Z (opd tb fb) W)) (hm : behindInMarks (coOf o) b = false) :
    PE X (.Compare a [coOf o] [b] pos) (tE X T fld Z (fun ρ => (opd ta fa ρ).bind fun x ρ => (opd tb fb ρ).bind fun y ρ => fin2 (cval o) x y ρ) W) :=
  pe_two ha hb (ops_cop o hu) fun Q s h => wpAny_Compare1 h hm
theorem t_cmpT {a b : Expr} {ta tb : Tm} {fa fb : Env → Out VT} {o : Co} {pos : Pos} (hu : X.A.units + 128 < cLine) (ha : PE X a (tQ X T fld Z (opd ta fa) W)) (hb : PE X b (tQ X T fld Z (opd tb fb) W)) (hm : behindInMarks (coOf o) b = false) :
    PT X (.Compare a [coOf o] [b] pos) (tT X T fld Z (fun ρ => ((opd ta fa ρ).bind fun x ρ => (opd tb fb ρ).bind fun y ρ => fin2 (cval o) x y ρ).bind fun x ρ => opt? (tru x.d) ρ) W) :=
  pt_two ha hb (ops_cop o hu) cval_bool fun Q s h => wpAny_isTrue_Compare1 h hm
theorem t_bin {a b : Expr} {ta tb : Tm} {fa fb : Env → Out VT} {o : Bo} {pos : Pos} (ha : PE X a (tQ X T fld Z (opd ta fa) W)) (hb : PE X b (tQ X T fld Z (opd tb fb) W)) :
    PE X (.BinOp a (opOf o) b pos) (tE X T fld Z (fun ρ => (opd ta fa ρ).bind fun x ρ => (opd tb fb ρ).bind fun y ρ => fin2 (bop o) x y ρ) W) :=
  pe_two ha hb (ops_bop o) fun Q s h => wpAny_BinOp h
theorem t_idx {a b : Expr} {ta tb : Tm} {fa fb : Env → Out VT} {pos : Pos} (hp : L2.PlainIx b) (ha : PE X a (tQ X T fld Z (opd ta fa) W)) (hb : PE X b (tQ X T fld Z (opd tb fb) W)) :
    PE X (.Subscript a b pos) (tE X T fld Z (fun ρ => (opd ta fa ρ).bind fun x ρ => (opd tb fb ρ).bind fun y ρ => fin2 (fun d e => (ixD d e).map .pl) x y ρ) W) :=
  pe_two ha hb (ops_ix hp) fun Q s h => Subscript_ h
theorem t_notT {a : Expr} {f : Env → Out Bool} {pos : Pos} (ha : PT X a (tT X T fld Z f W)) : PT X (.UnaryOp .Not a pos) (tT X T fld Z (fun ρ => (f ρ).bind fun k ρ => .ok (!k) ρ) W) :=
  PT.imp (L2.pt_not ha) fun σ H Q ⟨F, ρ, R, q⟩ => ⟨F, ρ, R, Fin.mono (Fin.bind q) fun b ρ1 F1 H1 R1 S1 k => k F1 H1 R1 S1⟩
theorem rv_bool {v : V} {b : Bool} (q : Rp K F v (.bool b)) : v = .bl b := by cases q; rfl
theorem t_andT {a b : Expr} {rest : List Expr} {f g : Env → Out Bool} {pos : Pos} (ha : PT X a (tT X T fld Z f W)) (hb : PW X (.BoolOp .And (b :: rest) pos) (tT X T fld Z g W)) :
    PW X (.BoolOp .And (a :: b :: rest) pos) (tT X T fld Z (fun ρ => (f ρ).bind fun k ρ => if k then g ρ else .ok false ρ) W) :=
  PW.imp (L2.pw_and ha hb) fun σ H Q ⟨F, ρ, R, q⟩ => ⟨F, ρ, R, Fin.mono (Fin.bind q) fun b ρ1 F1 H1 R1 S1 k => by
    cases b with
    | true => exact ⟨F1, ρ1, R1, Fin.base R1 S1 k⟩
    | false => exact k F1 H1 R1 S1⟩
theorem t_orT {a b : Expr} {rest : List Expr} {f g : Env → Out Bool} {pos : Pos} (ha : PT X a (tT X T fld Z f W)) (hb : PW X (.BoolOp .Or (b :: rest) pos) (tT X T fld Z g W)) :
    PW X (.BoolOp .Or (a :: b :: rest) pos) (tT X T fld Z (fun ρ => (f ρ).bind fun k ρ => if k then .ok true ρ else g ρ) W) :=
  PW.imp (L2.pw_or ha hb) fun σ H Q ⟨F, ρ, R, q⟩ => ⟨F, ρ, R, Fin.mono (Fin.bind q) fun b ρ1 F1 H1 R1 S1 k => by
    cases b with
    | false => exact ⟨F1, ρ1, R1, Fin.base R1 S1 k⟩
    | true => exact k F1 H1 R1 S1⟩
theorem bool_of {r : VT} {b : Bool} {v : V} {H₀ : Hp} {ρ₀ : Env} (e : asBool r.d = some b) (rv : Rv K Z H₀ ρ₀ F H σ ρ v r) : v = .bl b := by
  cases r with
  | fr ds => cases e
  | pl d =>
    have rv : Rp K F v d := rv
    cases d with
    | bool c => cases e; exact rv_bool rv
    | _ => cases e
theorem t_and {a b : Expr} {rest : List Expr} {f g : Env → Out VT} {pos : Pos} (ha : PE X a (tE X T fld Z f W)) (hb : PE X (.BoolOp .And (b :: rest) pos) (tE X T fld Z g W)) :
    PE X (.BoolOp .And (a :: b :: rest) pos) (tE X T fld Z (fun ρ => (f ρ).bind fun x ρ => (opt? (asBool x.d) ρ).bind fun k ρ => if k then g ρ else .ok (.pl (.bool false)) ρ) W) :=
  PE.imp (L2.pe_and ha hb) fun σ H Q ⟨F, ρ, R, q⟩ => ⟨F, ρ, R, Fin.mono (Fin.bind q) fun r ρ1 F1 H1 R1 S1 k v rv => by
    cases e : asBool r.d with
    | none => simp only [e, opt?] at k; exact k.elim
    | some b =>
      simp only [e, opt?] at k
      refine ⟨b, bool_of e rv, ?_⟩
      cases b with
      | true => exact ⟨F1, ρ1, R1, Fin.mono (Fin.base R1 S1 k) fun r2 ρ2 F2 H2 R2 S2 k2 v2 rv2 => k2 v2 (rv_base R1 S1 rv2)⟩
      | false => exact k F1 H1 R1 S1 _ (.bl false)⟩
theorem t_or {a b : Expr} {rest : List Expr} {f g : Env → Out VT} {pos : Pos} (ha : PE X a (tE X T fld Z f W)) (hb : PE X (.BoolOp .Or (b :: rest) pos) (tE X T fld Z g W)) :
    PE X (.BoolOp .Or (a :: b :: rest) pos) (tE X T fld Z (fun ρ => (f ρ).bind fun x ρ => (opt? (asBool x.d) ρ).bind fun k ρ => if k then .ok (.pl (.bool true)) ρ else g ρ) W) :=
  PE.imp (L2.pe_or ha hb) fun σ H Q ⟨F, ρ, R, q⟩ => ⟨F, ρ, R, Fin.mono (Fin.bind q) fun r ρ1 F1 H1 R1 S1 k v rv => by
    cases e : asBool r.d with
    | none => simp only [e, opt?] at k; exact k.elim
    | some b =>
      simp only [e, opt?] at k
      refine ⟨b, bool_of e rv, ?_⟩
      cases b with
      | false => exact ⟨F1, ρ1, R1, Fin.mono (Fin.base R1 S1 k) fun r2 ρ2 F2 H2 R2 S2 k2 v2 rv2 => k2 v2 (rv_base R1 S1 rv2)⟩
      | true => exact k F1 H1 R1 S1 _ (.bl true)⟩
/-- not, as a value -/
theorem t_not {a : Expr} {ta : Tm} {f : Env → Out VT} {pos : Pos} (ha : PE X a (tQ X T fld Z (opd ta f) W)) :
    PE X (.UnaryOp .Not a pos) (tE X T fld Z (fun ρ => (opd ta f ρ).bind fun q ρ => (opt? ((rsv ρ q).bind tru) ρ).bind fun b ρ => .ok (.pl (.bool (!b))) ρ) W) := by
  refine ⟨fun pins s σ H Q I h => ?_⟩
  obtain ⟨F, ρ, R, q⟩ := h
  refine UnaryOp_ (thn (ha.run pins s σ H (fun x H1 => ∃ k, L2.TruV X.K x H1 k ∧ Q (.bl (!k)) H1) I ⟨F, ρ, R, Fin.mono (Fin.bind q) fun q ρ1 F1 H1 R1 S1 k v hv => ?_⟩) fun v s1 ⟨x, H1, I1, r1, k, tv, q1⟩ => ?_)
  · cases e1 : rsv ρ1 q with
    | none => simp only [e1, Option.bind_none, opt?] at k; exact k.elim
    | some d =>
      cases e2 : tru d with
      | none => simp only [e1, Option.bind_some, e2, opt?] at k; exact k.elim
      | some b =>
        simp only [e1, Option.bind_some, e2, opt?] at k
        exact ⟨b, truV_of R1.sub (dq_of R1 hv e1) e2, k F1 H1 R1 S1 _ (.bl _)⟩
  · refine not_of (thn (L2.tru_ok pins s1 σ H1 x v (fun b H2 => Q (.bl (!b)) H2) I1 r1 ⟨k, tv, q1⟩) fun b s2 ⟨H2, I2, q2⟩ => ?_)
    exact ⟨.bl (!b), H2, I2, rfl, q2⟩
theorem t_ite {c a b : Expr} {h : Env → Out Bool} {f g : Env → Out VT} {pos : Pos} (hc : PT X c (tT X T fld Z h W)) (ha : PE X a (tE X T fld Z f W)) (hb : PE X b (tE X T fld Z g W)) :
    PE X (.IfExp c a b pos) (tE X T fld Z (fun ρ => (h ρ).bind fun k ρ => if k then f ρ else g ρ) W) :=
  PE.imp (L2.pe_ifExp hc ha hb) fun σ H Q ⟨F, ρ, R, q⟩ => ⟨F, ρ, R, Fin.mono (Fin.bind q) fun b ρ1 F1 H1 R1 S1 k => by
    cases b with
    | true => exact ⟨F1, ρ1, R1, Fin.mono (Fin.base R1 S1 k) fun r2 ρ2 F2 H2 R2 S2 k2 v2 rv2 => k2 v2 (rv_base R1 S1 rv2)⟩
    | false => exact ⟨F1, ρ1, R1, Fin.mono (Fin.base R1 S1 k) fun r2 ρ2 F2 H2 R2 S2 k2 v2 rv2 => k2 v2 (rv_base R1 S1 rv2)⟩⟩
end
end Sw

end
section
set_option maxRecDepth 100000
set_option maxHeartbeats 1000000
namespace Sw
open PySem PySem.Spec PyProof.Rows
open L2 (V Hp HO upd upd_same upd_ne SqL SqT Rd VK XK WX Cx Inv RelV Vals PE PT PW PA PI PS PSs EP TP AP SP TE TT TA TS TI It Takes thn Gl Vis Loc Room OpR CallR TyX)
section
variable {X : Cx} {T : List (Addr × Str)} {fld : Fld} {Z : Gh} {W : WX} {σ : L2.St} {F F' H H' : Hp} {ρ ρ' : Env} {K : PySem.W.Frag}
theorem t_nil : PA X [] (tAs X T fld Z (fun ρ => .ok [] ρ) W) := PA.imp L2.pa_nil fun σ H Q ⟨F, ρ, R, q⟩ => q F H R Stp.refl [] .nil
theorem t_cs {e : Expr} {es : List Expr} {f : Env → Out Qv} {s : Env → Out (List Qv)} (ha : PE X e (tQ X T fld Z f W)) (hr : PA X es (tAs X T fld Z s W)) (hs : starEach (e :: es) X.env = (false, eval e X.env) :: starEach es X.env) :
    PA X (e :: es) (tAs X T fld Z (fun ρ => (f ρ).bind fun q ρ => (s ρ).bind fun qs ρ => .ok (q :: qs) ρ) W) :=
  PA.imp (L2.pa_cons ha hr hs) fun σ H Q ⟨F, ρ, R, q⟩ => ⟨F, ρ, R, Fin.mono (Fin.bind q) fun x ρ1 F1 H1 R1 S1 k v hv =>
    ⟨F1, ρ1, R1, Fin.mono (Fin.bind (Fin.base R1 S1 k)) fun xs ρ2 F2 H2 R2 S2 k2 vs hvs => k2 F2 H2 R2 S2 (v :: vs) (.cons (qr_mono S2.frz hv) hvs)⟩⟩
theorem t_io {e : Expr} {i : Nat} {es : List Expr} {s : Env → Out (List Qv)} (ha : PE X e (L2.tVar i)) (hr : PA X es (tAs X T fld Z s W)) (hs : starEach (e :: es) X.env = (false, eval e X.env) :: starEach es X.env) :
    PA X (e :: es) (tAs X T fld Z (fun ρ => ioOk i ρ ((s ρ).bind fun qs ρ => .ok (.io i :: qs) ρ)) W) :=
  PA.imp (L2.pa_cons ha hr hs) fun σ H Q ⟨F, ρ, R, q⟩ => by
    have own : ∀ {ds a}, Own X.K F H σ i a ds → ∃ v, σ[i]? = some (some v) := fun o => ⟨_, o.at_⟩
    have go : ∀ {v}, σ[i]? = some (some v) → Fin X T fld Z W σ F H ρ ((s ρ).bind fun qs ρ => .ok (.io i :: qs) ρ) (fun qs _ F' H' => ∀ vs, Qrs X F' σ vs qs → Q vs H') →
        L2.tCons (L2.tVar i) (tAs X T fld Z s W) σ H Q := fun {v} hv q =>
      ⟨v, hv, F, ρ, R, Fin.mono (Fin.bind q) fun xs ρ2 F2 H2 R2 S2 k2 vs hvs => k2 F2 H2 R2 S2 (v :: vs) (.cons hv hvs)⟩
    have q : Fin X T fld Z W σ F H ρ (ioOk i ρ ((s ρ).bind fun qs ρ => .ok (.io i :: qs) ρ)) _ := q
    unfold ioOk at q
    cases e1 : ρ[i]? with
    | none => simp only [e1] at q; exact q.elim
    | some t =>
      cases t with
      | em => simp only [e1] at q; exact q.elim
      | pl d => simp only [e1] at q; exact q.elim
      | ow ds =>
        simp only [e1] at q
        obtain ⟨a, o, _⟩ := R.ow i ds e1
        obtain ⟨v, hv⟩ := own o
        exact go hv q
      | io ds =>
        simp only [e1] at q
        obtain ⟨a, o, _⟩ := R.io i ds e1
        obtain ⟨v, hv⟩ := own o
        exact go hv q
theorem dvals_rps : ∀ {vs : List V} {qs : List Qv} {ds : List D}, Qrs X F σ vs qs → dvals qs = some ds → Rps X.K F vs ds
  | _, _, _, .nil, e => by
    cases e
    exact .nil
  | _, _, _, .cons (q := .d d) (qs := qs) a b, e => by
    unfold dvals at e
    cases e2 : dvals qs with
    | none => rw [e2] at e; cases e
    | some l =>
      rw [e2] at e
      cases e
      exact .cons a (dvals_rps b e2)
  | _, _, _, .cons (q := .b i) a b, e => by cases e
  | _, _, _, .cons (q := .io i) a b, e => by cases e
theorem thousand {n : Nat} (h : n ≤ 1000) : n ≤ sizeLine := by rw [sizeLine_eq]; omega
theorem t_tup {es : List Expr} {s : Env → Out (List Qv)} {x1 : Nat} {pos : Pos} (h : PA X es (tAs X T fld Z s W)) : PE X (.Tuple es x1 pos) (tE X T fld Z (fun ρ => (s ρ).bind fun qs ρ => ret? ((dvals qs).bind tupD) ρ) W) :=
  PE.imp (L2.pe_tup h) fun σ H Q ⟨F, ρ, R, q⟩ => ⟨F, ρ, R, Fin.mono (Fin.bind q) fun qs ρ1 F1 H1 R1 S1 k vs hvs => by
    cases e1 : dvals qs with
    | none => simp only [e1, Option.bind_none, ret?] at k; exact k.elim
    | some l =>
      have r := dvals_rps hvs e1
      simp only [e1, Option.bind_some, tupD] at k
      by_cases hz : l.length ≤ 1000
      · rw [if_pos hz] at k
        refine ⟨thousand (by rw [dps_len r]; exact hz), fun p hp => ?_⟩
        obtain ⟨F2, R2, S2, w⟩ := k_tup R1 hp r
        exact k F2 _ R2 (S1.trans R1 S2) _ w
      · rw [if_neg hz] at k
        exact k.elim⟩
theorem t_lst {es : List Expr} {s : Env → Out (List Qv)} {pos : Pos} (h : PA X es (tAs X T fld Z s W)) : PE X (.List es pos) (tE X T fld Z (fun ρ => (s ρ).bind fun qs ρ => ret? ((dvals qs).bind lstD) ρ) W) :=
  PE.imp (L2.pe_lst h) fun σ H Q ⟨F, ρ, R, q⟩ => ⟨F, ρ, R, Fin.mono (Fin.bind q) fun qs ρ1 F1 H1 R1 S1 k vs hvs => by
    cases e1 : dvals qs with
    | none => simp only [e1, Option.bind_none, ret?] at k; exact k.elim
    | some l =>
      have r := dvals_rps hvs e1
      simp only [e1, Option.bind_some, lstD] at k
      by_cases hz : l.length ≤ 1000
      · rw [if_pos hz] at k
        refine ⟨thousand (by rw [dps_len r]; exact hz), fun p hp => ?_⟩
        obtain ⟨R2, S2, w⟩ := k_lst R1 hp r
        exact k F1 _ R2 (S1.trans R1 S2) _ (rv_base R1 S1 w)
      · rw [if_neg hz] at k
        exact k.elim⟩
/-- the name of a built-in function, as the module has it -/
def NameOf (X : Cx) (x : Str) (u : Value) : Prop := Gl X x ∧ (x == ("__debug__" : Str)) = false ∧ (X.mg x = some u ∨ (X.mg x = none ∧ bootBuiltins x = some u ∧ x ≠ "__name__"))
theorem ld_name {E : Value → Shared → Prop} {pins : List (Addr × Obj)} {s : Shared} {u : Value} {x : Str} {pos : Pos} {Q : Value → Shared → Prop} (I : Inv X pins σ H s) (h : NameOf X x u) (q : Q u s) :
    wpAny (model X.prog X.w) X.A (eval (.Name x pos) X.env) Q E s := by
  obtain ⟨hg, hd, hm | ⟨hm, hv, hn⟩⟩ := h
  · exact L2.ld_glob I hg hm q hd
  · exact L2.ld_blt I hg hm hv q hn hd
def Simple : Value → Prop
  | .builtin _ => True
  | .type _ => True
  | _ => False
theorem t_blt {e : Expr} {es : List Expr} {s : Env → Out (List Qv)} {u : Value} {g : List D → Option VT} {x : Str} {p pos : Pos} (hu : Simple u) (hc : CallS X T Z u g) (hn : NameOf X x u) (ha : PA X (e :: es) (tAs X T fld Z s W))
    (he : starEach (e :: es) X.env = (false, eval e X.env) :: starEach es X.env) (hpl : (backTo pos (starEach es X.env)).any (·.1) = false) :
    PE X (.Call (.Name x p) (e :: es) [] pos) (tE X T fld Z (fun ρ => (s ρ).bind fun qs ρ => finS g qs ρ) W) := by
  refine ⟨fun pins s₀ σ H Q I ⟨F, ρ, R, q⟩ => ?_⟩
  refine wpAny_Call_Name_kw (ld_name I hn ?_)
  have run : wpAny (model X.prog X.w) X.A (spliced (backTo pos (starEach (e :: es) X.env))) (fun us s1 => wpAny (model X.prog X.w) X.A (PySem.call u us) (EP X pins σ Q) X.xe s1) X.xe s₀ := by
    refine thn (ha.run pos pins s₀ σ H (fun vs H1 => ∃ F1 ρ1 ds r, Rel X.K T Z F1 H1 σ ρ1 ∧ Dqs X.K F1 H1 vs ds ∧ g ds = some r ∧ (∀ w F' H', Rel X.K T Z F' H' σ ρ1 → Stp F1 H1 σ ρ1 F' H' ρ1 → Rv X.K Z H1 ρ1 F' H' σ ρ1 w r → Q w H')) I
      ⟨F, ρ, R, Fin.mono (Fin.bind q) fun qs ρ1 F1 H1 R1 S1 k vs hvs => ?_⟩) fun us s1 ⟨vs, H1, I1, r1, F1, ρ1, ds, r, R1, dx, eg, k⟩ => hc pins s1 σ H1 vs us Q F1 ρ1 ds r I1 r1 R1 dx eg k
    unfold finS at k
    cases e1 : rsvs ρ1 qs with
    | none => simp only [e1] at k; exact k.elim
    | some ds =>
      simp only [e1] at k
      cases e2 : g ds with
      | none => simp only [e2, ret?] at k; exact k.elim
      | some r =>
        simp only [e2, ret?] at k
        exact ⟨F1, ρ1, ds, r, R1, dqs_of R1 hvs e1, e2, fun w F' H' R' S' rv => k F' H' R' (S1.trans R1 S') w (rv_base R1 S1 rv)⟩
  cases u with
  | builtin id => exact PyProof.Rows.callWith_builtin1 run he hpl
  | type T => exact PyProof.Rows.callWith_type1 run he hpl
  | _ => exact hu.elim
/-- the type of data -/
def typN : D → String
  | .none => "NoneType" | .bool _ => "bool" | .int _ => "int" | .str _ => "str" | .list _ => "list" | .tuple _ => "tuple" | .dict _ => "dict"
theorem tyx_of {v : V} {d : D} (hs : ∀ b o, F b = some o → H b = some o) (hd : isDict d = false) (q : Dq K F H v d) : TyX K H v (.type (typN d)) := by
  have rdL : ∀ {a : Addr} {vs : List V}, SqL K H a vs → TyX K H (.ref a) (.type "list") := fun r => by
    rcases r with (r | ⟨o, r⟩) | ⟨o, its, n, hk, hc, _⟩
    · exact .base (.lst r)
    · exact .base (.frz r)
    · exact .kList hk hc
  cases d with
  | none => cases dq_non q; exact .base .non
  | bool b => cases dq_bl q; exact .base (.bl b)
  | int i => cases dq_int q; exact .base (.int i)
  | str x => cases dq_str q; exact .base (.str x)
  | list l =>
    obtain ⟨a, vs, rfl, h1, r1⟩ := dq_lst q hs
    exact rdL h1
  | tuple l =>
    obtain ⟨a, vs, rfl, h1, r1⟩ := dq_tup q
    rcases sqt_mono hs h1 with r | ⟨o, its, n, hk, hc, _⟩
    · rcases r with r | ⟨o, r⟩
      · exact .base (.tup r)
      · exact .fTuple r
    · exact .kTuple hk hc
  | dict l => cases hd
def tyN : Ty → String
  | .int => "int" | .bool => "bool" | .str => "str" | .list => "list" | .tuple => "tuple"
theorem kit_is (t : Ty) (d : D) (hd : isDict d = false) : L2.kitB (typN d) (tyN t) = some (isTy t d) := by
  cases t <;> cases d <;> first | (cases hd; done) | (show L2.kitB _ _ = some _; simp only [typN, tyN, isTy]; decide +kernel)
end
end Sw

end
section
set_option maxRecDepth 100000
set_option maxHeartbeats 1000000
namespace Sw
open PySem PySem.Spec PyProof.Rows
open L2 (V Hp HO upd upd_same upd_ne SqL SqT Rd VK XK WX Cx Inv RelV Vals PE PT PW PA PI PS PSs EP TP AP SP TE TT TA TS TI It Takes thn Gl Vis Loc Room OpR CallR TyX)
section
variable {X : Cx} {T : List (Addr × Str)} {fld : Fld} {Z : Gh} {W : WX} {σ : L2.St} {F F' H H' : Hp} {ρ ρ' : Env} {K : PySem.W.Frag}
/-- the name of a built-in type -/
structure TyName (X : Cx) (y : Str) (t : Ty) : Prop where
  gl : Gl X y
  mg : X.mg y = none
  bt : bootBuiltins y = some (.type (tyN t))
  nn : y ≠ "__name__"
  nd : (y == ("__debug__" : Str)) = false
theorem TyName.pe {y : Str} {t : Ty} {pos : Pos} (h : TyName X y t) : PE X (.Name y pos) (L2.tC (.ty (tyN t))) := L2.pe_bltn h.gl h.mg h.bt rfl h.nn h.nd
theorem isi_one {d : D} (t : Ty) : isiF [t] [d] = if isDict d then none else some (VT.pl (.bool (isTy t d))) := by
  show (if isDict d then none else some (VT.pl (.bool ((isTy t d) || false)))) = _
  rw [Bool.or_false]
theorem t_isi {e : Expr} {y : Str} {t : Ty} {f : Env → Out Qv} {p p2 pos : Pos} (hg : Gl X "isinstance") (hm : X.mg "isinstance" = none) (hy : TyName X y t) (ha : PE X e (tQ X T fld Z f W)) (hs : starEach [e, .Name y p2] X.env = (false, eval e X.env) :: starEach [.Name y p2] X.env) :
    PE X (.Call (.Name "isinstance" p) [e, .Name y p2] [] pos) (tE X T fld Z (fun ρ => ((f ρ).bind fun q ρ => (Out.ok [] ρ).bind fun qs ρ => .ok (q :: qs) ρ).bind fun qs ρ => finS (isiF [t]) qs ρ) W) := by
  have hb : bootBuiltins "isinstance" = some (.builtin "isinstance") := by decide +kernel
  refine PE.imp (L2.pe_callB L2.call_isi hg hm hb (L2.pa_cons ha (L2.pa_cons hy.pe L2.pa_nil rfl) hs) (by decide) (by decide) hs rfl) fun σ H Q ⟨F, ρ, R, q⟩ => ⟨F, ρ, R, Fin.mono (Fin.bind (Fin.bind q)) fun x ρ1 F1 H1 R1 S1 k v hv => ?_⟩
  have k : Fin X T fld Z W σ F H ρ (finS (isiF [t]) [x] ρ1) _ := k F1 H1 R1 S1
  unfold finS at k
  cases e1 : rsv ρ1 x with
  | none => simp only [rsvs, e1] at k; exact k.elim
  | some d =>
    simp only [rsvs, e1, isi_one] at k
    by_cases hd : isDict d = true
    · rw [if_pos hd] at k; exact k.elim
    · rw [if_neg hd] at k
      have hd : isDict d = false := by simpa using hd
      exact ⟨v, .ty (tyN t), _, _, _, rfl, .ty _, tyx_of R1.sub hd (dq_of R1 hv e1), L2.kit_ty (kit_is t d hd), k F1 H1 R1 S1 _ (.bl _)⟩
/-- names of types in a row -/
inductive TyNames (X : Cx) : List Expr → List Ty → Prop
  | nil : TyNames X [] []
  | cons {y pos t es ts} : TyName X y t → TyNames X es ts → TyNames X (.Name y pos :: es) (t :: ts)
def tTys (ts : List Ty) : TA := fun _ H Q => Q (ts.map fun t => V.ty (tyN t)) H
theorem TyNames.pa {es : List Expr} {ts : List Ty} (h : TyNames X es ts) : PA X es (tTys ts) := by
  induction h with
  | nil => exact L2.pa_nil
  | cons a _ ih => exact PA.imp (L2.pa_cons a.pe ih rfl) fun σ H Q q => q
theorem kit_any (K : PySem.W.Frag) (d : D) (hd : isDict d = false) : ∀ ts : List Ty, PySem.W.kitAny K (.type (typN d)) (ts.map fun t => .type (tyN t)) = some (ts.any fun t => isTy t d)
  | [] => rfl
  | t :: ts => by
    refine L2.kitAny_cons (L2.kit_ty (kit_is t d hd)) (fun h => ?_) fun h => ?_
    · rw [List.any_cons, h, Bool.false_or]
      exact kit_any K d hd ts
    · rw [List.any_cons, h, Bool.true_or]
theorem clsv : ∀ ts : List Ty, Paired L2.ClsV (ts.map fun t => V.ty (tyN t)) (ts.map fun t => Value.type (tyN t))
  | [] => .nil
  | t :: ts => .cons (.ty _) (clsv ts)
theorem t_isis {e : Expr} {es : List Expr} {ts : List Ty} {f : Env → Out Qv} {x1 : Nat} {p p2 pos : Pos} (hg : Gl X "isinstance") (hm : X.mg "isinstance" = none) (hy : TyNames X es ts) (hl : ts.length ≤ 1000) (ha : PE X e (tQ X T fld Z f W)) (hs : starEach [e, .Tuple es x1 p2] X.env = (false, eval e X.env) :: starEach [.Tuple es x1 p2] X.env) :
    PE X (.Call (.Name "isinstance" p) [e, .Tuple es x1 p2] [] pos) (tE X T fld Z (fun ρ => ((f ρ).bind fun q ρ => (Out.ok [] ρ).bind fun qs ρ => .ok (q :: qs) ρ).bind fun qs ρ => finS (isiF ts) qs ρ) W) := by
  have hb : bootBuiltins "isinstance" = some (.builtin "isinstance") := by decide +kernel
  refine PE.imp (L2.pe_callB L2.call_isiT hg hm hb (L2.pa_cons ha (L2.pa_cons (L2.pe_tup hy.pa) L2.pa_nil rfl) hs) (by decide) (by decide) hs rfl) fun σ H Q ⟨F, ρ, R, q⟩ => ⟨F, ρ, R, Fin.mono (Fin.bind (Fin.bind q)) fun x ρ1 F1 H1 R1 S1 k v hv => ?_⟩
  have k : Fin X T fld Z W σ F H ρ (finS (isiF ts) [x] ρ1) _ := k F1 H1 R1 S1
  refine ⟨thousand (by rw [List.length_map]; exact hl), fun tp hp => ?_⟩
  unfold finS at k
  cases e1 : rsv ρ1 x with
  | none => simp only [rsvs, e1] at k; exact k.elim
  | some d =>
    simp only [rsvs, e1] at k
    have k : Fin X T fld Z W σ F H ρ (ret? (if isDict d then none else some (VT.pl (.bool (ts.any fun t => isTy t d)))) ρ1) _ := k
    by_cases hd : isDict d = true
    · rw [if_pos hd] at k; exact k.elim
    · rw [if_neg hd] at k
      have hd : isDict d = false := by simpa using hd
      have R2 := R1.alloc (p := tp) (o := .tup (ts.map fun t => V.ty (tyN t))) hp
      have S2 := S1.trans R1 (stp_alloc (o := .tup (ts.map fun t => V.ty (tyN t))) (F := F1) (σ := σ) (ρ := ρ1) hp)
      exact ⟨v, tp, _, _, _, _, rfl, upd_same, clsv ts, tyx_of R2.sub hd (dq_of R2 hv e1), kit_any _ d hd ts, k F1 _ R2 S2 _ (.bl _)⟩
theorem t_part {e : Expr} {t : Tm} {f : Env → Out VT} (ht : t ≠ .nl) (h : PE X e (tE X T fld Z f W)) : L2.PO X (some e) (fun σ H Q => ∃ F ρ, Rel X.K T Z F H σ ρ ∧ Fin X T fld Z W σ F H ρ (part t f ρ) fun o _ _ H' => Q o H') := by
  have e1 : part t f = fun ρ => (f ρ).bind fun v ρ => opt? (optI v.d) ρ := by
    funext ρ
    cases t <;> first | rfl | exact absurd rfl ht
  refine ⟨fun pins s σ H Q I ⟨F, ρ, R, q⟩ => (L2.po_some h).run pins s σ H Q I ?_⟩
  rw [e1] at q
  refine ⟨F, ρ, R, Fin.mono (Fin.bind q) fun r ρ1 F1 H1 R1 S1 k v rv => ?_⟩
  obtain ⟨F2, R2, S2, _, d⟩ := freeze R1 S1 rv
  generalize r.d = z at k d
  cases d with
  | int i => exact ⟨i, rfl, k F2 H1 R2 S2⟩
  | non => exact k.elim
  | bl b => exact k.elim
  | str b => exact k.elim
  | lst s a => exact k.elim
  | tup s a => exact k.elim
theorem t_noPart {f : Env → Out VT} : L2.PO X none (fun σ H Q => ∃ F ρ, Rel X.K T Z F H σ ρ ∧ Fin X T fld Z W σ F H ρ (part .nl f ρ) fun o _ _ H' => Q o H') :=
  ⟨fun pins s σ H Q I ⟨F, ρ, R, q⟩ => L2.po_none.run pins s σ H Q I (q F H R Stp.refl)⟩
theorem t_sli {e : Expr} {lo hi : Option Expr} {q1 : Env → Out Qv} {f g : Env → Out (Option Int)} {pos p2 : Pos} (ha : PE X e (tQ X T fld Z q1 W))
    (hl : L2.PO X lo (fun σ H Q => ∃ F ρ, Rel X.K T Z F H σ ρ ∧ Fin X T fld Z W σ F H ρ (f ρ) fun o _ _ H' => Q o H')) (hh : L2.PO X hi (fun σ H Q => ∃ F ρ, Rel X.K T Z F H σ ρ ∧ Fin X T fld Z W σ F H ρ (g ρ) fun o _ _ H' => Q o H')) :
    PE X (.Subscript e (.Slice lo hi none p2) pos) (tE X T fld Z (fun ρ => (q1 ρ).bind fun x ρ => (f ρ).bind fun l ρ => (g ρ).bind fun h ρ => (opt? (rsv ρ x) ρ).bind fun d ρ => ret? (sliD d l h) ρ) W) :=
  PE.imp (L2.pe_slice sl_any ha hl hh) fun σ H Q ⟨F, ρ, R, q⟩ => ⟨F, ρ, R, Fin.mono (Fin.bind q) fun x ρ1 F1 H1 R1 S1 k v hv =>
    ⟨F1, ρ1, R1, Fin.mono (Fin.bind (Fin.base R1 S1 k)) fun l ρ2 F2 H2 R2 S2 k2 => ⟨F2, ρ2, R2, Fin.mono (Fin.bind (Fin.base R2 S2 k2)) fun h ρ3 F3 H3 R3 S3 k3 => by
      cases e1 : rsv ρ3 x with
      | none => simp only [e1, opt?] at k3; exact k3.elim
      | some d =>
        simp only [e1, opt?] at k3
        have k3 : Fin X T fld Z W σ F2 H2 ρ2 (ret? (sliD d l h) ρ3) _ := k3
        cases e2 : sliD d l h with
        | none => simp only [e2, ret?] at k3; exact k3.elim
        | some r =>
          simp only [e2, ret?] at k3
          have S13 := S1.trans R1 (S2.trans R2 S3)
          exact rsl_of R3 (dq_of R3 (qr_mono (fun b o e => S3.frz b o (S2.frz b o e)) hv) e1) e2 fun w F' H' R' S' rv => k3 F' H' R' (S3.trans R3 S') w (rv_base R3 S13 rv)⟩⟩⟩
end
end Sw

end
section
set_option maxRecDepth 100000
set_option maxHeartbeats 1000000
namespace Sw
open PySem PySem.Spec PyProof.Rows
open L2 (V Hp HO upd upd_same upd_ne SqL SqT Rd VK XK WX Cx Inv RelV Vals PE PT PW PA PI PS PSs EP TP AP SP TE TT TA TS TI It Takes thn Gl Vis Loc Room OpR CallR TyX PG PGs TG TGs)
section
variable {X : Cx} {T : List (Addr × Str)} {fld : Fld} {Z : Gh} {W : WX} {σ : L2.St} {F F' H H' : Hp} {ρ ρ' : Env} {K : PySem.W.Frag}
structure Wk (K : PySem.W.Frag) (T : List (Addr × Str)) (Z : Gh) (J : It) (F : Hp) (ds : List D) : Prop where
  go : ∀ (i : Nat) (F2 H : Hp) (σ : L2.St) (ρ : Env) (d : D), ds[i]? = some d → Rel K T Z F2 H σ ρ → (∀ b o, F b = some o → F2 b = some o) →
    J.go i H ∧ ∀ x H', J.yld i H x H' → ∃ F3, Rel K T Z F3 H' σ ρ ∧ Stp F2 H σ ρ F3 H' ρ ∧ Rp K F3 x d
  stop : ∀ (F2 H : Hp) (σ : L2.St) (ρ : Env), Rel K T Z F2 H σ ρ → (∀ b o, F b = some o → F2 b = some o) → J.stop ds.length H
def tI (X : Cx) (T : List (Addr × Str)) (fld : Fld) (Z : Gh) (f : Env → Out (List D)) (W : WX) : TI := fun σ H R => ∃ F ρ, Rel X.K T Z F H σ ρ ∧ Fin X T fld Z W σ F H ρ (f ρ) fun ds _ F' H' => ∀ J, Wk X.K T Z J F' ds → R J H'
theorem pi_or {tg e : Expr} {w1 w2 : TI} (h1 : PI X tg e w1) (h2 : PI X tg e w2) : PI X tg e (fun σ H R => w1 σ H R ∨ w2 σ H R) :=
  ⟨fun pins s σ H R I h => h.elim (h1.run pins s σ H R I) (h2.run pins s σ H R I)⟩
theorem pi_imp {tg e : Expr} {w1 w2 : TI} (h1 : PI X tg e w1) (m : ∀ σ H R, w2 σ H R → w1 σ H R) : PI X tg e w2 := ⟨fun pins s σ H R I h => h1.run pins s σ H R I (m σ H R h)⟩
theorem wk_list {a : Addr} {vs : List V} {ds : List D} (h : SqL K F a vs) (r : Rps K F vs ds) : Wk K T Z (L2.Itl K a) F ds where
  go := fun i F2 H σ ρ d e R up => by
    have q : SqL K H a vs := sql_mono (fun b o e => R.sub b o (up b o e)) h
    obtain ⟨v, e1, e2⟩ := dps_get r e
    refine ⟨⟨vs, v, q, e1⟩, fun x H' ⟨eH, y⟩ => ?_⟩
    subst eH
    have := y vs q
    rw [e1] at this
    cases this
    exact ⟨F2, R, Stp.refl, dp_mono up e2⟩
  stop := fun F2 H σ ρ R up => ⟨vs, sql_mono (fun b o e => R.sub b o (up b o e)) h, Nat.le_of_eq (dps_len r)⟩
theorem wk_tup {a : Addr} {vs : List V} {ds : List D} (h : SqT K F a vs) (r : Rps K F vs ds) : Wk K T Z (L2.Itt K a) F ds where
  go := fun i F2 H σ ρ d e R up => by
    have q : SqT K H a vs := sqt_mono (fun b o e => R.sub b o (up b o e)) h
    obtain ⟨v, e1, e2⟩ := dps_get r e
    refine ⟨⟨vs, v, q, e1⟩, fun x H' ⟨eH, y⟩ => ?_⟩
    subst eH
    have := y vs q
    rw [e1] at this
    cases this
    exact ⟨F2, R, Stp.refl, dp_mono up e2⟩
  stop := fun F2 H σ ρ R up => ⟨vs, sqt_mono (fun b o e => R.sub b o (up b o e)) h, Nat.le_of_eq (dps_len r)⟩
theorem intsFrom_len : ∀ (n : Nat) (lo : Int), (intsFrom lo n).length = n
  | 0, _ => rfl
  | n + 1, lo => congrArg Nat.succ (intsFrom_len n (lo + 1))
theorem intsFrom_get : ∀ (n : Nat) (lo : Int) (i : Nat) (d : D), (intsFrom lo n)[i]? = some d → i < n ∧ d = .int (lo + i)
  | 0, _, i, d, h => by simp [intsFrom] at h
  | n + 1, lo, 0, d, h => by
    simp [intsFrom] at h
    exact ⟨Nat.succ_pos _, by rw [← h]; simp⟩
  | n + 1, lo, i + 1, d, h => by
    obtain ⟨h1, h2⟩ := intsFrom_get n (lo + 1) i d (by simpa [intsFrom] using h)
    refine ⟨Nat.succ_lt_succ h1, ?_⟩
    rw [h2]
    congr 1
    omega
theorem wk_rng {lo : Int} {n : Nat} : Wk K T Z (L2.Itr lo n) F (intsFrom lo n) where
  go := fun i F2 H σ ρ d e R up => by
    obtain ⟨h1, h2⟩ := intsFrom_get n lo i d e
    subst h2
    refine ⟨h1, fun x H' ⟨eH, ex⟩ => ?_⟩
    subst eH ex
    exact ⟨F2, R, Stp.refl, .int _⟩
  stop := fun F2 H σ ρ R up => Nat.le_of_eq (intsFrom_len n lo).symm
theorem t_seq {tg e : Expr} {f : Env → Out VT} (h : PE X e (tE X T fld Z f W)) : PI X tg e (tI X T fld Z (fun ρ => (f ρ).bind fun x ρ => opt? (seqD x.d) ρ) W) := by
  refine pi_imp (pi_or (L2.pi_list h) (L2.pi_tup h)) fun σ H R ⟨F, ρ, Rl, q⟩ => ?_
  have q : Fin X T fld Z W σ F H ρ ((f ρ).bind fun x ρ => opt? (seqD x.d) ρ) _ := q
  cases e1 : f ρ with
  | no => rw [e1] at q; exact q.elim
  | er x ρ1 =>
    rw [e1] at q
    refine .inl ⟨F, ρ, Rl, ?_⟩
    rw [e1]
    exact q
  | ok r ρ1 =>
    rw [e1] at q
    have q : Fin X T fld Z W σ F H ρ (opt? (seqD r.d) ρ1) _ := q
    cases e2 : r.d with
    | list l =>
      refine .inl ⟨F, ρ, Rl, ?_⟩
      rw [e1]
      intro F1 H1 R1 S1 v rv
      obtain ⟨F2, R2, S2, _, d⟩ := freeze R1 S1 rv
      rw [e2] at d q
      cases d with
      | lst s a => exact ⟨_, rfl, ⟨_, sql_mono R2.sub s⟩, q F2 H1 R2 S2 _ (wk_list s a)⟩
    | tuple l =>
      refine .inr ⟨F, ρ, Rl, ?_⟩
      rw [e1]
      intro F1 H1 R1 S1 v rv
      obtain ⟨F2, R2, S2, _, d⟩ := freeze R1 S1 rv
      rw [e2] at d q
      cases d with
      | tup s a => exact ⟨_, rfl, ⟨_, sqt_mono R2.sub s⟩, q F2 H1 R2 S2 _ (wk_tup s a)⟩
    | none => rw [e2] at q; exact q.elim
    | bool b => rw [e2] at q; exact q.elim
    | int b => rw [e2] at q; exact q.elim
    | str b => rw [e2] at q; exact q.elim
    | dict b => rw [e2] at q; exact q.elim
theorem ok62_of {i : Int} (h : ok62 i = true) : -(2 ^ 62) ≤ i ∧ i < 2 ^ 62 := by
  unfold ok62 at h
  simpa using h
theorem t_rng1 {tg a : Expr} {f : Env → Out Qv} {p pos : Pos} (hg : Gl X "range") (hm : X.mg "range" = none) (ha : PE X a (tQ X T fld Z f W)) (hs : starEach [a] X.env = [(false, eval a X.env)]) :
    PI X tg (.Call (.Name "range" p) [a] [] pos) (tI X T fld Z (fun ρ => ((f ρ).bind fun q ρ => (Out.ok [] ρ).bind fun qs ρ => .ok (q :: qs) ρ).bind fun qs ρ => opt? ((rsvs ρ qs).bind rngD) ρ) W) := by
  refine pi_imp (L2.pi_range1 hg hm (L2.pa_cons ha L2.pa_nil hs) hs) fun σ H R ⟨F, ρ, Rl, q⟩ => ⟨F, ρ, Rl, Fin.mono (Fin.bind (Fin.bind q)) fun x ρ1 F1 H1 R1 S1 k v hv => ?_⟩
  have k : Fin X T fld Z W σ F H ρ (opt? ((rsvs ρ1 [x]).bind rngD) ρ1) _ := k F1 H1 R1 S1
  cases e1 : rsv ρ1 x with
  | none => simp only [rsvs, e1] at k; exact k.elim
  | some d =>
    have e2 : rsvs ρ1 [x] = some [d] := by simp only [rsvs, e1]
    rw [e2] at k
    cases d with
    | int j =>
      have k : Fin X T fld Z W σ F H ρ (opt? (if ok62 j then some (intsFrom 0 j.toNat) else none) ρ1) _ := k
      by_cases h : ok62 j = true
      · rw [if_pos h] at k
        obtain ⟨h1, h2⟩ := ok62_of h
        exact ⟨j, by rw [dq_int (dq_of R1 hv e1)], h1, h2, k F1 H1 R1 S1 _ wk_rng⟩
      · rw [if_neg h] at k
        exact k.elim
    | none => exact k.elim
    | bool b => exact k.elim
    | str b => exact k.elim
    | list b => exact k.elim
    | tuple b => exact k.elim
    | dict b => exact k.elim
theorem t_rng2 {tg a b : Expr} {f g : Env → Out Qv} {p pos : Pos} (hg : Gl X "range") (hm : X.mg "range" = none) (ha : PE X a (tQ X T fld Z f W)) (hb : PE X b (tQ X T fld Z g W)) (hs : starEach [a, b] X.env = [(false, eval a X.env), (false, eval b X.env)]) (hs2 : starEach [b] X.env = [(false, eval b X.env)]) :
    PI X tg (.Call (.Name "range" p) [a, b] [] pos) (tI X T fld Z (fun ρ => ((f ρ).bind fun q ρ => ((g ρ).bind fun q ρ => (Out.ok [] ρ).bind fun qs ρ => .ok (q :: qs) ρ).bind fun qs ρ => .ok (q :: qs) ρ).bind fun qs ρ => opt? ((rsvs ρ qs).bind rngD) ρ) W) := by
  refine pi_imp (L2.pi_range2 hg hm (L2.pa_cons ha (L2.pa_cons hb L2.pa_nil hs2) (by rw [hs, hs2])) hs hs2) fun σ H R ⟨F, ρ, Rl, q⟩ => ⟨F, ρ, Rl, Fin.mono (Fin.bind (Fin.bind q)) fun x ρ1 F1 H1 R1 S1 k v hv => ?_⟩
  refine ⟨F1, ρ1, R1, Fin.mono (Fin.bind (Fin.bind (Fin.base R1 S1 k))) fun y ρ2 F2 H2 R2 S2 k u hu => ?_⟩
  have S12 := S1.trans R1 S2
  have k := k F2 H2 R2 S2
  have k : Fin X T fld Z W σ F H ρ (opt? ((rsvs ρ2 [x, y]).bind rngD) ρ2) _ := k F2 H2 R2 S2
  cases e1 : rsv ρ2 x with
  | none => simp only [rsvs, e1] at k; exact k.elim
  | some d =>
    cases e3 : rsv ρ2 y with
    | none => simp only [rsvs, e1, e3] at k; exact k.elim
    | some e =>
      have e2 : rsvs ρ2 [x, y] = some [d, e] := by simp only [rsvs, e1, e3]
      rw [e2] at k
      cases d with
      | int i =>
        cases e with
        | int j =>
          have k : Fin X T fld Z W σ F H ρ (opt? (if ok62 i && ok62 j then some (intsFrom i (j - i).toNat) else none) ρ2) _ := k
          by_cases h : (ok62 i && ok62 j) = true
          · rw [if_pos h] at k
            obtain ⟨h1, h2⟩ := Bool.and_eq_true_iff.mp h
            obtain ⟨h1, h3⟩ := ok62_of h1
            obtain ⟨h2, h4⟩ := ok62_of h2
            exact ⟨i, j, by rw [dq_int (dq_of R2 (qr_mono S2.frz hv) e1), dq_int (dq_of R2 hu e3)], ⟨h1, h3, h2, h4⟩, k F2 H2 R2 S12 _ wk_rng⟩
          · rw [if_neg h] at k
            exact k.elim
        | _ => exact k.elim
      | _ => exact k.elim
theorem intsDown_get : ∀ (n : Nat) (hi : Int) (i : Nat) (d : D), (intsDown hi n)[i]? = some d → i < n ∧ d = .int (hi + (i : Nat) * (-1))
  | 0, hi, i, d, h => by simp [intsDown] at h
  | n + 1, hi, 0, d, h => by
    simp [intsDown] at h
    exact ⟨Nat.succ_pos _, by rw [← h]; simp⟩
  | n + 1, hi, i + 1, d, h => by
    obtain ⟨h1, h2⟩ := intsDown_get n (hi - 1) i d (by simpa [intsDown] using h)
    refine ⟨Nat.succ_lt_succ h1, ?_⟩
    rw [h2]
    congr 1
    omega
theorem intsDown_len : ∀ (n : Nat) (hi : Int), (intsDown hi n).length = n
  | 0, _ => rfl
  | n + 1, hi => congrArg Nat.succ (intsDown_len n (hi - 1))
theorem wk_rngC {hi : Int} {n : Nat} : Wk K T Z (L2.Itc hi (-1) n) F (intsDown hi n) where
  go := fun i F2 H σ ρ d e R up => by
    obtain ⟨h1, h2⟩ := intsDown_get n hi i d e
    subst h2
    refine ⟨h1, fun x H' ⟨eH, ex⟩ => ?_⟩
    subst eH ex
    exact ⟨F2, R, Stp.refl, .int _⟩
  stop := fun F2 H σ ρ R up => Nat.le_of_eq (intsDown_len n hi).symm
theorem rgc_pos {i j c : Int} (ha : -(2 ^ 62) ≤ i) (ha' : i < 2 ^ 62) (hb : -(2 ^ 62) ≤ j) (hb' : j < 2 ^ 62) (hc : 0 < c) (hc' : c < 1000000000) : L2.RgC i j c ((j - i + c - 1) / c).toNat := by
  have hsz : Builtin.Range.rangeSize i j c = (((j - i + c - 1) / c).toNat : Int) := by
    unfold Builtin.Range.rangeSize
    rw [if_pos (show c > 0 from hc)]
    have e : (j - i + c - 1) / c = (j - i - 1) / c + 1 := by
      rw [show j - i + c - 1 = (j - i - 1) + c by omega, Int.add_ediv_of_dvd_right (Int.dvd_refl c), Int.ediv_self (by omega)]
    by_cases h : i < j
    · rw [if_pos h, e]
      have : 0 ≤ (j - i - 1) / c := Int.ediv_nonneg (by omega) (by omega)
      omega
    · rw [if_neg h, e]
      have : (j - i - 1) / c < 0 := Int.ediv_neg_of_neg_of_pos (by omega) hc
      omega
  refine ⟨by omega, by omega, ?_, hsz⟩
  have hb2 : Builtin.Range.rangeSize i j c ≤ 2 ^ 63 - 1 ∧ 0 ≤ Builtin.Range.rangeSize i j c := by
    unfold Builtin.Range.rangeSize
    rw [if_pos (show c > 0 from hc)]
    split
    · have : (j - i - 1) / c ≤ j - i - 1 := by
        have := Int.ediv_le_self c (show 0 ≤ j - i - 1 by omega)
        omega
      have : 0 ≤ (j - i - 1) / c := Int.ediv_nonneg (by omega) (by omega)
      omega
    · omega
  unfold Builtin.Range.small
  generalize Builtin.Range.rangeSize i j c = z at hb2
  simp only [Builtin.Range.rangeFitsLong, Bool.and_eq_true, Bool.or_eq_true, decide_eq_true_eq, beq_iff_eq, if_pos (show c > 0 from hc)]
  omega
theorem intsStep_get {c : Int} : ∀ (n : Nat) (lo : Int) (i : Nat) (d : D), (intsStep c lo n)[i]? = some d → i < n ∧ d = .int (lo + (i : Int) * c) := fun n => by
  induction n with
  | zero => intro lo i d e; simp [intsStep] at e
  | succ n ih =>
    intro lo i d e
    cases i with
    | zero => simp [intsStep] at e; exact ⟨by omega, by rw [← e]; simp⟩
    | succ i =>
      obtain ⟨h1, h2⟩ := ih (lo + c) i d (by simpa [intsStep] using e)
      refine ⟨by omega, ?_⟩
      rw [h2]
      congr 1
      rw [Int.natCast_add, Int.add_mul]
      omega
theorem intsStep_len {c : Int} : ∀ (n : Nat) (lo : Int), (intsStep c lo n).length = n
  | 0, _ => rfl
  | n + 1, lo => congrArg Nat.succ (intsStep_len n (lo + c))
theorem wk_rngS {lo c : Int} {n : Nat} : Wk K T Z (L2.Itc lo c n) F (intsStep c lo n) where
  go := fun i F2 H σ ρ d e R up => by
    obtain ⟨h1, h2⟩ := intsStep_get n lo i d e
    subst h2
    refine ⟨h1, fun x H' ⟨eH, ex⟩ => ?_⟩
    subst eH ex
    exact ⟨F2, R, Stp.refl, .int _⟩
  stop := fun F2 H σ ρ R up => Nat.le_of_eq (intsStep_len n lo).symm
theorem t_rng3 {tg a b c : Expr} {f g h : Env → Out Qv} {p pos : Pos} (hg : Gl X "range") (hm : X.mg "range" = none) (ha : PE X a (tQ X T fld Z f W)) (hb : PE X b (tQ X T fld Z g W)) (hc : PE X c (tQ X T fld Z h W)) (hs : starEach [a, b, c] X.env = (false, eval a X.env) :: starEach [b, c] X.env) (hs2 : starEach [b, c] X.env = (false, eval b X.env) :: starEach [c] X.env) (hs3 : starEach [c] X.env = [(false, eval c X.env)]) :
    PI X tg (.Call (.Name "range" p) [a, b, c] [] pos) (tI X T fld Z (fun ρ => ((f ρ).bind fun q ρ => ((g ρ).bind fun q ρ => ((h ρ).bind fun q ρ => (Out.ok [] ρ).bind fun qs ρ => .ok (q :: qs) ρ).bind fun qs ρ => .ok (q :: qs) ρ).bind fun qs ρ => .ok (q :: qs) ρ).bind fun qs ρ => opt? ((rsvs ρ qs).bind rngD) ρ) W) := by
  refine pi_imp (L2.pi_range3 hg hm (L2.pa_cons ha (L2.pa_cons hb (L2.pa_cons hc L2.pa_nil hs3) (by rw [hs2])) (by rw [hs])) (by rw [hs]) (by rw [hs2, hs3]; rfl)) fun σ H R ⟨F, ρ, Rl, q⟩ => ⟨F, ρ, Rl, Fin.mono (Fin.bind (Fin.bind q)) fun x ρ1 F1 H1 R1 S1 k v hv => ?_⟩
  refine ⟨F1, ρ1, R1, Fin.mono (Fin.bind (Fin.bind (Fin.base R1 S1 k))) fun y ρ2 F2 H2 R2 S2 k u hu => ?_⟩
  have S12 := S1.trans R1 S2
  refine ⟨F2, ρ2, R2, Fin.mono (Fin.bind (Fin.bind (Fin.base R2 S2 k))) fun z ρ3 F3 H3 R3 S3 k w hw => ?_⟩
  have S13 := S12.trans R2 S3
  have k := k F3 H3 R3 S3
  have k := k F3 H3 R3 S3
  have k := k F3 H3 R3 (S2.trans R2 S3)
  have k : Fin X T fld Z W σ F H ρ (opt? ((rsvs ρ3 [x, y, z]).bind rngD) ρ3) _ := k
  cases e1 : rsv ρ3 x with
  | none => simp only [rsvs, e1] at k; exact k.elim
  | some d =>
    cases e3 : rsv ρ3 y with
    | none => simp only [rsvs, e1, e3] at k; exact k.elim
    | some e =>
      cases e5 : rsv ρ3 z with
      | none => simp only [rsvs, e1, e3, e5] at k; exact k.elim
      | some e' =>
        have e2 : rsvs ρ3 [x, y, z] = some [d, e, e'] := by simp only [rsvs, e1, e3, e5]
        rw [e2] at k
        cases d with
        | int i =>
          cases e with
          | int j =>
            cases e' with
            | int c =>
              have kk : Fin X T fld Z W σ F H ρ (opt? (if ok62 i && (ok62 j && decide (c = -1)) then some (intsDown i (i - j).toNat) else if ok62 i && (ok62 j && (decide (0 < c) && decide (c < 1000000000))) then some (intsStep c i ((j - i + c - 1) / c).toNat) else none) ρ3) _ := k
              by_cases h : (ok62 i && (ok62 j && decide (c = -1))) = true
              · rw [if_pos h] at kk
                obtain ⟨h1, h2⟩ := Bool.and_eq_true_iff.mp h
                obtain ⟨h6, h5⟩ := Bool.and_eq_true_iff.mp h2
                have h5 := of_decide_eq_true h5
                subst h5
                obtain ⟨h1, h3⟩ := ok62_of h1
                obtain ⟨h6, h4⟩ := ok62_of h6
                exact ⟨i, j, -1, (i - j).toNat, by rw [dq_int (dq_of R3 (qr_mono (S2.trans R2 S3).frz hv) e1), dq_int (dq_of R3 (qr_mono S3.frz hu) e3), dq_int (dq_of R3 hw e5)], L2.RgC.neg h1 h3 h6 h4, kk F3 H3 R3 S13 _ wk_rngC⟩
              · rw [if_neg h] at kk
                by_cases h : (ok62 i && (ok62 j && (decide (0 < c) && decide (c < 1000000000)))) = true
                · rw [if_pos h] at kk
                  simp only [Bool.and_eq_true, decide_eq_true_eq] at h
                  obtain ⟨h1, h2, h3, h4⟩ := h
                  obtain ⟨a1, a2⟩ := ok62_of h1
                  obtain ⟨b1, b2⟩ := ok62_of h2
                  exact ⟨i, j, c, ((j - i + c - 1) / c).toNat, by rw [dq_int (dq_of R3 (qr_mono (S2.trans R2 S3).frz hv) e1), dq_int (dq_of R3 (qr_mono S3.frz hu) e3), dq_int (dq_of R3 hw e5)], rgc_pos a1 a2 b1 b2 h3 h4, kk F3 H3 R3 S13 _ wk_rngS⟩
                · rw [if_neg h] at kk
                  exact kk.elim
            | _ => exact k.elim
          | _ => exact k.elim
        | _ => exact k.elim
end
end Sw

end
section
set_option maxRecDepth 100000
set_option maxHeartbeats 1000000
namespace Sw
open PySem PySem.Spec PyProof.Rows
open L2 (V Hp HO upd upd_same upd_ne SqL SqT Rd VK XK WX Cx Inv RelV Vals PE PT PW PA PI PS PSs EP TP AP SP TE TT TA TS TI It Takes thn Gl Vis Loc Room OpR CallR TyX PG PGs TG TGs)
section
variable {X : Cx} {T : List (Addr × Str)} {fld : Fld} {Z : Gh} {W : WX} {σ σ' : L2.St} {F F' H H' : Hp} {ρ ρ' : Env} {K : PySem.W.Frag}
def tgIx : Tg → List Nat
  | .nm i => [i]
  | .tp ts => tgIx ts
  | .nl => []
  | .cs t ts => tgIx t ++ tgIx ts
/-- the slots but those at is are alike -/
def But (is : List Nat) (σ σ' : L2.St) : Prop := σ'.length = σ.length ∧ ∀ j, j ∉ is → σ'[j]? = σ[j]?
def gT (K : PySem.W.Frag) (T : List (Addr × Str)) (Z : Gh) (tg : Tg) : TG := fun v σ H Q => ∃ F ρ d ρ', Rel K T Z F H σ ρ ∧ Rp K F v d ∧ asg tg d ρ = some ρ' ∧ ∀ σ', Rel K T Z F H σ' ρ' → But (tgIx tg) σ σ' → Q σ' H
def gTs (K : PySem.W.Frag) (T : List (Addr × Str)) (Z : Gh) (tg : Tg) : TGs := fun vs σ H Q => ∃ F ρ ds ρ', Rel K T Z F H σ ρ ∧ Rps K F vs ds ∧ asg.asgs tg ds ρ = some ρ' ∧ ∀ σ', Rel K T Z F H σ' ρ' → But (tgIx tg) σ σ' → Q σ' H
theorem PG.imp {e : Expr} {t t' : TG} (h : PG X e t) (m : ∀ v σ H Q, t' v σ H Q → t v σ H Q) : PG X e t' := ⟨fun pins s σ H v u Q I r q => h.run pins s σ H v u Q I r (m _ _ _ _ q)⟩
theorem PG.or {e : Expr} {t t' : TG} (h : PG X e t) (h' : PG X e t') : PG X e (fun v σ H Q => t v σ H Q ∨ t' v σ H Q) := ⟨fun pins s σ H v u Q I r q => q.elim (h.run pins s σ H v u Q I r) (h'.run pins s σ H v u Q I r)⟩
theorem PGs.imp {e : List Expr} {t t' : TGs} (h : PGs X e t) (m : ∀ v σ H Q, t' v σ H Q → t v σ H Q) : PGs X e t' := ⟨fun pins s σ H v u Q I r q => h.run pins s σ H v u Q I r (m _ _ _ _ q)⟩
theorem set1_io {i : Nat} {s : Slot} (h : set1 i s ρ = some ρ') : (∀ ds, ρ[i]? ≠ some (Slot.io ds)) ∧ ρ' = ρ.set i s ∧ i < ρ.length := by
  unfold set1 at h
  cases e : ρ[i]? with
  | none => rw [e] at h; cases h
  | some t =>
    rw [e] at h
    have hi := (List.getElem?_eq_some_iff.mp e).1
    cases t with
    | io ds => cases h
    | em => cases h; exact ⟨fun ds z => (by cases z), rfl, hi⟩
    | pl d => cases h; exact ⟨fun ds z => (by cases z), rfl, hi⟩
    | ow d => cases h; exact ⟨fun ds z => (by cases z), rfl, hi⟩
theorem But.set {i : Nat} {v : Option V} : But [i] σ (σ.set i v) := ⟨List.length_set, fun j h => List.getElem?_set_ne (by
  intro z
  exact h (by rw [z]; exact List.mem_singleton_self _))⟩
theorem g_nm {e : Expr} {i : Nat} (h : PG X e (L2.gName i)) : PG X e (gT X.K T Z (.nm i)) :=
  PG.imp h fun v σ H Q ⟨F, ρ, d, ρ', R, r, e, k⟩ => by
    obtain ⟨n, rfl, _⟩ := set1_io e
    exact k _ (R.set n r) But.set
theorem g_tp {es : List Expr} {kk : Nat} {pos : Pos} {ts : Tg} (hc : X.calm = true) (h : PGs X es (gTs X.K T Z ts)) (hl : ∀ ds ρ ρ', asg.asgs ts ds ρ = some ρ' → ds.length = (assignEach es X.env).length) (hst : (assignEach es X.env).findIdx? (·.1) = none) :
    PG X (.Tuple es kk pos) (gT X.K T Z (.tp ts)) :=
  PG.imp (PG.or (L2.pg_tup hc h rfl hst) (L2.pg_unl hc h rfl hst)) fun v σ H Q ⟨F, ρ, d, ρ', R, r, e, k⟩ => by
    cases d with
    | list l =>
      have e : asg.asgs ts l ρ = some ρ' := e
      cases r with
      | lst s a => exact .inr ⟨_, _, rfl, sql_mono R.sub s, by rw [dps_len a]; exact hl _ _ _ e, F, ρ, l, ρ', R, a, e, k⟩
    | tuple l =>
      have e : asg.asgs ts l ρ = some ρ' := e
      cases r with
      | tup s a => exact .inl ⟨_, _, rfl, sqt_mono R.sub s, by rw [dps_len a]; exact hl _ _ _ e, F, ρ, l, ρ', R, a, e, k⟩
    | _ => cases e
theorem g_nl : PGs X [] (gTs X.K T Z .nl) :=
  PGs.imp L2.pgs_nil fun vs σ H Q ⟨F, ρ, ds, ρ', R, r, e, k⟩ => by
    cases ds with
    | nil =>
      cases r
      cases e
      exact ⟨rfl, k σ R ⟨rfl, fun j _ => rfl⟩⟩
    | cons d l => cases e
theorem But.trans {a b : List Nat} {σ'' : L2.St} (x : But a σ σ') (y : But b σ' σ'') : But (a ++ b) σ σ'' :=
  ⟨y.1.trans x.1, fun j h => (y.2 j fun z => h (List.mem_append_right _ z)).trans (x.2 j fun z => h (List.mem_append_left _ z))⟩
theorem g_cs {e : Expr} {es : List Expr} {t ts : Tg} (h1 : PG X e (gT X.K T Z t)) (h2 : PGs X es (gTs X.K T Z ts)) (hs : (assignEach (e :: es) X.env).map (·.2) = assign e X.env :: (assignEach es X.env).map (·.2)) :
    PGs X (e :: es) (gTs X.K T Z (.cs t ts)) :=
  PGs.imp (L2.pgs_cons h1 h2 hs) fun vs σ H Q ⟨F, ρ, ds, ρ', R, r, e, k⟩ => by
    cases ds with
    | nil => cases e
    | cons d l =>
      cases r with
      | cons r1 r2 =>
        have e : (asg t d ρ).bind (fun ρ => asg.asgs ts l ρ) = some ρ' := e
        cases e1 : asg t d ρ with
        | none => rw [e1] at e; cases e
        | some ρ1 =>
          rw [e1] at e
          exact ⟨_, _, rfl, F, ρ, d, ρ1, R, r1, e1, fun σ1 R1 B1 => ⟨F, ρ1, l, ρ', R1, r2, e, fun σ2 R2 B2 => k σ2 R2 (B1.trans B2)⟩⟩
/-- behind an assignment no slot owns more, and none of the target's owns -/
theorem set1_own {i j : Nat} {d : D} (h : set1 i (.pl d) ρ = some ρ') (o : isOwn ρ' j) : isOwn ρ j ∧ j ≠ i := by
  obtain ⟨_, rfl, hi⟩ := set1_io h
  obtain ⟨ds, o⟩ := o
  by_cases hj : j = i
  · subst hj
    rw [List.getElem?_set_self hi] at o
    rcases o with o | o <;> cases o
  · rw [List.getElem?_set_ne (Ne.symm hj)] at o
    exact ⟨⟨ds, o⟩, hj⟩
mutual
theorem asg_own : ∀ (tg : Tg) (d : D) (ρ ρ' : Env), asg tg d ρ = some ρ' → ∀ j, isOwn ρ' j → isOwn ρ j ∧ j ∉ tgIx tg
  | .nm i, d, ρ, ρ', h, j, o => by
    obtain ⟨a, b⟩ := set1_own h o
    exact ⟨a, fun z => b (List.mem_singleton.mp z)⟩
  | .tp ts, .tuple l, ρ, ρ', h, j, o => asgs_own ts l ρ ρ' h j o
  | .tp ts, .none, ρ, ρ', h, j, o => by cases h
  | .tp ts, .int _, ρ, ρ', h, j, o => by cases h
  | .tp ts, .bool _, ρ, ρ', h, j, o => by cases h
  | .tp ts, .str _, ρ, ρ', h, j, o => by cases h
  | .tp ts, .list l, ρ, ρ', h, j, o => asgs_own ts l ρ ρ' h j o
  | .tp ts, .dict _, ρ, ρ', h, j, o => by cases h
  | .nl, d, ρ, ρ', h, j, o => by cases d <;> cases h
  | .cs t ts, d, ρ, ρ', h, j, o => by cases d <;> cases h
theorem asgs_own : ∀ (tg : Tg) (l : List D) (ρ ρ' : Env), asg.asgs tg l ρ = some ρ' → ∀ j, isOwn ρ' j → isOwn ρ j ∧ j ∉ tgIx tg
  | .nl, [], ρ, ρ', h, j, o => by
    cases h
    exact ⟨o, fun z => by cases z⟩
  | .nl, _ :: _, ρ, ρ', h, j, o => by cases h
  | .nm i, [], ρ, ρ', h, j, o => by cases h
  | .nm i, _ :: _, ρ, ρ', h, j, o => by cases h
  | .tp ts, [], ρ, ρ', h, j, o => by cases h
  | .tp ts, _ :: _, ρ, ρ', h, j, o => by cases h
  | .cs t ts, [], ρ, ρ', h, j, o => by cases h
  | .cs t ts, d :: l, ρ, ρ', h, j, o => by
    have h : (asg t d ρ).bind (fun ρ => asg.asgs ts l ρ) = some ρ' := h
    cases e1 : asg t d ρ with
    | none => rw [e1] at h; cases h
    | some ρ1 =>
      rw [e1] at h
      obtain ⟨a, b⟩ := asgs_own ts l ρ1 ρ' h j o
      obtain ⟨a', b'⟩ := asg_own t d ρ ρ1 e1 j a
      exact ⟨a', fun z => (List.mem_append.mp z).elim b' b⟩
end
theorem asgs_len : ∀ (tg : Tg) (l : List D) (ρ ρ' : Env), asg.asgs tg l ρ = some ρ' → l.length = tgLen tg
  | .nl, [], ρ, ρ', h => rfl
  | .nl, _ :: _, ρ, ρ', h => by cases h
  | .nm i, [], ρ, ρ', h => by cases h
  | .nm i, _ :: _, ρ, ρ', h => by cases h
  | .tp ts, [], ρ, ρ', h => by cases h
  | .tp ts, _ :: _, ρ, ρ', h => by cases h
  | .cs t ts, [], ρ, ρ', h => by cases h
  | .cs t ts, d :: l, ρ, ρ', h => by
    have h : (asg t d ρ).bind (fun ρ => asg.asgs ts l ρ) = some ρ' := h
    cases e1 : asg t d ρ with
    | none => rw [e1] at h; cases h
    | some ρ1 =>
      rw [e1] at h
      exact congrArg Nat.succ (asgs_len ts l ρ1 ρ' h)
theorem Rel.drop (R : Rel K T Z F H σ ρ) {i : Nat} (hi : ∀ ds, ρ[i]? ≠ some (Slot.io ds)) : Rel K T Z F H (σ.set i none) (ρ.set i .em) := by
  have R1 := R.emp hi
  have key : ∀ {j : Nat} {t : Slot}, (ρ.set i .em)[j]? = some t → t ≠ .em → (σ.set i none)[j]? = σ[j]? := fun {j t} e n => by
    by_cases h : j = i
    · subst h
      by_cases hl : j < ρ.length
      · rw [List.getElem?_set_self hl] at e; cases e; exact absurd rfl n
      · rw [List.getElem?_eq_none (by simpa using hl)] at e; cases e
    · rw [List.getElem?_set_ne (Ne.symm h)]
  have keyo : ∀ {j : Nat}, isOwn (ρ.set i .em) j → (σ.set i none)[j]? = σ[j]? := fun ⟨ds, e⟩ => e.elim (fun e => key e (fun z => by cases z)) fun e => key e fun z => by cases z
  refine ⟨R1.sub, R1.ntb, R1.tab, R1.keep, R1.old, R1.new, by rw [List.length_set, List.length_set]; exact R.len, fun j d e => ?_, fun j ds e => ?_, fun j ds e => ?_, R1.mi, fun j k a hj hk ej ek => ?_⟩
  · obtain ⟨v, e1, r⟩ := R1.pl j d e
    exact ⟨v, by rw [key e (fun z => by cases z)]; exact e1, r⟩
  · obtain ⟨a, o, z⟩ := R1.ow j ds e
    exact ⟨a, ⟨by rw [key e (fun z => by cases z)]; exact o.at_, o.nf, o.ob⟩, z⟩
  · obtain ⟨a, o, z⟩ := R1.io j ds e
    exact ⟨a, ⟨by rw [key e (fun z => by cases z)]; exact o.at_, o.nf, o.ob⟩, z⟩
  · rw [keyo hj] at ej
    rw [keyo hk] at ek
    exact R1.ap j k a hj hk ej ek
theorem wiped_get : ∀ (vs : List Nat) (j : Nat), (wiped ρ vs)[j]? = if j ∈ vs ∧ j < ρ.length then some .em else ρ[j]?
  | [], j => by simp [wiped]
  | v :: vs, j => by
    unfold wiped
    have ih := wiped_get vs j
    have hl : ∀ vs : List Nat, (wiped ρ vs).length = ρ.length := fun vs => by
      induction vs with
      | nil => rfl
      | cons a l ih => unfold wiped; rw [List.length_set, ih]
    by_cases h : j = v
    · subst h
      by_cases hj : j < ρ.length
      · rw [List.getElem?_set_self (by rw [hl]; exact hj), if_pos ⟨List.mem_cons_self, hj⟩]
      · rw [List.getElem?_eq_none (by rw [List.length_set, hl]; omega), if_neg (fun z => hj z.2), List.getElem?_eq_none (by omega)]
    · rw [List.getElem?_set_ne (Ne.symm h), ih]
      have : (j ∈ v :: vs ∧ j < ρ.length) ↔ (j ∈ vs ∧ j < ρ.length) := by simp [h]
      simp only [this]
theorem Rel.wipe (R : Rel K T Z F H σ ρ) : ∀ {vs : List Nat}, (∀ v ∈ vs, ∀ ds, ρ[v]? ≠ some (Slot.io ds)) → Rel K T Z F H (L2.wipe σ vs) (wiped ρ vs)
  | [], _ => R
  | v :: vs, h => by
    unfold L2.wipe wiped
    refine (R.wipe fun u hu => h u (List.mem_cons_of_mem _ hu)).drop fun ds e => ?_
    rw [wiped_get] at e
    split at e
    · cases e
    · exact h v List.mem_cons_self ds e
theorem wipeE_is : ∀ {vs : List Nat} {ρ' : Env}, wipeE vs ρ = some ρ' → ρ' = wiped ρ vs ∧ ∀ v ∈ vs, ρ[v]? = some .em ∨ ∃ d, ρ[v]? = some (.pl d)
  | [], ρ', h => by
    cases h
    exact ⟨rfl, fun v z => by cases z⟩
  | v :: vs, ρ', h => by
    have h : (wipeE vs ρ).bind (fun ρ' => match ρ[v]? with
      | some .em => some (ρ'.set v .em)
      | some (.pl _) => some (ρ'.set v .em)
      | _ => none) = some ρ' := h
    cases e1 : wipeE vs ρ with
    | none => rw [e1] at h; cases h
    | some ρ1 =>
      rw [e1] at h
      obtain ⟨e2, e3⟩ := wipeE_is e1
      subst e2
      cases e4 : ρ[v]? with
      | none => simp only [e4, Option.bind_some] at h; cases h
      | some s =>
        cases s with
        | em =>
          simp only [e4, Option.bind_some] at h
          cases h
          exact ⟨rfl, fun u hu => (List.mem_cons.mp hu).elim (fun z => by rw [z]; exact .inl e4) (e3 u)⟩
        | pl d =>
          simp only [e4, Option.bind_some] at h
          cases h
          exact ⟨rfl, fun u hu => (List.mem_cons.mp hu).elim (fun z => by rw [z]; exact .inr ⟨d, e4⟩) (e3 u)⟩
        | ow d => simp only [e4, Option.bind_some] at h; cases h
        | io d => simp only [e4, Option.bind_some] at h; cases h
theorem restore_len (ρ₀ : Env) : ∀ vs : List Nat, (restore ρ₀ vs ρ).length = ρ.length
  | [] => rfl
  | v :: vs => by unfold restore; rw [List.length_set, restore_len ρ₀ vs]
theorem restore_get (ρ₀ : Env) : ∀ (vs : List Nat) (j : Nat), (restore ρ₀ vs ρ)[j]? = if j ∈ vs ∧ j < ρ.length then some ((ρ₀[j]?).getD .em) else ρ[j]?
  | [], j => by simp [restore]
  | v :: vs, j => by
    unfold restore
    have ih := restore_get ρ₀ vs j
    by_cases h : j = v
    · subst h
      by_cases hj : j < ρ.length
      · rw [List.getElem?_set_self (by rw [restore_len]; exact hj), if_pos ⟨List.mem_cons_self, hj⟩]
      · rw [List.getElem?_eq_none (by rw [List.length_set, restore_len]; omega), if_neg (fun z => hj z.2), List.getElem?_eq_none (by omega)]
    · rw [List.getElem?_set_ne (Ne.symm h), ih]
      have : (j ∈ v :: vs ∧ j < ρ.length) ↔ (j ∈ vs ∧ j < ρ.length) := by simp [h]
      simp only [this]
theorem wipe_get : ∀ (vs : List Nat) (j : Nat), j ∉ vs → (L2.wipe σ vs)[j]? = σ[j]? := fun vs j h => L2.wipe_out h
/-- the slots of a comprehension are given back -/
theorem Rel.back {F₀ H₀ : Hp} {ρ₀ : Env} {own : List Nat} (R₀ : Rel K T Z F₀ H₀ σ ρ₀) (up : ∀ b o, F₀ b = some o → F b = some o) (R : Rel K T Z F H (L2.wipe σ own) (wiped ρ own))
    (hw : ∀ v ∈ own, ρ₀[v]? = some .em ∨ ∃ d, ρ₀[v]? = some (.pl d)) : Rel K T Z F H σ (restore ρ₀ own ρ) := by
  have wl : ∀ vs : List Nat, (wiped ρ vs).length = ρ.length := fun vs => by
    induction vs with
    | nil => rfl
    | cons a l ih => unfold wiped; rw [List.length_set, ih]
  have hl : ρ.length = σ.length := by
    have := R.len
    rw [wl, L2.wipe_length] at this
    exact this
  have hl₀ := R₀.len
  -- a slot that is not one of the block's
  have out : ∀ {j : Nat} {t : Slot}, (restore ρ₀ own ρ)[j]? = some t → (j ∉ own ∧ (wiped ρ own)[j]? = some t ∧ (L2.wipe σ own)[j]? = σ[j]?) ∨ (j ∈ own ∧ ρ₀[j]? = some t) := fun {j t} e => by
    rw [restore_get] at e
    by_cases h : j ∈ own
    · by_cases hj : j < ρ.length
      · rw [if_pos ⟨h, hj⟩] at e
        refine .inr ⟨h, ?_⟩
        rcases hw j h with q | ⟨d, q⟩
        · rw [q] at e ⊢; exact e
        · rw [q] at e ⊢; exact e
      · rw [if_neg (fun z => hj z.2), List.getElem?_eq_none (by omega)] at e
        cases e
    · rw [if_neg (fun z => h z.1)] at e
      exact .inl ⟨h, by rw [wiped_get, if_neg (fun z => h z.1)]; exact e, wipe_get _ _ h⟩
  have noo : ∀ {j : Nat} {ds : List D}, j ∈ own → ρ₀[j]? ≠ some (.ow ds) ∧ ρ₀[j]? ≠ some (.io ds) := fun {j ds} h => by
    rcases hw j h with q | ⟨d, q⟩
    · rw [q]; exact ⟨fun z => (by cases z), fun z => (by cases z)⟩
    · rw [q]; exact ⟨fun z => (by cases z), fun z => (by cases z)⟩
  have isO : ∀ {j : Nat}, isOwn (restore ρ₀ own ρ) j → isOwn (wiped ρ own) j ∧ (L2.wipe σ own)[j]? = σ[j]? := fun {j} ⟨ds, e⟩ => by
    rcases e with e | e
    · rcases out e with ⟨_, a, b⟩ | ⟨a, b⟩
      · exact ⟨⟨ds, .inl a⟩, b⟩
      · exact absurd b (noo a).1
    · rcases out e with ⟨_, a, b⟩ | ⟨a, b⟩
      · exact ⟨⟨ds, .inr a⟩, b⟩
      · exact absurd b (noo a).2
  refine ⟨R.sub, R.ntb, R.tab, R.keep, R.old, R.new, by rw [restore_len]; exact hl, fun j d e => ?_, fun j ds e => ?_, fun j ds e => ?_, fun j a e => ?_, fun j k a hj hk ej ek => ?_⟩
  · rcases out e with ⟨_, a, b⟩ | ⟨a, b⟩
    · obtain ⟨v, e1, r⟩ := R.pl j d a
      exact ⟨v, by rw [← b]; exact e1, r⟩
    · obtain ⟨v, e1, r⟩ := R₀.pl j d b
      exact ⟨v, e1, dp_mono up r⟩
  · rcases out e with ⟨_, a, b⟩ | ⟨a, b⟩
    · obtain ⟨p, o, z⟩ := R.ow j ds a
      exact ⟨p, ⟨by rw [← b]; exact o.at_, o.nf, o.ob⟩, z⟩
    · exact absurd b (noo a).1
  · rcases out e with ⟨_, a, b⟩ | ⟨a, b⟩
    · obtain ⟨p, o, z⟩ := R.io j ds a
      exact ⟨p, ⟨by rw [← b]; exact o.at_, o.nf, o.ob⟩, z⟩
    · exact absurd b (noo a).2
  · obtain ⟨ds, q⟩ := R.mi j a e
    have n : j ∉ own := fun z => by
      rw [wiped_get] at q
      split at q
      · cases q
      · rename_i h
        obtain ⟨ds2, q2⟩ := R₀.mi j a e
        exact (noo z).2 q2
    refine ⟨ds, ?_⟩
    rw [wiped_get, if_neg (fun z => n z.1)] at q
    rw [restore_get, if_neg (fun z => n z.1)]
    exact q
  · obtain ⟨oj, bj⟩ := isO hj
    obtain ⟨ok, bk⟩ := isO hk
    exact R.ap j k a oj ok (by rw [bj]; exact ej) (by rw [bk]; exact ek)
end
end Sw

end
section
set_option maxRecDepth 100000
set_option maxHeartbeats 1000000
namespace Sw
open PySem PySem.Spec PyProof.Rows
open L2 (V Hp HO upd upd_same upd_ne SqL SqT Rd VK XK WX Cx Inv RelV Vals PE PT PW PA PI PS PSs EP TP AP SP TE TT TA TS TI It Takes thn Gl Vis Loc Room OpR CallR TyX PG PGs TG TGs PTs)
section
variable {X : Cx} {T : List (Addr × Str)} {fld : Fld} {Z : Gh} {W : WX} {σ σ' : L2.St} {F F' H H' : Hp} {ρ ρ' : Env} {K : PySem.W.Frag}
/-- the new list, so far -/
def Acc (K : PySem.W.Frag) (Z : Gh) (F H : Hp) (σ : L2.St) (ρ : Env) (p : Addr) (acc : List D) : Prop :=
  ∃ vs, H p = some (.lst vs) ∧ Rps K F vs acc ∧ F p = none ∧ Nt Z.H p ∧ ∀ j, isOwn ρ j → σ[j]? ≠ some (some (.ref p))
theorem Acc.step {p : Addr} {acc : List D} (R : Rel K T Z F' H' σ ρ') (S : Stp F H σ ρ F' H' ρ') (a : Acc K Z F H σ ρ p acc) : Acc K Z F' H' σ ρ' p acc := by
  obtain ⟨vs, h1, h2, h3, h4, h5⟩ := a
  refine ⟨vs, ?_, dps_mono S.frz h2, ?_, h4, fun j hj => h5 j (S.own j hj)⟩
  · exact S.keep p _ h1 h5 fun ps z => by cases z
  · cases q : F' p with
    | none => rfl
    | some o =>
      rcases S.nfz p o q with h | h | ⟨i, hi, e⟩
      · rw [h3] at h; cases h
      · obtain ⟨ps, z⟩ := h _ h1
        cases z
      · exact absurd e (h5 i hi)
/-- other slots -/
theorem Acc.slots {p : Addr} {acc : List D} (a : Acc K Z F H σ ρ p acc) (h : ∀ j, isOwn ρ' j → isOwn ρ j ∧ σ'[j]? = σ[j]?) : Acc K Z F H σ' ρ' p acc := by
  obtain ⟨vs, h1, h2, h3, h4, h5⟩ := a
  exact ⟨vs, h1, h2, h3, h4, fun j hj => by
    obtain ⟨x, y⟩ := h j hj
    rw [y]
    exact h5 j x⟩
/-- the new list grows -/
theorem Rel.grow (R : Rel K T Z F H σ ρ) {p : Addr} {vs us : List V} (h1 : H p = some (.lst vs)) (hF : F p = none) (hZ : Nt Z.H p) (ho : ∀ j, isOwn ρ j → σ[j]? ≠ some (some (.ref p))) : Rel K T Z F (upd H p (.lst us)) σ ρ := by
  have own : ∀ {i a ds}, isOwn ρ i → Own K F H σ i a ds → Own K F (upd H p (.lst us)) σ i a ds := fun {i a ds} hi x => ⟨x.at_, x.nf, by
    obtain ⟨ws, e, r⟩ := x.ob
    exact ⟨ws, by rw [upd_ne fun z => ho i hi (by rw [← z]; exact x.at_)]; exact e, r⟩⟩
  refine ⟨fun b o e => ?_, R.ntb, tabs_upd R.tab (fun ps e => by rw [h1] at e; cases e) (fun ps e => by rw [h1] at e; cases e), fun b o e n t => ?_, R.old, R.new, R.len, R.pl, fun i ds e => ?_, fun i ds e => ?_, R.mi, R.ap⟩
  · rw [upd_ne fun z => by rw [z, hF] at e; cases e]
    exact R.sub b o e
  · have hb : b ≠ p := fun z => by
      rw [z] at e
      obtain ⟨ps, q⟩ := hZ o e
      exact t ps q
    rw [upd_ne hb]
    exact R.keep b o e n t
  · obtain ⟨a, o, z⟩ := R.ow i ds e
    exact ⟨a, own ⟨ds, .inl e⟩ o, z⟩
  · obtain ⟨a, o, z⟩ := R.io i ds e
    exact ⟨a, own ⟨ds, .inr e⟩ o, z⟩
theorem Stp.conv {σa σb : L2.St} {ρa ρb ρa' ρb' : Env} (S : Stp F H σa ρa F' H' ρa') (h1 : ∀ j, isOwn ρa j → isOwn ρb j ∧ σb[j]? = σa[j]?) (h2 : ∀ j, isOwn ρb' j → isOwn ρb j) : Stp F H σb ρb F' H' ρb' where
  frz := S.frz
  keep := fun b o e n t => S.keep b o e (fun i hi z => n i (h1 i hi).1 (by rw [(h1 i hi).2]; exact z)) t
  nfz := fun b o e => by
    rcases S.nfz b o e with h | h | ⟨i, hi, z⟩
    · exact .inl h
    · exact .inr (.inl h)
    · exact .inr (.inr ⟨i, (h1 i hi).1, by rw [(h1 i hi).2]; exact z⟩)
  own := h2
theorem Stp.grow {p : Addr} {u : HO} (S : Stp F H σ ρ F' H' ρ') (hp : Nt H p ∨ ∃ i, isOwn ρ i ∧ σ[i]? = some (some (.ref p))) : Stp F H σ ρ F' (upd H' p u) ρ' where
  frz := S.frz
  keep := fun b o e n t => by
    by_cases hb : b = p
    · subst hb
      rcases hp with hp | ⟨i, hi, z⟩
      · obtain ⟨ps, q⟩ := hp o e
        exact absurd q (t ps)
      · exact absurd z (n i hi)
    · rw [upd_ne hb]
      exact S.keep b o e n t
  nfz := S.nfz
  own := S.own
abbrev Wn : WX := fun _ _ _ _ => False
theorem in_own {own : List Nat} {j : Nat} (h : isOwn (wiped ρ own) j) : isOwn ρ j ∧ j ∉ own := by
  obtain ⟨ds, z⟩ := h
  rw [wiped_get] at z
  split at z
  · rcases z with z | z <;> cases z
  · rename_i hn
    refine ⟨⟨ds, z⟩, fun h1 => hn ⟨h1, ?_⟩⟩
    rcases z with z | z
    · exact (List.getElem?_eq_some_iff.mp z).1
    · exact (List.getElem?_eq_some_iff.mp z).1
theorem back_own {ρ₀ : Env} {own : List Nat} (hw : ∀ v ∈ own, ρ₀[v]? = some .em ∨ ∃ d, ρ₀[v]? = some (.pl d)) {j : Nat} : isOwn (restore ρ₀ own ρ) j ↔ isOwn (wiped ρ own) j := by
  have key : ∀ ds, j ∈ own → (((ρ₀[j]?).getD .em) ≠ Slot.ow ds ∧ ((ρ₀[j]?).getD .em) ≠ Slot.io ds) := fun ds h => by
    rcases hw j h with q | ⟨d, q⟩
    · rw [q]; exact ⟨fun z => (by cases z), fun z => (by cases z)⟩
    · rw [q]; exact ⟨fun z => (by cases z), fun z => (by cases z)⟩
  unfold isOwn
  rw [restore_get, wiped_get]
  by_cases h : j ∈ own ∧ j < ρ.length
  · rw [if_pos h, if_pos h]
    refine ⟨fun ⟨ds, z⟩ => ?_, fun ⟨ds, z⟩ => ?_⟩
    · rcases z with z | z
      · exact absurd (Option.some.inj z) (key ds h.1).1
      · exact absurd (Option.some.inj z) (key ds h.1).2
    · rcases z with z | z <;> cases z
  · rw [if_neg h, if_neg h]
theorem lc_sem {it : Env → Out (List D)} {tg : Tg} {c : Env → Out Bool} {e : Env → Out VT} {own : List Nat} {Q : VK} {Wb : WX} (ho : ∀ i ∈ tgIx tg, i ∈ own)
    (h : ∃ F ρ, Rel X.K T Z F H σ ρ ∧ Fin X T fld Z W σ F H ρ (it ρ) fun items ρ1 _ _ => Fin X T fld Z Wb σ F H ρ (lcAll own (lcTurn tg c e) items ρ1) fun r ρ' F' H' => ∀ v, Rv X.K Z H ρ F' H' σ ρ' v r → Q v H') :
    L2.tLc (tI X T fld Z it W) (gT X.K T Z tg) (tT X T fld Z c fun x d _ H => Wb x d σ H) (tE X T fld Z e fun x d _ H => Wb x d σ H) own σ H Q := by
  obtain ⟨F, ρ, R, q⟩ := h
  refine ⟨F, ρ, R, Fin.mono q fun items ρ1 F1 H1 R1 S1 k J wk D hD => ?_⟩
  unfold lcAll at k
  cases ew : wipeE own ρ1 with
  | none => simp only [ew] at k; exact k.elim
  | some ρw =>
    simp only [ew] at k
    obtain ⟨rfl, hw⟩ := wipeE_is ew
    have nio : ∀ v ∈ own, ∀ ds, ρ1[v]? ≠ some (Slot.io ds) := fun v hv ds => by
      rcases hw v hv with q | ⟨d, q⟩
      · rw [q]; intro z; cases z
      · rw [q]; intro z; cases z
    have ww : ∀ ρ : Env, wiped (wiped ρ own) own = wiped ρ own := fun ρ => by
      apply List.ext_getElem?
      intro j
      have hl : (wiped ρ own).length = ρ.length := by
        have : ∀ vs : List Nat, (wiped ρ vs).length = ρ.length := fun vs => by
          induction vs with
          | nil => rfl
          | cons a l ih => unfold wiped; rw [List.length_set, ih]
        exact this own
      rw [wiped_get, wiped_get, hl]
      split
      · rfl
      · rfl
    have hDH : Nt H D ∨ ∃ i, isOwn ρ i ∧ σ[i]? = some (some (.ref D)) := S1.back (nt_none hD)
    -- the invariant
    refine ⟨fun i m H2 => m = items.length - i ∧ i ≤ items.length ∧ ∃ F2 ρ2 acc, Rel X.K T Z F2 H2 (L2.wipe σ own) (wiped ρ2 own) ∧ (∀ b o, F1 b = some o → F2 b = some o) ∧ Stp F H σ ρ F2 H2 (restore ρ1 own ρ2) ∧
      Acc X.K Z F2 H2 (L2.wipe σ own) (wiped ρ2 own) D acc ∧ Fin X T fld Z Wb σ F H ρ (lcFin ρ1 own (lcLoop (lcTurn tg c e) own (items.drop i) acc ρ2)) fun r ρ' F' H' => ∀ v, Rv X.K Z H ρ F' H' σ ρ' v r → Q v H', ⟨_, rfl, Nat.zero_le _, ?_⟩, ?_⟩
    · -- at the start
      have R2 := (R1.alloc (o := .lst []) hD).wipe nio
      have hrest : restore ρ1 own (wiped ρ1 own) = ρ1 := by
        apply List.ext_getElem?
        intro j
        rw [restore_get, wiped_get]
        have hl : ∀ vs : List Nat, (wiped ρ1 vs).length = ρ1.length := fun vs => by
          induction vs with
          | nil => rfl
          | cons a l ih => unfold wiped; rw [List.length_set, ih]
        rw [hl]
        by_cases hj : j ∈ own ∧ j < ρ1.length
        · rw [if_pos hj]
          obtain ⟨h1, h2⟩ := hj
          rw [List.getElem?_eq_getElem h2]
          rfl
        · rw [if_neg hj, if_neg hj]
      refine ⟨F1, wiped ρ1 own, [], by rw [ww]; exact R2, fun _ _ h => h, ?_, ?_, ?_⟩
      · rw [hrest]
        exact S1.trans R1 (stp_alloc (o := .lst []) hD)
      · refine ⟨[], upd_same, .nil, R1.fnone hD, R1.free0 hD, fun j hj e => ?_⟩
        rw [ww] at hj
        have e2 : σ[j]? = some (some (.ref D)) := (L2.wipe_some e).1
        obtain ⟨ds, z⟩ := hj
        have : isOwn ρ1 j := by
          rw [wiped_get] at z
          split at z
          · rcases z with z | z <;> cases z
          · exact ⟨ds, z⟩
        exact R1.notAt hD this e2
      · rw [List.drop_zero]
        exact k
    · rintro i m H2 ⟨rfl, hi, F2, ρ2, acc, R2, up2, S2, A2, k2⟩
      by_cases hlt : i < items.length
      · -- a turn
        have edrop : items.drop i = items[i] :: items.drop (i + 1) := List.drop_eq_getElem_cons hlt
        obtain ⟨go, yl⟩ := wk.go i F2 H2 _ _ items[i] (List.getElem?_eq_getElem hlt) R2 up2
        refine .inr ⟨go, fun H' => ∃ F2 ρ2 acc, Rel X.K T Z F2 H' (L2.wipe σ own) (wiped ρ2 own) ∧ (∀ b o, F1 b = some o → F2 b = some o) ∧ Stp F H σ ρ F2 H' (restore ρ1 own ρ2) ∧
          Acc X.K Z F2 H' (L2.wipe σ own) (wiped ρ2 own) D acc ∧ Fin X T fld Z Wb σ F H ρ (lcFin ρ1 own (lcLoop (lcTurn tg c e) own (items.drop (i + 1)) acc ρ2)) fun r ρ' F' H' => ∀ v, Rv X.K Z H ρ F' H' σ ρ' v r → Q v H',
          fun H' n => ⟨_, by omega, rfl, hlt, n⟩, fun x H3 y => ?_⟩
        obtain ⟨F3, R3, S3, dx⟩ := yl x H3 y
        rw [edrop] at k2
        have k2 : Fin X T fld Z Wb σ F H ρ (lcFin ρ1 own ((lcTurn tg c e items[i] (wiped ρ2 own)).bind fun o ρ => match o with
          | some v => if acc.length < SZ then lcLoop (lcTurn tg c e) own (items.drop (i + 1)) (acc ++ [v]) ρ else .no
          | none => lcLoop (lcTurn tg c e) own (items.drop (i + 1)) acc ρ)) _ := k2
        have A3 := A2.step R3 S3
        cases ea : asg tg items[i] (wiped ρ2 own) with
        | none =>
          have : lcTurn tg c e items[i] (wiped ρ2 own) = .no := by unfold lcTurn; simp only [ea]
          rw [this] at k2
          exact k2.elim
        | some ρ4 =>
          have et : lcTurn tg c e items[i] (wiped ρ2 own) = (c ρ4).bind fun k ρ => if k then (e ρ).bind fun v ρ => .ok (some v.d) ρ else .ok none ρ := by unfold lcTurn; simp only [ea]
          rw [et] at k2
          have own4 := asg_own tg _ _ _ ea
          refine ⟨F3, wiped ρ2 own, items[i], ρ4, R3, dx, ea, fun σ4 R4 B4 => ?_⟩
          have hw4 : L2.wipe σ4 own = L2.wipe σ own := by
            apply List.ext_getElem?
            intro j
            by_cases hj : j ∈ own
            · have wn : ∀ {σ : L2.St} {vs : List Nat}, j ∈ vs → (L2.wipe σ vs)[j]? = if j < σ.length then some none else none := fun {σ vs} => by
                induction vs with
                | nil => intro z; cases z
                | cons v vs ih =>
                  intro z
                  unfold L2.wipe
                  by_cases hv : v = j
                  · subst hv
                    by_cases hl : v < σ.length
                    · rw [List.getElem?_set_self (by rw [L2.wipe_length]; exact hl), if_pos hl]
                    · rw [List.getElem?_eq_none (by rw [List.length_set, L2.wipe_length]; omega), if_neg hl]
                  · rw [List.getElem?_set_ne hv]
                    exact ih ((List.mem_cons.mp z).resolve_left (Ne.symm hv))
              rw [wn hj, wn hj, B4.1, L2.wipe_length]
            · rw [wipe_get _ _ hj, B4.2 j (fun z => hj (ho j z))]
          refine ⟨hw4, ?_⟩
          have A4 : Acc X.K Z F3 H3 σ4 ρ4 D acc := A3.slots fun j hj => by
            obtain ⟨a, b⟩ := own4 j hj
            exact ⟨a, B4.2 j b⟩
          -- from the block's state back to the loop's
          have out_ : ∀ {F5 H5 : Hp} {ρ5 : Env} {acc' : List PyData}, Rel X.K T Z F5 H5 σ4 ρ5 → Stp F3 H3 σ4 ρ4 F5 H5 ρ5 → Acc X.K Z F5 H5 σ4 ρ5 D acc' →
              Rel X.K T Z F5 H5 (L2.wipe σ own) (wiped ρ5 own) ∧ (∀ b o, F1 b = some o → F5 b = some o) ∧ Stp F H σ ρ F5 H5 (restore ρ1 own ρ5) ∧ Acc X.K Z F5 H5 (L2.wipe σ own) (wiped ρ5 own) D acc' := by
            intro F5 H5 ρ5 acc' R5 S5 A5
            have own5 : ∀ j, isOwn ρ5 j → isOwn (wiped ρ2 own) j ∧ j ∉ own := fun j hj => by
              have h4 := (own4 j (S5.own j hj)).1
              exact ⟨h4, (in_own h4).2⟩
            have R5' := R5.wipe (vs := own) fun v hv ds z => (own5 v ⟨ds, .inr z⟩).2 hv
            rw [hw4] at R5'
            refine ⟨R5', fun b o z => S5.frz b o (S3.frz b o (up2 b o z)), ?_, A5.slots fun j hj => ?_⟩
            · have S3' : Stp F2 H2 σ (restore ρ1 own ρ2) F3 H3 (restore ρ1 own ρ2) := S3.conv (fun j hj => ⟨(back_own hw).2 hj, (wipe_get _ _ (in_own hj).2).symm⟩) fun j hj => hj
              have S5' : Stp F3 H3 σ (restore ρ1 own ρ2) F5 H5 (restore ρ1 own ρ5) := S5.conv (fun j hj => by
                obtain ⟨a, b⟩ := own4 j hj
                have n := (in_own a).2
                exact ⟨(back_own hw).2 a, by rw [B4.2 j b, wipe_get _ _ n]⟩) fun j hj => by
                  have h5 := (back_own hw).1 hj
                  exact (back_own hw).2 (own5 j (in_own h5).1).1
              exact S2.trans (R1.back up2 R2 hw) (S3'.trans (R1.back (fun b o z => S3.frz b o (up2 b o z)) R3 hw) S5')
            · obtain ⟨a, b⟩ := in_own hj
              exact ⟨a, by rw [← hw4, wipe_get _ _ b]⟩
          have raised : ∀ {x : Exn} {ρ5 : Env}, Fin X T fld Z Wb σ F H ρ (.er x (restore ρ1 own ρ5)) (fun r ρ' F' H' => ∀ v, Rv X.K Z H ρ F' H' σ ρ' v r → Q v H') → ∀ cl d F5 H5, Rel X.K T Z F5 H5 σ4 ρ5 → Stp F3 H3 σ4 ρ4 F5 H5 ρ5 → Xv X.K X.mg fld F5 H5 cl d x → Wb cl d σ H5 :=
            fun {x ρ5} k cl d F5 H5 R5 S5 xv => by
              obtain ⟨b1, b2, b3, _⟩ := out_ R5 S5 (A4.step R5 S5)
              exact k cl d F5 H5 (R1.back b2 b1 hw) b3 xv
          refine ⟨F3, ρ4, R4, ?_⟩
          cases ec : c ρ4 with
          | no => rw [ec] at k2; exact k2.elim
          | er x ρ5 => rw [ec] at k2; exact raised k2
          | ok kb ρ5 =>
            rw [ec] at k2
            intro F5 H5 R5 S5
            have A5 := A4.step R5 S5
            cases kb with
            | false =>
              obtain ⟨b1, b2, b3, b4⟩ := out_ R5 S5 A5
              exact ⟨F5, ρ5, acc, b1, b2, b3, b4, k2⟩
            | true =>
              refine ⟨F5, ρ5, R5, ?_⟩
              have k2 : Fin X T fld Z Wb σ F H ρ (lcFin ρ1 own (((e ρ5).bind fun v ρ => Out.ok (some v.d) ρ).bind fun o ρ => match o with
                | some v => if acc.length < SZ then lcLoop (lcTurn tg c e) own (items.drop (i + 1)) (acc ++ [v]) ρ else .no
                | none => lcLoop (lcTurn tg c e) own (items.drop (i + 1)) acc ρ)) _ := k2
              cases ee : e ρ5 with
              | no => rw [ee] at k2; exact k2.elim
              | er x ρ6 =>
                rw [ee] at k2
                exact fun cl d F6 H6 R6 S6 xv => raised k2 cl d F6 H6 R6 (S5.trans R5 S6) xv
              | ok r ρ6 =>
                rw [ee] at k2
                have k2 : Fin X T fld Z Wb σ F H ρ (lcFin ρ1 own (if acc.length < SZ then lcLoop (lcTurn tg c e) own (items.drop (i + 1)) (acc ++ [r.d]) ρ6 else .no)) _ := k2
                by_cases hz : acc.length < SZ
                · rw [if_pos hz] at k2
                  intro F6 H6 R6 S6 v rv
                  obtain ⟨F7, R7, S7, _, dv⟩ := freeze R6 S6 rv
                  have A7 := A5.step R7 S7
                  obtain ⟨b1, b2, b3, b4⟩ := out_ R7 (S5.trans R5 S7) A7
                  obtain ⟨vs, a1, a2, a3, a4, a5⟩ := b4
                  refine ⟨vs, a1, ?_, F7, ρ6, acc ++ [r.d], b1.grow a1 a3 a4 a5, b2, b3.grow hDH, ⟨vs ++ [v], upd_same, dps_app a2 (.cons dv .nil), a3, a4, a5⟩, k2⟩
                  rw [dps_len a2, ← SZ_line]
                  exact hz
                · rw [if_neg hz] at k2
                  exact k2.elim
      · have e : i = items.length := by omega
        subst e
        have ed : items.drop items.length = [] := List.drop_length
        rw [ed] at k2
        refine .inl ⟨wk.stop F2 H2 _ _ R2 up2, ?_⟩
        have k2 : Fin X T fld Z Wb σ F H ρ (Out.ok (VT.fr acc) (restore ρ1 own ρ2)) _ := k2
        have Rb := R1.back up2 R2 hw
        refine k2 F2 H2 Rb S2 _ ?_
        obtain ⟨vs, a1, a2, a3, a4, a5⟩ := A2
        refine ⟨D, vs, rfl, a1, a3, a2, a4, fun j hj => ?_, ?_⟩
        · have h5 := (back_own hw).1 hj
          rw [← wipe_get own j (in_own h5).2]
          exact a5 j h5
        · exact hDH
end
end Sw

end
section
set_option maxRecDepth 100000
set_option maxHeartbeats 1000000
namespace Sw
open PySem PySem.Spec PyProof.Rows
open L2 (V Hp HO upd upd_same upd_ne SqL SqT Rd VK XK WX Cx Inv RelV Vals PE PT PW PA PI PS PSs EP TP AP SP TE TT TA TS TI It Takes thn Gl Vis Loc Room OpR CallR TyX PG PGs TG TGs PTs Ends)
section
variable {X : Cx} {T : List (Addr × Str)} {fld : Fld} {Z : Gh} {W : WX} {σ σ' : L2.St} {F F' H H' : Hp} {ρ ρ' : Env} {K : PySem.W.Frag}
/-- .. that raise nothing -/
theorem noEr_fin {α : Type} {o : Out α} {k : α → Env → Hp → Hp → Prop} (h : Fin X T fld Z W σ F H ρ (noEr o) k) : Fin X T fld Z Wn σ F H ρ o k := by
  cases o with
  | ok a ρ1 => exact h
  | er x ρ1 => exact h.elim
  | no => exact h
theorem t_lcn {elt tg iter : Expr} {ifs : List Expr} {scope : Scope} {own : List (Str × Nat)} {pos : Pos} {it : Env → Out (List D)} {tgt : Tg} {c : Env → Out Bool} {e : Env → Out VT} (hc : X.calm = true) (hN : X.N.Nodup) (hi : PI X tg iter (tI X T fld Z it W)) (ok : L2.BlkOk X.N X.env.scope scope own)
    (ho : ∀ i ∈ tgIx tgt, i ∈ own.map (·.2))
    (hg : ∀ (s : Shared) (H : Hp) (C : Addr) (cl : List (Str × Addr)) (fp : List Addr), PG (X.blk s H scope (compEnvC scope cl C X.env) fp) tg (gT X.K T Z tgt)) (ht : ∀ (s : Shared) (H : Hp) (C : Addr) (cl : List (Str × Addr)) (fp : List Addr), PTs (X.blk s H scope (compEnvC scope cl C X.env) fp) ifs (tT X T fld Z c Wn))
    (he : ∀ (s : Shared) (H : Hp) (C : Addr) (cl : List (Str × Addr)) (fp : List Addr), PE (X.blk s H scope (compEnvC scope cl C X.env) fp) elt (tE X T fld Z e Wn)) (hs : ∀ x, foldedSetIterable iter X.env x = pure x) :
    PE X (.ListComp elt [⟨tg, iter, ifs, 0⟩] scope pos) (tE X T fld Z (fun ρ => (it ρ).bind fun items ρ => noEr (lcAll (own.map (·.2)) (lcTurn tgt c e) items ρ)) W) :=
  PE.imp (L2.pe_lc hc hN hi ok hg ht he hs) fun σ H Q ⟨F, ρ, R, q⟩ => lc_sem (Wb := Wn) ho ⟨F, ρ, R, Fin.mono (Fin.bind q) fun items ρ1 _ _ _ _ k => noEr_fin k⟩
/-- what is wanted behind a statement that began at the frozen heap F₀ -/
def FlFin (X : Cx) (T : List (Addr × Str)) (fld : Fld) (Z : Gh) (F₀ : Hp) (D : Ends) (W : WX) : Fl → Prop
  | .nx ρ => ∀ σ F H, Rel X.K T Z F H σ ρ → (∀ b o, F₀ b = some o → F b = some o) → D.nx σ H
  | .bk ρ => ∀ σ F H, Rel X.K T Z F H σ ρ → (∀ b o, F₀ b = some o → F b = some o) → D.bk σ H
  | .ct ρ => ∀ σ F H, Rel X.K T Z F H σ ρ → (∀ b o, F₀ b = some o → F b = some o) → D.ct σ H
  | .rt v ρ => ∀ σ F H H₀ ρ₀ x, Rel X.K T Z F H σ ρ → (∀ b o, F₀ b = some o → F b = some o) → Rv X.K Z H₀ ρ₀ F H σ ρ x v → D.rt x H
  | .er x ρ => ∀ c d σ F H, Rel X.K T Z F H σ ρ → Xv X.K X.mg fld F H c d x → W c d σ H
  | .no => False
def tS (X : Cx) (T : List (Addr × Str)) (fld : Fld) (Z : Gh) (f : Env → Fl) (W : WX) : TS := fun D σ H => ∃ F ρ, Rel X.K T Z F H σ ρ ∧ FlFin X T fld Z F D W (f ρ)
theorem FlFin.base {D : Ends} {fl : Fl} (up : ∀ b o, F b = some o → F' b = some o) (h : FlFin X T fld Z F D W fl) : FlFin X T fld Z F' D W fl := by
  cases fl with
  | nx ρ => exact fun σ F H R u => h σ F H R fun b o e => u b o (up b o e)
  | bk ρ => exact fun σ F H R u => h σ F H R fun b o e => u b o (up b o e)
  | ct ρ => exact fun σ F H R u => h σ F H R fun b o e => u b o (up b o e)
  | rt v ρ => exact fun σ F H H₀ ρ₀ x R u => h σ F H H₀ ρ₀ x R fun b o e => u b o (up b o e)
  | er x ρ => exact h
  | no => exact h
theorem FlFin.fl {α : Type} {D : Ends} {o : Out α} {g : α → Env → Fl} (h : FlFin X T fld Z F D W (o.fl g)) : Fin X T fld Z W σ F H ρ o fun a ρ1 F1 H1 => FlFin X T fld Z F1 D W (g a ρ1) := by
  cases o with
  | ok a ρ1 => exact fun F1 H1 R1 S1 => FlFin.base S1.frz h
  | er x ρ1 => exact fun c d F' H' R S xv => h c d σ F' H' R xv
  | no => exact h
theorem FlFin.nx? {D : Ends} {o : Option Env} (h : FlFin X T fld Z F D W (nx? o)) : ∃ ρ', o = some ρ' ∧ FlFin X T fld Z F D W (.nx ρ') := by
  cases o with
  | none => exact h.elim
  | some ρ' => exact ⟨ρ', rfl, h⟩
theorem s_nil : PSs X [] (tS X T fld Z (fun ρ => .nx ρ) W) := PSs.imp L2.pss_nil fun D σ H ⟨F, ρ, R, q⟩ => q σ F H R fun _ _ h => h
theorem s_cons {st : Stmt} {rest : List Stmt} {f g : Env → Fl} (h1 : PS X st (tS X T fld Z f W)) (h2 : PSs X rest (tS X T fld Z g W)) : PSs X (st :: rest) (tS X T fld Z (fun ρ => (f ρ).seq g) W) :=
  PSs.imp (L2.pss_cons h1 h2) fun D σ H ⟨F, ρ, R, q⟩ => ⟨F, ρ, R, by
    have q : FlFin X T fld Z F D W ((f ρ).seq g) := q
    cases e : f ρ with
    | nx ρ1 => rw [e] at q; exact fun σ1 F1 H1 R1 up => ⟨F1, ρ1, R1, FlFin.base up q⟩
    | bk ρ1 => rw [e] at q; exact q
    | ct ρ1 => rw [e] at q; exact q
    | rt v ρ1 => rw [e] at q; exact q
    | er x ρ1 => rw [e] at q; exact q
    | no => rw [e] at q; exact q⟩
theorem s_one {st : Stmt} {f : Env → Fl} (h1 : PS X st (tS X T fld Z f W)) : PSs X [st] (tS X T fld Z f W) := L2.pss_one h1
theorem s_pass {pos : Pos} : PS X (.Pass pos) (tS X T fld Z (fun ρ => .nx ρ) W) := PS.imp L2.ps_pass fun D σ H ⟨F, ρ, R, q⟩ => q σ F H R fun _ _ h => h
theorem s_doc {x j pos pos'} : PS X (.Expr (.Constant (.str x) j pos) pos') (tS X T fld Z (fun ρ => .nx ρ) W) := PS.imp L2.ps_doc fun D σ H ⟨F, ρ, R, q⟩ => q σ F H R fun _ _ h => h
theorem s_brk {pos : Pos} : PS X (.Break pos) (tS X T fld Z (fun ρ => .bk ρ) W) := PS.imp L2.ps_break fun D σ H ⟨F, ρ, R, q⟩ => q σ F H R fun _ _ h => h
theorem s_cnt {pos : Pos} : PS X (.Continue pos) (tS X T fld Z (fun ρ => .ct ρ) W) := PS.imp L2.ps_continue fun D σ H ⟨F, ρ, R, q⟩ => q σ F H R fun _ _ h => h
theorem s_retn {pos : Pos} : PS X (.Return none pos) (tS X T fld Z (fun ρ => .rt (.pl .none) ρ) W) := PS.imp L2.ps_retN fun D σ H ⟨F, ρ, R, q⟩ => q σ F H H ρ _ R (fun _ _ h => h) .non
theorem s_ret {e : Expr} {f : Env → Out VT} {pos : Pos} (he : PE X e (tE X T fld Z f W)) : PS X (.Return (some e) pos) (tS X T fld Z (fun ρ => (f ρ).fl fun v ρ => .rt v ρ) W) :=
  PS.imp (L2.ps_ret he) fun D σ H ⟨F, ρ, R, q⟩ => ⟨F, ρ, R, Fin.mono (FlFin.fl q) fun r ρ1 F1 H1 R1 S1 k v rv => k σ F1 H1 H ρ v R1 (fun _ _ h => h) rv⟩
theorem s_exp {e : Expr} {f : Env → Out VT} {pos : Pos} (he : PE X e (tE X T fld Z f W)) (hs : swapsWith e none pos.line X.env = pure false) : PS X (.Expr e pos) (tS X T fld Z (fun ρ => (f ρ).fl fun _ ρ => .nx ρ) W) :=
  PS.imp (L2.ps_expr he hs) fun D σ H ⟨F, ρ, R, q⟩ => ⟨F, ρ, R, Fin.mono (FlFin.fl q) fun r ρ1 F1 H1 R1 S1 k v rv => k σ F1 H1 R1 fun _ _ h => h⟩
theorem s_if {c : Expr} {a b : List Stmt} {h : Env → Out Bool} {f g : Env → Fl} {pos : Pos} (hc : PT X c (tT X T fld Z h W)) (ha : PSs X a (tS X T fld Z f W)) (hb : PSs X b (tS X T fld Z g W)) :
    PS X (.If c a b pos) (tS X T fld Z (fun ρ => (h ρ).fl fun k ρ => if k then f ρ else g ρ) W) :=
  PS.imp (L2.ps_if hc ha hb) fun D σ H ⟨F, ρ, R, q⟩ => ⟨F, ρ, R, Fin.mono (FlFin.fl q) fun b ρ1 F1 H1 R1 S1 k => by
    cases b with
    | true => exact ⟨F1, ρ1, R1, k⟩
    | false => exact ⟨F1, ρ1, R1, k⟩⟩
/-- a reading of stores of a value in a slot -/
theorem set_sem {f : Env → Out VT} {i : Nat} {D : Ends} (h : ∃ F ρ, Rel X.K T Z F H σ ρ ∧ FlFin X T fld Z F D W ((f ρ).fl fun v ρ => nx? (set1 i (.pl v.d) ρ))) :
    tE X T fld Z f W σ H fun x H1 => D.nx (σ.set i (some x)) H1 := by
  obtain ⟨F, ρ, R, q⟩ := h
  refine ⟨F, ρ, R, Fin.mono (FlFin.fl q) fun r ρ1 F1 H1 R1 S1 k v rv => ?_⟩
  obtain ⟨F2, R2, S2, up, d⟩ := freeze R1 S1 rv
  obtain ⟨ρ2, e2, k2⟩ := FlFin.nx? k
  obtain ⟨n, rfl, _⟩ := set1_io e2
  exact k2 _ F2 H1 (R2.set n d) up
theorem own_sem {f : Env → Out VT} {i : Nat} {D : Ends} (h : ∃ F ρ, Rel X.K T Z F H σ ρ ∧ FlFin X T fld Z F D W ((f ρ).fl fun v ρ => nx? (set1 i v.slot ρ))) :
    tE X T fld Z f W σ H fun x H1 => D.nx (σ.set i (some x)) H1 := by
  obtain ⟨F, ρ, R, q⟩ := h
  refine ⟨F, ρ, R, Fin.mono (FlFin.fl q) fun r ρ1 F1 H1 R1 S1 k v rv => ?_⟩
  obtain ⟨ρ2, e2, k2⟩ := FlFin.nx? k
  obtain ⟨n, rfl, _⟩ := set1_io e2
  refine k2 _ F1 H1 (R1.set n ?_) fun _ _ h => h
  cases r with
  | pl d => exact rv
  | fr ds =>
    obtain ⟨a, vs, e, h1, h2, h3, h4, h5, _⟩ := rv
    exact ⟨a, vs, e, h1, h2, h3, h4, h5⟩
theorem s_set {i : Nat} {x : Str} {e : Expr} {f : Env → Out VT} {pos pos' : Pos} (hN : X.N.Nodup) (hi : X.N[i]? = some x) (hx : Loc X.env.scope x) (he : PE X e (tE X T fld Z f W)) (hs : swapsWith e (some (.Name x pos')) pos.line X.env = pure false) (hf : X.fn x = true ∨ X.env.scope.names.lookup x = some .local) :
    PS X (.Assign [.Name x pos'] e pos) (tS X T fld Z (fun ρ => (f ρ).fl fun v ρ => nx? (set1 i (.pl v.d) ρ)) W) :=
  PS.imp (L2.ps_set hN hi hx he hs hf) fun D σ H h => set_sem h
theorem s_own {i : Nat} {x : Str} {e : Expr} {f : Env → Out VT} {pos pos' : Pos} (hN : X.N.Nodup) (hi : X.N[i]? = some x) (hx : Loc X.env.scope x) (he : PE X e (tE X T fld Z f W)) (hs : swapsWith e (some (.Name x pos')) pos.line X.env = pure false) (hf : X.fn x = true ∨ X.env.scope.names.lookup x = some .local) :
    PS X (.Assign [.Name x pos'] e pos) (tS X T fld Z (fun ρ => (f ρ).fl fun v ρ => nx? (set1 i v.slot ρ)) W) :=
  PS.imp (L2.ps_set hN hi hx he hs hf) fun D σ H h => own_sem h
theorem s_unp {tg e : Expr} {tgt : Tg} {f : Env → Out VT} {pos : Pos} (he : PE X e (tE X T fld Z f W)) (hg : PG X tg (gT X.K T Z tgt)) (hs : swapsWithSole [tg] e pos.line X.env = pure false) (hw : swappedStores [tg] e X.env = pure none)
    (h1 : (assignEach [tg] X.env).map (·.2) = [assign tg X.env]) : PS X (.Assign [tg] e pos) (tS X T fld Z (fun ρ => (f ρ).fl fun v ρ => nx? (asg tgt v.d ρ)) W) :=
  PS.imp (L2.ps_asg he hg hs hw h1) fun D σ H ⟨F, ρ, R, q⟩ => ⟨F, ρ, R, Fin.mono (FlFin.fl q) fun r ρ1 F1 H1 R1 S1 k v rv => by
    obtain ⟨F2, R2, S2, up, d⟩ := freeze R1 S1 rv
    obtain ⟨ρ2, e2, k2⟩ := FlFin.nx? k
    exact ⟨F2, ρ1, r.d, ρ2, R2, d, e2, fun σ2 R3 B3 => k2 σ2 F2 H1 R3 up⟩⟩
theorem asg_two {i j : Nat} {l : List D} {ρ ρ' : Env} (h : asg (.tp (.cs (.nm i) (.cs (.nm j) .nl))) (.tuple l) ρ = some ρ') : ∃ d e ρ1, l = [d, e] ∧ set1 i (.pl d) ρ = some ρ1 ∧ set1 j (.pl e) ρ1 = some ρ' := by
  match l, h with
  | [d, e], h =>
    have h : ((set1 i (.pl d) ρ).bind fun ρ => (set1 j (.pl e) ρ).bind fun ρ => some ρ) = some ρ' := h
    cases q : set1 i (.pl d) ρ with
    | none => rw [q] at h; cases h
    | some ρ1 =>
      rw [q] at h
      exact ⟨d, e, ρ1, rfl, q, by simpa using h⟩
  | [], h => cases h
  | [d], h =>
    have h : ((set1 i (.pl d) ρ).bind fun ρ => none) = some ρ' := h
    cases q : set1 i (.pl d) ρ with
    | none => rw [q] at h; cases h
    | some ρ1 => rw [q] at h; cases h
  | d :: e :: f :: r, h =>
    have h : ((set1 i (.pl d) ρ).bind fun ρ => (set1 j (.pl e) ρ).bind fun ρ => none) = some ρ' := h
    cases q : set1 i (.pl d) ρ with
    | none => rw [q] at h; cases h
    | some ρ1 =>
      rw [q] at h
      cases q2 : set1 j (.pl e) ρ1 with
      | none => simp [q2] at h
      | some ρ2 => simp [q2] at h
theorem s_par {i j : Nat} {x y : Str} {a b : Expr} {s : Env → Out (List Qv)} {px py pt pos : Pos} {kt k2 pt2} (hc : X.calm = true) (hN : X.N.Nodup) (hi : X.N[i]? = some x) (hj : X.N[j]? = some y) (hij : i ≠ j)
    (hx : X.env.scope.names.lookup x = some .local) (hy : X.env.scope.names.lookup y = some .local) (ha : PA X [a, b] (tAs X T fld Z s W))
    (hw : swappedStores [.Tuple [.Name x px, .Name y py] kt pt] (.Tuple [a, b] k2 pt2) X.env = pure (some [x, y])) :
    PS X (.Assign [.Tuple [.Name x px, .Name y py] kt pt] (.Tuple [a, b] k2 pt2) pos) (tS X T fld Z (fun ρ => ((s ρ).bind fun qs ρ => ret? ((dvals qs).bind tupD) ρ).fl fun v ρ => nx? (asg (.tp (.cs (.nm i) (.cs (.nm j) .nl))) v.d ρ)) W) :=
  PS.imp (L2.ps_par hc hN hi hj hij hx hy ha hw) fun D σ H ⟨F, ρ, R, q⟩ => ⟨F, ρ, R, Fin.mono (Fin.bind (FlFin.fl q)) fun qs ρ1 F1 H1 R1 S1 k vs hvs => by
    cases e1 : dvals qs with
    | none => simp only [e1, Option.bind_none, ret?] at k; exact k.elim
    | some l =>
      simp only [e1, Option.bind_some, tupD] at k
      split at k
      · have k := k F1 H1 R1 S1
        obtain ⟨ρ2, e2, k2⟩ := FlFin.nx? k
        obtain ⟨d, e, ρ3, rfl, e3, e4⟩ := asg_two e2
        have r := dvals_rps hvs e1
        cases r with
        | cons r1 r =>
          cases r with
          | cons r2 r =>
            cases r
            obtain ⟨n3, rfl, _⟩ := set1_io e3
            obtain ⟨n4, rfl, _⟩ := set1_io e4
            exact ⟨_, _, rfl, k2 _ F1 H1 ((R1.set n3 r1).set n4 r2) fun _ _ h => h⟩
      · exact k.elim⟩
theorem Rel.change (R : Rel K T Z F H σ ρ) {i : Nat} {g : List D → Option (List D)} (h : chg i g ρ = some ρ') :
    ∃ p vs ds es, σ[i]? = some (some (.ref p)) ∧ H p = some (.lst vs) ∧ Rps K F vs ds ∧ g ds = some es ∧ ∀ us, Rps K F us es → Rel K T Z F (upd H p (.lst us)) σ ρ' := by
  -- the list at p of slot i becomes us
  have go : ∀ {p : Addr} {ds es : List D} {s : Slot}, Own K F H σ i p ds → ρ' = ρ.set i s → (s = .ow es ∧ ρ[i]? = some (.ow ds) ∧ Nt Z.H p ∨ s = .io es ∧ ρ[i]? = some (.io ds) ∧ Z.A i = some p) → g ds = some es →
      ∃ p vs ds es, σ[i]? = some (some (.ref p)) ∧ H p = some (.lst vs) ∧ Rps K F vs ds ∧ g ds = some es ∧ ∀ us, Rps K F us es → Rel K T Z F (upd H p (.lst us)) σ ρ' := by
    intro p ds es s o er hs eg
    obtain ⟨vs, h1, r1⟩ := o.ob
    refine ⟨p, vs, ds, es, o.at_, h1, r1, eg, fun us ru => ?_⟩
    have hi : i < ρ.length := by
      rcases hs with ⟨_, e, _⟩ | ⟨_, e, _⟩ <;> exact (List.getElem?_eq_some_iff.mp e).1
    have oi : isOwn ρ i := by
      rcases hs with ⟨_, e, _⟩ | ⟨_, e, _⟩
      · exact ⟨ds, .inl e⟩
      · exact ⟨ds, .inr e⟩
    have ne : ∀ {j : Nat} {a : Addr}, isOwn ρ j → σ[j]? = some (some (.ref a)) → j ≠ i → a ≠ p := fun {j a} oj ej n z => n (R.ap j i p oj oi (by rw [← z]; exact ej) o.at_)
    have get : ∀ {j : Nat} {t : Slot}, ρ'[j]? = some t → (j = i ∧ t = s) ∨ (j ≠ i ∧ ρ[j]? = some t) := fun {j t} e => by
      rw [er] at e
      by_cases h : j = i
      · subst h
        rw [List.getElem?_set_self hi] at e
        cases e
        exact .inl ⟨rfl, rfl⟩
      · rw [List.getElem?_set_ne (Ne.symm h)] at e
        exact .inr ⟨h, e⟩
    have ownI : Own K F (upd H p (.lst us)) σ i p es := ⟨o.at_, o.nf, us, upd_same, ru⟩
    have ownJ : ∀ {j : Nat} {a : Addr} {ds : List D}, isOwn ρ j → j ≠ i → Own K F H σ j a ds → Own K F (upd H p (.lst us)) σ j a ds := fun {j a ds} oj n x => ⟨x.at_, x.nf, by
      obtain ⟨ws, e, r⟩ := x.ob
      exact ⟨ws, by rw [upd_ne (ne oj x.at_ n)]; exact e, r⟩⟩
    have isO : ∀ {j : Nat}, isOwn ρ' j → isOwn ρ j := fun {j} ⟨ds2, e⟩ => by
      rcases e with e | e
      · rcases get e with ⟨q, _⟩ | ⟨_, q⟩
        · rw [q]; exact oi
        · exact ⟨ds2, .inl q⟩
      · rcases get e with ⟨q, _⟩ | ⟨_, q⟩
        · rw [q]; exact oi
        · exact ⟨ds2, .inr q⟩
    refine ⟨fun b u e => ?_, R.ntb, tabs_upd R.tab (fun ps e => by rw [h1] at e; cases e) (fun ps e => by rw [h1] at e; cases e), fun b u e n t => ?_, R.old, R.new, by rw [er, List.length_set]; exact R.len, fun j d e => ?_, fun j ds2 e => ?_, fun j ds2 e => ?_, fun j a e => ?_, fun j k a hj hk => R.ap j k a (isO hj) (isO hk)⟩
    · rw [upd_ne fun z => by rw [z, o.nf] at e; cases e]
      exact R.sub b u e
    · by_cases hb : b = p
      · exfalso
        subst hb
        rcases hs with ⟨_, _, hz⟩ | ⟨_, _, hz⟩
        · obtain ⟨ps, q⟩ := hz _ e
          exact t ps q
        · exact n ⟨i, hz⟩
      · rw [upd_ne hb]
        exact R.keep b u e n t
    · rcases get e with ⟨q, q2⟩ | ⟨_, q⟩
      · rcases hs with ⟨z, _⟩ | ⟨z, _⟩ <;> rw [z] at q2 <;> cases q2
      · exact R.pl j d q
    · rcases get e with ⟨q, q2⟩ | ⟨n, q⟩
      · rcases hs with ⟨z, _, hz⟩ | ⟨z, _⟩
        · rw [z] at q2
          cases q2
          exact ⟨p, by rw [q]; exact ownI, hz⟩
        · rw [z] at q2; cases q2
      · obtain ⟨a, x, hz⟩ := R.ow j ds2 q
        exact ⟨a, ownJ ⟨ds2, .inl q⟩ n x, hz⟩
    · rcases get e with ⟨q, q2⟩ | ⟨n, q⟩
      · rcases hs with ⟨z, _⟩ | ⟨z, _, hz⟩
        · rw [z] at q2; cases q2
        · rw [z] at q2
          cases q2
          exact ⟨p, by rw [q]; exact ownI, by rw [q]; exact hz⟩
      · obtain ⟨a, x, hz⟩ := R.io j ds2 q
        exact ⟨a, ownJ ⟨ds2, .inr q⟩ n x, hz⟩
    · obtain ⟨ds2, q⟩ := R.mi j a e
      by_cases hj : j = i
      · rcases hs with ⟨_, z, _⟩ | ⟨z, _, _⟩
        · rw [hj, z] at q; cases q
        · exact ⟨es, by rw [er, hj, List.getElem?_set_self hi, z]⟩
      · exact ⟨ds2, by rw [er, List.getElem?_set_ne (Ne.symm hj)]; exact q⟩
  unfold chg at h
  cases e1 : ρ[i]? with
  | none => rw [e1] at h; cases h
  | some t =>
    rw [e1] at h
    cases t with
    | em => cases h
    | pl d => cases h
    | ow ds =>
      have h : (g ds).map (fun es => ρ.set i (.ow es)) = some ρ' := h
      cases e2 : g ds with
      | none => rw [e2] at h; cases h
      | some es =>
        rw [e2] at h
        cases h
        obtain ⟨a, o, hz⟩ := R.ow i ds e1
        exact go o rfl (.inl ⟨rfl, e1, hz⟩) e2
    | io ds =>
      have h : (g ds).map (fun es => ρ.set i (.io es)) = some ρ' := h
      cases e2 : g ds with
      | none => rw [e2] at h; cases h
      | some es =>
        rw [e2] at h
        cases h
        obtain ⟨a, o, hz⟩ := R.io i ds e1
        exact go o rfl (.inr ⟨rfl, e1, hz⟩) e2
end
end Sw

end
section
set_option maxRecDepth 100000
set_option maxHeartbeats 1000000
namespace Sw
open PySem PySem.Spec PyProof.Rows
open L2 (V Hp HO upd upd_same upd_ne SqL SqT Rd VK XK WX Cx Inv RelV Vals PE PT PW PA PI PS PSs EP TP AP SP TE TT TA TS TI It Takes thn Gl Vis Loc Room OpR CallR TyX PG PGs TG TGs PTs Ends)
section
variable {X : Cx} {T : List (Addr × Str)} {fld : Fld} {Z : Gh} {W : WX} {σ σ' : L2.St} {F F' H H' : Hp} {ρ ρ' : Env} {K : PySem.W.Frag}
theorem chg_own {i : Nat} {g : List D → Option (List D)} (h : chg i g ρ = some ρ') : isOwn ρ i := by
  unfold chg at h
  cases e1 : ρ[i]? with
  | none => rw [e1] at h; cases h
  | some t =>
    rw [e1] at h
    cases t with
    | em => cases h
    | pl d => cases h
    | ow ds => exact ⟨ds, .inl e1⟩
    | io ds => exact ⟨ds, .inr e1⟩
/-- the own list's place is the same all along an expression -/
theorem own_same {i : Nat} {p : Addr} (R : Rel K T Z F H σ ρ) (o : isOwn ρ i) (e : σ[i]? = some (some (.ref p))) : ∃ vs, H p = some (.lst vs) := by
  obtain ⟨a, ds, x⟩ := R.ownAt o
  obtain ⟨vs, h, _⟩ := x.ob
  have := x.at_
  rw [e] at this
  cases this
  exact ⟨vs, h⟩
theorem ownQ_is {i : Nat} (h : ownQ i ρ = true) : isOwn ρ i := by
  unfold ownQ at h
  cases e1 : ρ[i]? with
  | none => rw [e1] at h; cases h
  | some t =>
    rw [e1] at h
    cases t with
    | em => cases h
    | pl d => cases h
    | ow ds => exact ⟨ds, .inl e1⟩
    | io ds => exact ⟨ds, .inr e1⟩
theorem FlFin.ite {D : Ends} {b : Bool} {f : Fl} (h : FlFin X T fld Z F D W (if b then f else .no)) : b = true ∧ FlFin X T fld Z F D W f := by
  cases b with
  | true => exact ⟨rfl, h⟩
  | false => exact h.elim
theorem s_app {i : Nat} {o e : Expr} {f : Env → Out VT} {apos cpos pos : Pos} (ho : PE X o (L2.tVar i)) (he : PE X e (tE X T fld Z f W))
    (hbase : attributeBase o "append" X.env (eval o X.env) = eval o X.env)
    (hfew : ((backTo cpos (starEach [e] X.env)).all (fun x => !x.1) && (backToKw cpos (keywordEach [] X.env)).all (fun x => x.1.isSome)
      && decide ([e].length + ([] : List Keyword).length + (if ([] : List Keyword).isEmpty then 0 else 1) < 30)) = true)
    (hline : (apos.endLine == cpos.line) = true) (hs : starEach [e] X.env = (false, eval e X.env) :: starEach [] X.env) :
    PS X (.Expr (.Call (.Attribute o "append" apos) [e] [] cpos) pos) (tS X T fld Z (fun ρ => if ownQ i ρ then (f ρ).fl fun v ρ => nx? (chg i (appF v.d) ρ) else .no) W) := by
  refine PS.imp (L2.ps_expr (L2.pe_bm PySem.F.plainAttrs_list PySem.F.slot_list_append PySem.F.type_list_append L2.mt_append ho (L2.pa_cons he L2.pa_nil hs) hbase hfew hline hs rfl) rfl) fun D σ H ⟨F, ρ, R, q⟩ => ?_
  obtain ⟨ow, q⟩ := FlFin.ite q
  obtain ⟨p, ds0, o0⟩ := R.ownAt (ownQ_is ow)
  obtain ⟨vs0, h0, _⟩ := o0.ob
  refine ⟨_, o0.at_, .inl ⟨rfl, vs0, .inl (.inl h0)⟩, F, ρ, R, Fin.mono (FlFin.fl q) fun r ρ1 F1 H1 R1 S1 k v rv => ?_⟩
  obtain ⟨F2, R2, S2, up, d⟩ := freeze R1 S1 rv
  obtain ⟨ρ2, e2, k2⟩ := FlFin.nx? k
  obtain ⟨p2, vs, ds, es, e3, h3, r3, eg, k3⟩ := R2.change e2
  rw [o0.at_] at e3
  cases e3
  unfold appF at eg
  by_cases hz : ds.length < SZ
  · rw [if_pos hz] at eg
    cases eg
    refine ⟨p, vs, v, rfl, rfl, h3, by rw [dps_len r3, ← SZ_line]; exact hz, ?_⟩
    exact k2 σ F2 _ (k3 _ (dps_app r3 (.cons d .nil))) up
  · rw [if_neg hz] at eg
    cases eg
theorem s_sti {i : Nat} {o e ke : Expr} {f g : Env → Out VT} {spos pos : Pos} (ho : PE X o (L2.tVar i)) (he : PE X e (tE X T fld Z f W)) (hk : PE X ke (tE X T fld Z g W))
    (ha : ∀ v, assign (.Subscript o ke spos) X.env v = (do
      let ov ← holding [v] (eval o X.env)
      let iv ← holding [v, ov] (eval ke X.env)
      standAt spos
      holding [v, ov, iv] (setItem ov iv v)
      release [v, ov, iv] []))
    (hs : swapsWithSole [.Subscript o ke spos] e pos.line X.env = pure false) (hw : swappedStores [.Subscript o ke spos] e X.env = pure none) (h1 : (assignEach [.Subscript o ke spos] X.env).map (·.2) = [assign (.Subscript o ke spos) X.env]) :
    PS X (.Assign [.Subscript o ke spos] e pos) (tS X T fld Z (fun ρ => (f ρ).fl fun v ρ => if ownQ i ρ then (g ρ).fl fun j ρ => nx? (chg i (stiF j.d v.d) ρ) else .no) W) := by
  refine PS.imp (L2.ps_asg he (L2.pg_sub ho hk L2.set_list ha) hs hw h1) fun D σ H ⟨F, ρ, R, q⟩ => ⟨F, ρ, R, Fin.mono (FlFin.fl q) fun r ρ1 F1 H1 R1 S1 k v rv => ?_⟩
  obtain ⟨F2, R2, S2, up2, d⟩ := freeze R1 S1 rv
  obtain ⟨ow, k⟩ := FlFin.ite k
  obtain ⟨p, ds0, o0⟩ := R2.ownAt (ownQ_is ow)
  refine ⟨_, o0.at_, F2, ρ1, R2, Fin.mono (FlFin.fl (FlFin.base up2 k)) fun j ρ3 F3 H3 R3 S3 k3 v3 rv3 => ?_⟩
  obtain ⟨ρ4, e4, k4⟩ := FlFin.nx? k3
  obtain ⟨p2, vs, ds, es, e5, h5, r5, eg, k5⟩ := R3.change e4
  rw [o0.at_] at e5
  cases e5
  cases j with
  | fr l => cases eg
  | pl jd =>
    cases jd with
    | int j =>
      have rv3 : Rp X.K F3 v3 (.int j) := rv3
      cases rv3
      have eg : (ixN ds.length j).map (fun n => ds.set n r.d) = some es := eg
      cases e6 : ixN ds.length j with
      | none => rw [e6] at eg; cases eg
      | some n =>
        rw [e6] at eg
        cases eg
        exact ⟨p, vs, j, n, rfl, rfl, h5, by rw [ixN_eq, dps_len r5]; exact e6, k4 σ F3 _ (k5 _ (dps_set (dp_mono S3.frz d) n r5)) fun _ _ h => h⟩
    | _ => cases eg
theorem ip_aop (o : Bo) : ∀ (pins : List (Addr × Obj)) (s : Shared) (σ : L2.St) (H : Hp) (x y : V) (v u : Value) (Q : VK) (i j : Int) (r : D), Inv X pins σ H s → RelV x v → RelV y u → x = .int i → y = .int j → aop o (.int i) (.int j) = some r →
    (∀ w, Rp X.K (fun _ => none) w r → Q w H) → wpAny (model X.prog X.w) X.A (inplaceOp (opOf o) v u) (EP X pins σ Q) X.xe s := by
  intro pins s σ H x y v u Q i j r I r1 r2 e1 e2 er k
  subst e1 e2
  obtain ⟨t, rfl⟩ := r1
  obtain ⟨t', rfl⟩ := r2
  have fin : ∀ {z : Int}, r = .int z → EP X pins σ Q (.int z s.toks) { s with toks := s.toks + 1 } := fun {z} e => ⟨.int z, H, I.tok _, ⟨_, rfl⟩, k _ (by rw [e]; exact .int _)⟩
  cases o with
  | add => cases er; exact iadd_int (fin rfl)
  | sub => cases er; exact isub_int (fin rfl)
  | mul =>
    have er : (if mulOk i j then some (PyData.int (i * j)) else none) = some r := er
    by_cases h : mulOk i j = true
    · rw [if_pos h] at er; cases er; exact imul_int (fin rfl) (mulOk_c h).ok
    · rw [if_neg h] at er; cases er
  | fdiv =>
    have er : (if j ≠ 0 ∧ j.natAbs < 1073741824 then some (PyData.int (i.fdiv j)) else none) = some r := er
    by_cases h : j ≠ 0 ∧ j.natAbs < 1073741824
    · rw [if_pos h] at er; cases er
      exact ifloordiv_int h.1 (fin rfl) (.inl (PyProof.noPylong_small h.2))
    · rw [if_neg h] at er; cases er
  | mod =>
    have er : (if j ≠ 0 then some (PyData.int (i.fmod j)) else none) = some r := er
    by_cases h : j ≠ 0
    · rw [if_pos h] at er; cases er; exact imod_int h (fin rfl)
    · rw [if_neg h] at er; cases er
  | bor => cases er; exact ior_int (fin rfl)
  | _ => cases er
def ipA (o : Bo) : L2.TIp := fun x y H Q => ∃ i j r, x = .int i ∧ y = .int j ∧ aop o (.int i) (.int j) = some r ∧ ∀ w, Rp X.K (fun _ => none) w r → Q w H
theorem aop_int {o : Bo} {d e r : D} (h : aop o d e = some r) : ∃ i j, d = .int i ∧ e = .int j := by
  cases o <;> cases d <;> cases e <;> first | (cases h; done) | exact ⟨_, _, rfl, rfl⟩
theorem s_aug {i : Nat} {x : Str} {e : Expr} {f : Env → Out VT} {o : Bo} {pos pos' : Pos} (hN : X.N.Nodup) (hi : X.N[i]? = some x) (hx : Loc X.env.scope x) (he : PE X e (tE X T fld Z f W)) (hf : X.fn x = true ∨ X.env.scope.names.lookup x = some .local) :
    PS X (.AugAssign (.Name x pos') (opOf o) e pos) (tS X T fld Z (fun ρ => match ρ[i]? with
      | some (.pl d) => (f ρ).fl fun v ρ => nx? ((aop o d v.d).bind fun r => set1 i (.pl r) ρ)
      | _ => .no) W) := by
  refine PS.imp (L2.ps_aug (ti := ipA (X := X) o) hN hi hx he (fun pins s σ H x y v u Q I r1 r2 ⟨i, j, r, e1, e2, er, k⟩ => ip_aop o pins s σ H x y v u Q i j r I r1 r2 e1 e2 er k) hf) fun D σ H ⟨F, ρ, R, q⟩ => ?_
  cases e1 : ρ[i]? with
  | none => simp only [e1] at q; exact q.elim
  | some t =>
    cases t with
    | em => simp only [e1] at q; exact q.elim
    | ow ds => simp only [e1] at q; exact q.elim
    | io ds => simp only [e1] at q; exact q.elim
    | pl d =>
      simp only [e1] at q
      obtain ⟨v, ev, rv⟩ := R.pl i d e1
      refine ⟨v, ev, F, ρ, R, Fin.mono (FlFin.fl q) fun r ρ1 F1 H1 R1 S1 k w rw_ => ?_⟩
      obtain ⟨F2, R2, S2, up, dw⟩ := freeze R1 S1 rw_
      obtain ⟨ρ2, e2, k2⟩ := FlFin.nx? k
      cases e3 : aop o d r.d with
      | none => rw [e3] at e2; cases e2
      | some z =>
        rw [e3] at e2
        have e2 : set1 i (.pl z) ρ1 = some ρ2 := e2
        obtain ⟨a, b, rfl, e4⟩ := aop_int e3
        rw [e4] at e3 dw
        cases rv
        cases dw
        obtain ⟨n, rfl, _⟩ := set1_io e2
        exact ⟨a, b, z, rfl, rfl, e3, fun w hw => k2 _ F2 H1 (R2.set n (dp_mono (fun b o h => by cases h) hw)) up⟩
theorem s_for {iter tg : Expr} {body : List Stmt} {it : Env → Out (List D)} {tgt : Tg} {b : Env → Fl} {pos : Pos} (hp : PassesOwn (model X.prog X.w) X.A X.env X.xe) (hc : X.calm = true) (hi : PI X tg iter (tI X T fld Z it W)) (hg : PG X tg (gT X.K T Z tgt)) (hb : PSs X body (tS X T fld Z b W))
    (hs : ∀ x, foldedSetIterable iter X.env x = pure x) : PS X (.For tg iter body [] pos) (tS X T fld Z (fun ρ => (it ρ).fl fun items ρ => forLoop (forTurn tgt b) items ρ) W) := by
  refine PS.imp (L2.ps_for hp hc hi hg hb hs) fun D σ H ⟨F, ρ, R, q⟩ => ⟨F, ρ, R, Fin.mono (FlFin.fl q) fun items ρ1 F1 H1 R1 S1 k J wk => ?_⟩
  refine ⟨fun i m σ H => m = items.length - i ∧ i ≤ items.length ∧ ∃ F ρ, Rel X.K T Z F H σ ρ ∧ (∀ b o, F1 b = some o → F b = some o) ∧ FlFin X T fld Z F1 D W (forLoop (forTurn tgt b) (items.drop i) ρ), ⟨_, rfl, Nat.zero_le _, F1, ρ1, R1, fun _ _ h => h, k⟩, ?_⟩
  rintro i m σ2 H2 ⟨rfl, hi, F2, ρ2, R2, up2, k2⟩
  by_cases hlt : i < items.length
  · obtain ⟨go, yl⟩ := wk.go i F2 H2 σ2 ρ2 items[i] (List.getElem?_eq_getElem hlt) R2 up2
    rw [List.drop_eq_getElem_cons hlt] at k2
    refine .inr ⟨go, fun σ H => ∃ F ρ, Rel X.K T Z F H σ ρ ∧ (∀ b o, F1 b = some o → F b = some o) ∧ FlFin X T fld Z F1 D W (forLoop (forTurn tgt b) (items.drop (i + 1)) ρ), fun σ' H' n => ⟨_, by omega, rfl, hlt, n⟩, fun x H3 y => ?_⟩
    obtain ⟨F3, R3, S3, dx⟩ := yl x H3 y
    have k2 : FlFin X T fld Z F1 D W (match forTurn tgt b items[i] ρ2 with
      | .nx ρ => forLoop (forTurn tgt b) (items.drop (i + 1)) ρ
      | .ct ρ => forLoop (forTurn tgt b) (items.drop (i + 1)) ρ
      | .bk ρ => .nx ρ
      | o => o) := k2
    cases ea : asg tgt items[i] ρ2 with
    | none =>
      have : forTurn tgt b items[i] ρ2 = .no := by unfold forTurn; simp only [ea]
      rw [this] at k2
      exact k2.elim
    | some ρ3 =>
      have et : forTurn tgt b items[i] ρ2 = b ρ3 := by unfold forTurn; simp only [ea]
      rw [et] at k2
      refine ⟨F3, ρ2, items[i], ρ3, R3, dx, ea, fun σ3 R4 _ => ⟨F3, ρ3, R4, ?_⟩⟩
      have up3 : ∀ b o, F1 b = some o → F3 b = some o := fun b o h => S3.frz b o (up2 b o h)
      cases eb : b ρ3 with
      | nx ρ4 => rw [eb] at k2; exact fun σ5 F5 H5 R5 u => ⟨F5, ρ4, R5, fun b o h => u b o (up3 b o h), k2⟩
      | ct ρ4 => rw [eb] at k2; exact fun σ5 F5 H5 R5 u => ⟨F5, ρ4, R5, fun b o h => u b o (up3 b o h), k2⟩
      | bk ρ4 => rw [eb] at k2; exact fun σ5 F5 H5 R5 u => k2 σ5 F5 H5 R5 fun b o h => u b o (up3 b o h)
      | rt v ρ4 => rw [eb] at k2; exact fun σ5 F5 H5 H₀ ρ₀ x R5 u => k2 σ5 F5 H5 H₀ ρ₀ x R5 fun b o h => u b o (up3 b o h)
      | er x ρ4 => rw [eb] at k2; exact k2
      | no => rw [eb] at k2; exact k2.elim
  · have e : i = items.length := by omega
    subst e
    rw [List.drop_length] at k2
    exact .inl ⟨wk.stop F2 H2 σ2 ρ2 R2 up2, k2 σ2 F2 H2 R2 up2⟩
theorem s_whl {ce : Expr} {body : List Stmt} {c : Env → Out Bool} {b : Env → Fl} {pos : Pos} (hp : PassesOwn (model X.prog X.w) X.A X.env X.xe) (hc : PT X ce (tT X T fld Z c W)) (hb : PSs X body (tS X T fld Z b W)) :
    PS X (.While ce body [] pos) (tS X T fld Z (fun ρ => whlLoop c b FUEL ρ) W) := by
  refine PS.imp (L2.ps_while hp hc hb) fun D σ H ⟨F1, ρ1, R1, k⟩ => ?_
  refine ⟨fun m σ H => ∃ F ρ, Rel X.K T Z F H σ ρ ∧ FlFin X T fld Z F D W (whlLoop c b m ρ), ⟨FUEL, F1, ρ1, R1, k⟩, ?_⟩
  rintro m σ2 H2 ⟨F2, ρ2, R2, k2⟩
  cases m with
  | zero => exact k2.elim
  | succ n =>
    have k2 : FlFin X T fld Z F2 D W ((c ρ2).fl fun k ρ => if k then (match b ρ with
      | .nx ρ => whlLoop c b n ρ
      | .ct ρ => whlLoop c b n ρ
      | .bk ρ => .nx ρ
      | o => o) else .nx ρ) := k2
    refine ⟨F2, ρ2, R2, Fin.mono (FlFin.fl k2) fun kb ρ3 F3 H3 R3 S3 k3 => ?_⟩
    cases kb with
    | false => exact k3 σ2 F3 H3 R3 fun _ _ h => h
    | true =>
      have k3 : FlFin X T fld Z F3 D W (match b ρ3 with
        | .nx ρ => whlLoop c b n ρ
        | .ct ρ => whlLoop c b n ρ
        | .bk ρ => .nx ρ
        | o => o) := k3
      refine ⟨fun σ H => ∃ F ρ, Rel X.K T Z F H σ ρ ∧ FlFin X T fld Z F D W (whlLoop c b n ρ), fun σ' H' nn => ⟨n, Nat.lt_succ_self n, nn⟩, F3, ρ3, R3, ?_⟩
      cases eb : b ρ3 with
      | nx ρ4 => rw [eb] at k3; exact fun σ5 F5 H5 R5 u => ⟨F5, ρ4, R5, FlFin.base u k3⟩
      | ct ρ4 => rw [eb] at k3; exact fun σ5 F5 H5 R5 u => ⟨F5, ρ4, R5, FlFin.base u k3⟩
      | bk ρ4 => rw [eb] at k3; exact k3
      | rt v ρ4 => rw [eb] at k3; exact k3
      | er x ρ4 => rw [eb] at k3; exact k3
      | no => rw [eb] at k3; exact k3.elim
end
end Sw

end
section
set_option maxRecDepth 100000
set_option maxHeartbeats 2000000
namespace PySem
namespace SwX
open PySem.W PySem.Calls PyProof.Rows PySem.HandSPX
open Builtin Builtin.ObjectAttr
abbrev exT : List Value := [.type "Exception", .type "BaseException", .type "object"]
/-- own classes, then Exception's row -/
def toEx : List Value → Bool
  | .ref _ :: r => toEx r
  | l => l == exT
theorem toEx_split : ∀ l : List Value, toEx l = true → (∃ c r, l = .ref c :: r ∧ toEx r = true) ∨ l = exT
  | .ref c :: r, e => .inl ⟨c, r, rfl, e⟩
  | [], e => .inr (beq_iff_eq.mp e)
  | .bool _ :: _, e => .inr (beq_iff_eq.mp e)
  | .none :: _, e => .inr (beq_iff_eq.mp e)
  | .int _ _ :: _, e => .inr (beq_iff_eq.mp e)
  | .ellipsis :: _, e => .inr (beq_iff_eq.mp e)
  | .float _ _ :: _, e => .inr (beq_iff_eq.mp e)
  | .notImplemented :: _, e => .inr (beq_iff_eq.mp e)
  | .bytes _ _ :: _, e => .inr (beq_iff_eq.mp e)
  | .str _ _ :: _, e => .inr (beq_iff_eq.mp e)
  | .builtin _ :: _, e => .inr (beq_iff_eq.mp e)
  | .type _ :: _, e => .inr (beq_iff_eq.mp e)
theorem toEx_goes (me : Value) : ∀ l : List Value, toEx l = true → refuseLoop me "__setattr__" l = pure ()
  | [], e => absurd e (by decide)
  | a :: r, e => by
    rcases toEx_split (a :: r) e with ⟨c, r', q, h⟩ | q
    · obtain ⟨rfl, rfl⟩ := List.cons.inj q
      rw [refuseLoop_ref]
      exact toEx_goes me _ h
    · rw [q]
      exact F.store_Exception.passes me
theorem toEx_has (N : String) : ∀ l : List Value, toEx l = true → l.contains (.type N) = exT.contains (.type N)
  | [], e => absurd e (by decide)
  | a :: r, e => by
    rcases toEx_split (a :: r) e with ⟨c, r', q, h⟩ | q
    · obtain ⟨rfl, rfl⟩ := List.cons.inj q
      rw [List.contains_cons, toEx_has N _ h]
      rfl
    · rw [q]
theorem toEx_some {l : List Value} (e : toEx l = true) : l.isEmpty = false := by
  cases l with
  | nil => exact absurd e (by decide)
  | cons a r => rfl
section
variable {prog : Program} {w : World} {A : Around} {R : Result → Shared → Prop} {hp : Heap} {g : Array GenState} {d : Drawn} {t : Nat} {os : OsState}
/-- self.name = v on a fresh one -/
theorem ex_store {K : W.Frag} {nm : Str} {tok : Tok} {u : Value} {y C : Addr} {fs : Array Value} {cd : ClassData}
    (kin : K.In hp) (at_ : hp.get? y = some { cls := .ref C, data := .fields fs }) (hcd : W.clsIn K C = some cd) (row : toEx cd.mro = true) (dct : cd.hasDict = true) (free : W.findIn K (.ref C) nm = some none)
    (fin : ∀ h' tk' dx, (∀ b o, b ≠ y → hp.get? b = some o → h'.get? b = some o) → hp.objs.size ≤ dx → dx ≠ y → h'.get? y = some { cls := .ref C, dict := some dx, data := .fields fs } →
      h'.Ns1 dx (fun z => if z = nm then some u else none) → R (.ok (.ret .none)) ⟨h', g, d, tk', os⟩) :
    codeAny (model prog w) A (.call (.builtin "object.__setattr__") ⟨[.ref y, .str nm tok, u], []⟩) R ⟨hp, g, d, t, os⟩ := by
  have inst : W.InstAt hp y { cls := .ref C, data := .fields fs } C none := ⟨at_, rfl, rfl, trivial⟩
  have nonempty := toEx_some row
  have obj : cd.mro.contains (.type "object") = true := (toEx_has "object" _ row).trans (by decide +kernel)
  have fresh : y ≠ hp.objs.size := Nat.ne_of_lt (Heap.lt_size at_)
  have isobj : W.Looks (model prog w) hp (isInstance (.ref y) (.type "object")) true := inst.type.andThen (W.looks_mroIn kin (by unfold W.mroIn; rw [hcd, Option.bind_some, if_neg (by rw [nonempty]; decide), obj]))
  have ST := F.store_object
  refine codeAny_call_builtin ST.slot.plain ST.entry (@W.check_slot (model prog w) _ _ ⟨hp, g, d, t, os⟩ "object.__setattr__" "object" "__setattr__" (.ref y) [.str nm tok, u] [] _ ST.kind ST.split isobj (ST.args (.ref y) (.str nm tok) u) ?_)
  have chain : W.Looks (model prog w) hp (mroOf (.ref C)) cd.mro := (W.looks_clsIn kin hcd).andThen .now
  have taker : W.Looks (model prog w) hp (storeTaker? none) none := .now
  have clsd : W.Looks (model prog w) hp (classData C) cd := W.looks_clsIn kin hcd
  rw [W.osa_eq, refuse_eq]
  refine wpAny_bind (wpAny_bind (inst.type.at (wpAny_bind (chain.at ?_))))
  rw [toEx_goes _ _ row]
  refine wpAny_pure (wpAny_bind (inst.type.at (wpAny_bind ((W.looks_findIn kin free).at (wpAny_bind (taker.at ?_))))))
  show wpAny _ _ (storeInOwnDict (.ref y) (.ref C) (.str nm tok) nm u false) _ _ _
  obtain ⟨n1, n2, n3, n4, n5, hasD, n7, n8, n9, n10, n11⟩ := cd
  dsimp only at dct
  subst dct
  unfold storeInOwnDict ownDictForStores
  repeat (first | with_reducible refine store_in_new ?_ ?_ | with_reducible refine wpAny_loadPart_at at_ ?_ | with_reducible refine clsd.at ?_ | wp_step)
  · exact ⟨_, #[], _, (Heap.get?_update_ne _ _ _ _ fresh.symm).trans (Heap.get?_push_at rfl rfl), rfl, fun e he => absurd he (by simp), fun _ => rfl⟩
  · intro h' tk' ns' but
    have at2 : (hp.push { cls := .type "dict", data := .dict #[] }).get? y = some { cls := .ref C, data := .fields fs } := Heap.get?_push_of_some _ at_
    refine fin h' tk' hp.objs.size (fun b o hb ho => ?_) (Nat.le_refl _) fresh.symm ?_ ns'
    · exact (but.2 b (Nat.ne_of_lt (Heap.lt_size ho))).trans ((Heap.get?_update_ne _ _ _ _ hb).trans (Heap.get?_push_of_some _ ho))
    · exact (but.2 y fresh).trans (Heap.get?_update_self _ at2 rfl)
end
def iA (fl : Str) (p1 p2 : Pos) : Arguments := { posonlyargs := [], args := [{ arg := "self", annotation := none, pos := p1 }, { arg := fl, annotation := none, pos := p2 }], vararg := none, kwonlyargs := [], kw_defaults := [], kwarg := none, defaults := [] }
def iB (fl : Str) (q1 q2 q3 q4 : Pos) : List Stmt := [.Assign [.Attribute (.Name "self" q1) fl q2] (.Name fl q3) q4]
def iS (fl : Str) : Scope := { kind := .function, names := [(PySem.Str.ofString "self", .local), (fl, .local)], isGenerator := false, isCoroutine := false, more := [] }
/-- what the written part says of an error's class, at C, and of its __init__, at fI -/
structure ErrC (K : Frag) (mg : Str → Option Value) (nm fl : Str) (C fI : Addr) : Prop where
  gC : mg nm = some (.ref C)
  cls : ∃ n2 q N bs bm sn sub ab col dd k0 k1 k2 k3 k5, K.lookup C = some (excClassObj n2 q C N bs bm true sn sub ab col dd k0 k1 k2 k3 k5 "Exception.__new__") ∧ toEx bm = true
  sa : findIn K (.ref C) "__setattr__" = some (some (.builtin "object.__setattr__"))
  ga : findIn K (.ref C) "__getattribute__" = some (some (.builtin "BaseException.__getattribute__"))
  gg : findIn K (.ref C) "__getattr__" = some none
  noN : findIn K (.ref C) fl = some none
  iC : findIn K (.ref C) "__init__" = some (some (.ref fI))
  tC : typeIn K (.ref fI) = some (.type "function")
  kC : keepIn K (.ref C) = true
  exC : subIn K (.ref C) (.type "BaseException") = some true
  tyC : typeIn K (.ref C) = some (.type "type")
  hdC : hasDictIn K C = true
  nd : (nm == ("__debug__" : Str)) = false
  kn : fl = "at" ∨ fl = "name" ∨ fl = "day" ∨ fl = "pence" ∨ fl = "number"
  fn : ∃ (qn : Str) (oc : Value) (od : Option Addr) (doc pm : Value) (an : Option Addr) (cdv ct : Value) (osl : Array (Option Value)) (p1 p2 q1 q2 q3 q4 : Pos),
    K.lookup fI = some ⟨oc, od, .func (fnOf "__init__" qn (iA fl p1 p2) (iB fl q1 q2 q3 q4) (iS fl) .none .none doc pm an cdv ct), osl⟩ ∧ codeIn K cdv qn = true
theorem ldE {M : Model} {s : Shared} {name : Str} {scope : Scope} {L a : Addr} {cd : Value} {m : Str → Option Value} {x : Str} {pos : Pos} {v : Value} {Q : Value → Shared → Prop} {A : Around} {E : Value → Shared → Prop} (hn : s.heap.Ns L m) (hv : m x = some v) (h : Q v s)
    (hk : scope.kind = .function) (hl : (envOfC name scope L a cd).kindOf x = some .local) (hd : (x == ("__debug__" : Str)) = false) :
    wpAny M A (eval (.Name x pos) (envOfC name scope L a cd)) Q E s := wpAny_Name (wpAny_loadName_local hk hl hn hv h) hd
/-- what __init__ leaves of a fresh exception at x -/
structure InitE (fl : Str) (h h' : Heap) (x C dx t1 : Addr) (v : Value) : Prop where
  keep : ∀ b o, b ≠ x → h.get? b = some o → h'.get? b = some o
  obj : h'.get? x = some { cls := .ref C, dict := some dx, data := .fields #[.ref t1, .none, .none, .none, .bool false, .none] }
  dbig : h.objs.size ≤ dx
  dne : dx ≠ x
  ns : h'.Ns1 dx (fun y => if y = fl then some v else none)
/-- a made error -/
structure MadeE (fl : Str) (h h' : Heap) (e C d : Addr) (v : Value) : Prop where
  keep : ∀ b o, h.get? b = some o → h'.get? b = some o
  new : h.objs.size ≤ e
  obj : ∃ oe vs, h'.get? e = some oe ∧ oe.cls = .ref C ∧ oe.dict = some d ∧ oe.data = .fields vs ∧ vs[1]? = some .none
  dbig : h.objs.size ≤ d
  dne : d ≠ e
  ns : h'.Ns1 d (fun y => if y = fl then some v else none)
section
variable {prog : Program} {w : World} {A : Around} {E : Value → Shared → Prop} {R : Result → Shared → Prop} {s : Shared} {K : Frag} {mg : Str → Option Value} {nm fl : Str} {C fI : Addr}
theorem e_init (T : ErrC K mg nm fl C fI) {x t0 : Addr} {v : Value} (X : K.In s.heap) (hlim : s.heap.NoLimit) (hx : s.heap.get? x = some (excO C t0)) (hroom : A.depth < recursionLimit)
    (hq : ∀ h' tk dx, InitE fl s.heap h' x C dx t0 v → R (.ok (.ret .none)) { s with heap := h', toks := tk }) :
    codeAny (model prog w) A (.call (.ref fI) ⟨[.ref x, v], []⟩) R s := by
  obtain ⟨qn, oc, od, doc, pm, an, cdv, ct, osl, p1, p2, q1, q2, q3, q4, ho, hcd⟩ := T.fn
  obtain ⟨n2, q, N, bs, bm, sn, sub, ab, col, dd, k0, k1, k2, k3, k5, hC, hbm⟩ := T.cls
  have hcl : clsIn K C = some { name := n2, bases := bs, mro := .ref C :: bm, ns := N, qualname := q, hasDict := true, slotNames := sn, subclasses := sub, abstract := ab, collection := col, hasDel := false } := by unfold clsIn; rw [hC] <;> rfl
  have noN := T.noN
  have sa := T.sa
  have bnd : ∀ s : Shared, BindsTo s (fnOf "__init__" qn (iA fl p1 p2) (iB fl q1 q2 q3 q4) (iS fl) .none .none doc pm an cdv ct) ⟨[.ref x, v], []⟩ [("self", .ref x), (fl, v)] := fun s => by
    rcases T.kn with rfl | rfl | rfl | rfl | rfl <;> exact .of_eq (by first | rfl | with_unfolding_all rfl)
  have nod : (fl == ("__debug__" : Str)) = false := by
    rcases T.kn with rfl | rfl | rfl | rfl | rfl <;> decide
  have kl : (iS fl).names.lookup fl = some NameKind.local := by
    rcases T.kn with rfl | rfl | rfl | rfl | rfl <;> rfl
  refine Att.call_fn (binds := [("self", .ref x), (fl, v)]) X hlim ho hcd hroom (bnd s) ?_ (fun s₁ IC => ?_) rfl rfl rfl
  · rcases T.kn with rfl | rfl | rfl | rfl | rfl <;> first | rfl | decide | with_unfolding_all rfl
  obtain ⟨h₁, tk₁, rfl⟩ := IC.toInCall.same
  have k : ∀ b o, s.heap.get? b = some o → h₁.get? b = some o := IC.toInCall.keep
  have hn := IC.toInCall.ns
  have hxL : s.heap.objs.size ≠ x := Nat.ne_of_gt (Heap.lt_size hx)
  have X₁ : K.In h₁ := X.keeps k
  have hx₁ := k _ _ hx
  show wpAny _ _ (execs _ _) _ _ _
  refine wpAny_execs_cons (plainObj_wpAny_Assign_Attribute ?_)
  have m1 : (bindL (envOfC qn (iS fl) s.heap.objs.size fI cdv).kindOf [(Str.ofString "self", Value.ref x), (fl, v)] fun _ => none) fl = some v := by
    rcases T.kn with rfl | rfl | rfl | rfl | rfl <;> first | rfl | with_unfolding_all rfl | kernel_rfl
  have m2 : (bindL (envOfC qn (iS fl) s.heap.objs.size fI cdv).kindOf [(Str.ofString "self", Value.ref x), (fl, v)] fun _ => none) (Str.ofString "self") = some (Value.ref x) := by
    rcases T.kn with rfl | rfl | rfl | rfl | rfl <;> first | rfl | with_unfolding_all rfl | kernel_rfl
  refine ldE (v := v) hn m1 (ldE (v := .ref x) hn m2 ?_ rfl rfl (by decide)) rfl kl nod
  refine set_plain X₁ (ox := excO C t0) (od := none) ⟨hx₁, rfl, rfl, trivial⟩ sa ?_
  refine ex_store X₁ hx₁ hcl (show toEx (.ref C :: bm) = true from hbm) rfl noN (fun h₃ tk₃ dx k₃ dn dne hx₃ hn₃ => ?_)
  show wpAny _ _ (execs _ _) _ _ _
  have z : s.heap.objs.size < h₁.objs.size := hn.lt
  exact wpAny_execs_nil (hq h₃ tk₃ dx ⟨fun b o hb e => k₃ b o hb (k b o e), hx₃, Nat.le_of_lt (Nat.lt_of_lt_of_le z dn), dne, hn₃⟩)
theorem e_made (T : ErrC K mg nm fl C fI) {v : Value} (X : K.In s.heap) (hlim : s.heap.NoLimit) (hroom : A.depth + 1 < recursionLimit)
    (hq : ∀ h' tk e d, MadeE fl s.heap h' e C d v → R (.ok (.ret (.ref e))) { s with heap := h', toks := tk }) :
    codeAny (model prog w) A (.call (.ref C) ⟨[v], []⟩) R s := by
  obtain ⟨n2, q, N, bs, bm, sn, sub, ab, col, dd, k0, k1, k2, k3, k5, hC, hbm⟩ := T.cls
  obtain ⟨hp, g, dr, tk, os⟩ := s
  have k : ∀ b o, hp.get? b = some o → ((hp.push (kdv_tup [v])).push (excO C hp.objs.size)).get? b = some o := fun b o e => Heap.get?_push_of_some _ (Heap.get?_push_of_some _ e)
  have hget : ((hp.push (kdv_tup [v])).push (excO C hp.objs.size)).get? (hp.objs.size + 1) = some (excO C hp.objs.size) := by heap_get
  refine call_own F.excBase_Exception (fun N => toEx_has N bm hbm) (X _ _ hC) (looks_findIn X T.iC) (fun self => bind_fn X self T.tC) (by show 1 ≤ sizeLine; rw [sizeLine_eq]; decide) ?_
  refine e_init (s := ⟨(hp.push (kdv_tup [v])).push (excO C hp.objs.size), g, dr, tk, os⟩) T (X.keeps k) (hlim.keeps k) hget ?_ fun h' tk' dx ⟨k', hx, dn, dne, hns⟩ => ?_
  · show A.depth + 1 < recursionLimit
    exact hroom
  · have old : ∀ b o, hp.get? b = some o → h'.get? b = some o := fun b o e => k' b o (Nat.ne_of_lt (Nat.lt_succ_of_lt (Heap.lt_size e))) (k b o e)
    have z : hp.objs.size + 1 + 1 ≤ dx := by
      first
        | (simpa only [Heap.size_push] using dn)
        | exact dn
        | (have q := dn; rw [Heap.size_push, Heap.size_push] at q; exact q)
    exact ⟨rfl, hq h' tk' (hp.objs.size + 1) dx ⟨old, Nat.le_succ _, ⟨_, _, hx, rfl, rfl, rfl, rfl⟩, Nat.le_trans (Nat.le_trans (Nat.le_succ _) (Nat.le_succ _)) z, dne, hns⟩⟩
end
end SwX
end PySem

end
section
set_option maxRecDepth 100000
set_option maxHeartbeats 2000000
namespace Sw
open PySem PySem.Spec PyProof.Rows
open L2 (V Hp HO upd upd_same upd_ne SqL SqT Rd VK XK WX Cx Inv RelV RelO Vals PE PT PW PA PI PS PSs EP TP AP SP TE TT TA TS TI It Takes thn Gl Vis Loc Room OpR CallR TyX PG PGs TG TGs PTs Ends ObjOk PMk MkP restrict ld_glob raises_own ps_raise)
theorem relO_fl {v : V} {v' : Value} (fl : Str) (r : RelV v v') (f : Str) : RelO (List.lookup f [(fl, v)]) (if f = fl then some v' else none) := by
  by_cases hw : f = fl
  · subst hw
    rw [if_pos rfl]
    have q : List.lookup f [(f, v)] = some v := by simp [List.lookup]
    rw [q]
    exact r
  · rw [if_neg hw]
    have qw : (f == fl) = false := by simpa using hw
    have q2 : List.lookup f [(fl, v)] = none := by simp [List.lookup, qw]
    rw [q2]
    trivial
section
variable {X : Cx} {T : List (Addr × Str)} {fld : Fld} {Z : Gh} {W : WX} {σ σ' : L2.St} {F F' H H' : Hp} {ρ ρ' : Env} {K : PySem.W.Frag} {nm fl : Str} {C fI : Addr}
/-- nm(e) -/
def tMkE (C : Addr) (fl : Str) (ta : TA) : L2.St → Hp → XK → Prop := fun σ H Q => ta σ H fun vs H1 => ∃ v, vs = [v] ∧ ∀ d, H1 d = none → Q (.ref C) (some d) (upd H1 d (.xd [(fl, v)]))
theorem pmk_err {a : Expr} {ta : TA} {p pos : Pos} {k : Nat} (E : PySem.SwX.ErrC X.K X.mg nm fl C fI) (hr : Room k X.A) (ha : PA X [a] ta) (hg : Gl X nm)
    (he : starEach (a :: []) X.env = (false, eval a X.env) :: starEach [] X.env) :
    PMk X (.Call (.Name nm p) [a] [] pos) (tMkE C fl ta) := by
  intro pins s σ H Q I h
  refine wpAny_Call_Name_kw (ld_glob I hg E.gC ?_ E.nd)
  refine PySem.W.callWith_K (h₀ := X.base) I.ok.mod.kin E.kC (thn (ha.run pos pins s σ H _ I h) fun us s1 hh => ?_) he rfl
  obtain ⟨vs, H1, I1, r1, v, ev, q1⟩ := hh
  subst ev
  refine ⟨I1.kIn, ?_⟩
  cases r1 with
  | cons rv rn =>
    rename_i v' us'
    cases rn
    show wpAny _ _ (PySem.call (.ref C) [v']) _ _ _
    have hlim := I1.nolimit
    obtain ⟨hp, g, dr, tk, os⟩ := s1
    refine wpAny_call (PySem.SwX.e_made E I1.kIn hlim (by have := hr.dp; omega) fun h' tk' e d M => ?_)
    show MkP X pins σ Q (.ref e) ⟨h', g, dr, tk', os⟩
    obtain ⟨oe, fv, hoe, hc, hd, hdat, h1⟩ := M.obj
    have hns := M.ns
    obtain ⟨G', g1, g2⟩ := restrict h' fun b => decide (b ≠ e)
    have gk : ∀ b, b ≠ e → G'.get? b = h'.get? b := fun b hb => g1 b (decide_eq_true hb)
    have ge : G'.get? e = none := g2 e (by simp)
    have old : ∀ b o, hp.get? b = some o → G'.get? b = some o := fun b o q => (gk b (Nat.ne_of_lt (Nat.lt_of_lt_of_le (Heap.lt_size q) M.new))).trans (M.keep b o q)
    have ob : ObjOk X.prog X.w (upd H1 d (.xd [(fl, v)])) G' d (.xd [(fl, v)]) := ⟨_, hns.at (fun o q => (gk d M.dne).trans q), fun f => relO_fl fl rv f⟩
    have J : Inv X pins σ (upd H1 d (.xd [(fl, v)])) ⟨G', g, dr, tk', os⟩ := I1.laid (t' := tk') old M.dbig ob
    refine ⟨e, oe, fv, ⟨G', g, dr, tk', os⟩, _, .ref C, some d, rfl, J, fun b o q => ?_, ge, hoe, ⟨hc, hd⟩, hdat, h1, ?_, rfl, I1.bare, raises_own E.exC E.tyC, q1 d (I1.hok.fresh M.dbig)⟩
    · by_cases hb : b = e
      · have q' : G'.get? b = some o := q
        rw [hb, ge] at q'; cases q'
      · exact (gk b hb).symm.trans q
    · rw [upd_ne (Ne.symm M.dne)]
      exact I1.hok.fresh M.new
theorem s_rais {a : Expr} {f : Env → Out VT} {p pos pos2 : Pos} {k : Nat} (hc : X.calm = true) (E : PySem.SwX.ErrC X.K X.mg nm fl C fI) (hf : fld nm = some fl) (hr : Room k X.A) (tk : Takes X W) (ha : PE X a (tE X T fld Z f W)) (hg : Gl X nm)
    (he : starEach (a :: []) X.env = (false, eval a X.env) :: starEach [] X.env) :
    PS X (.Raise (some (.Call (.Name nm p) [a] [] pos)) none pos2) (tS X T fld Z (fun ρ => (f ρ).fl fun v ρ => .er ⟨nm, v.d⟩ ρ) W) :=
  PS.imp (ps_raise hc tk (pmk_err E hr (L2.pa_cons ha L2.pa_nil he) hg he)) fun D σ H ⟨F, ρ, R, q⟩ => ⟨F, ρ, R, Fin.mono (FlFin.fl q) fun r ρ1 F1 H1 R1 S1 k v rv => by
    obtain ⟨F2, R2, S2, up, d⟩ := freeze R1 S1 rv
    refine ⟨v, rfl, fun dd hd => ?_⟩
    exact k _ _ σ F2 _ (R2.alloc (o := .xd [(fl, v)]) hd) ⟨C, dd, fl, v, rfl, E.gC, hf, rfl, upd_same, d⟩⟩
end
end Sw

end
section
set_option maxRecDepth 100000
set_option maxHeartbeats 2000000
namespace Sw
open PySem PySem.Spec PyProof.Rows
open L2 (V Hp HO upd upd_same upd_ne SqL SqT Rd VK XK WX Cx Inv RelV Vals PE PT PW PA PI PS PSs EP TP AP SP TE TT TA TS TI It Takes thn Gl Vis Loc Room OpR CallR TyX PG PGs TG TGs PTs Ends Sp FnOk)
section
variable {X : Cx} {T : List (Addr × Str)} {fld : Fld} {Z : Gh} {W : WX} {σ σ' : L2.St} {F F' F2 H H' : Hp} {ρ ρ' : Env} {K : PySem.W.Frag} {mg : Str → Option Value}
inductive ArgsR (K : PySem.W.Frag) (F H : Hp) : List V → List Ar → Prop
  | nil : ArgsR K F H [] []
  | pl {v vs d as} : Rp K F v d → ArgsR K F H vs as → ArgsR K F H (v :: vs) (.pl d :: as)
  | io {a xs ds vs as} : H a = some (.lst xs) → F a = none → Rps K F xs ds → ArgsR K F H vs as → ArgsR K F H (.ref a :: vs) (.io ds :: as)
theorem ArgsR.len {vs : List V} {as : List Ar} (h : ArgsR K F H vs as) : vs.length = as.length := by
  induction h with
  | nil => rfl
  | pl _ _ ih => simp [ih]
  | io _ _ _ _ ih => simp [ih]
theorem ArgsR.plAt {vs : List V} {as : List Ar} (h : ArgsR K F H vs as) : ∀ {i : Nat} {d : D}, as[i]? = some (.pl d) → ∃ v, vs[i]? = some v ∧ Rp K F v d := by
  induction h with
  | nil => intro i d e; simp at e
  | pl r _ ih =>
    intro i d e
    cases i with
    | zero => simp at e; subst e; exact ⟨_, rfl, r⟩
    | succ i => simpa using ih (i := i) (d := d) (by simpa using e)
  | io _ _ _ _ ih =>
    intro i d e
    cases i with
    | zero => simp at e
    | succ i => simpa using ih (i := i) (d := d) (by simpa using e)
theorem ArgsR.ioAt {vs : List V} {as : List Ar} (h : ArgsR K F H vs as) : ∀ {i : Nat} {ds : List D}, as[i]? = some (.io ds) → ∃ a xs, vs[i]? = some (.ref a) ∧ H a = some (.lst xs) ∧ F a = none ∧ Rps K F xs ds := by
  induction h with
  | nil => intro i d e; simp at e
  | pl r _ ih =>
    intro i d e
    cases i with
    | zero => simp at e
    | succ i => simpa using ih (i := i) (ds := d) (by simpa using e)
  | io h1 h2 h3 _ ih =>
    intro i d e
    cases i with
    | zero => simp at e; subst e; exact ⟨_, _, rfl, h1, h2, h3⟩
    | succ i => simpa using ih (i := i) (ds := d) (by simpa using e)
/-- where the lists handed in and out stand -/
def ioAd (vs : List V) (as : List Ar) : Nat → Option Addr := fun i => match vs[i]?, as[i]? with
  | some (.ref a), some (.io _) => some a
  | _, _ => none
theorem ioAd_some {vs : List V} {as : List Ar} {i : Nat} {a : Addr} (h : ioAd vs as i = some a) : vs[i]? = some (.ref a) ∧ ∃ ds, as[i]? = some (.io ds) := by
  unfold ioAd at h
  split at h
  · cases h
    rename_i e1 e2
    exact ⟨e2, _, e1⟩
  · cases h
theorem ioAd_of {vs : List V} {as : List Ar} {i : Nat} {a : Addr} {ds : List D} (h1 : vs[i]? = some (.ref a)) (h2 : as[i]? = some (.io ds)) : ioAd vs as i = some a := by
  unfold ioAd
  rw [h1, h2]
structure EndR (K : PySem.W.Frag) (T : List (Addr × Str)) (F H F' H' : Hp) (A : Nat → Option Addr) (io : List Nat) (outs : List (List D)) : Prop where
  sub : ∀ b o, F' b = some o → H' b = some o
  ntb : ∀ b ps, F' b ≠ some (.tbl ps)
  tab : LamX.Tabs T H'
  keep : ∀ b o, H b = some o → (∀ i, A i ≠ some b) → (∀ ps, o ≠ .tbl ps) → H' b = some o
  old : ∀ b o, F b = some o → F' b = some o
  new : ∀ b o, F' b = some o → F b = some o ∨ Nt H b
  len : outs.length = io.length
  out : ∀ (k i : Nat) ds, io[k]? = some i → outs[k]? = some ds → ∃ a vs, A i = some a ∧ H' a = some (.lst vs) ∧ Rps K F' vs ds ∧ F' a = none
def RvE (K : PySem.W.Frag) (H F' H' : Hp) (x : V) : VT → Prop
  | .pl d => Rp K F' x d
  | .fr ds => ∃ a vs, x = .ref a ∧ H' a = some (.lst vs) ∧ F' a = none ∧ Rps K F' vs ds ∧ Nt H a
/-- what is wanted of a run's end -/
def RunR (K : PySem.W.Frag) (T : List (Addr × Str)) (mg : Str → Option Value) (fld : Fld) (io : List Nat) (F H : Hp) (A : Nat → Option Addr) (Q : VK) (E : XK) : Ret → Prop
  | .ok v outs => ∀ x F' H', EndR K T F H F' H' A io outs → RvE K H F' H' x v → Q x H'
  | .er ex outs => ∀ c d F' H', EndR K T F H F' H' A io outs → Xv K mg fld F' H' c d ex → E c d H'
  | .no => False
/-- the promise of a run -/
def spRun (K : PySem.W.Frag) (T : List (Addr × Str)) (mg : Str → Option Value) (fld : Fld) (io : List Nat) (n : Nat) (run : List Ar → Ret) : Sp := fun vs H Q E => ∃ (F : Hp) (as : List Ar),
  vs.length = n ∧ (∀ b o, F b = some o → H b = some o) ∧ (∀ b ps, F b ≠ some (.tbl ps)) ∧ LamX.Tabs T H ∧ ArgsR K F H vs as ∧
  (∀ i j a, ioAd vs as i = some a → ioAd vs as j = some a → i = j) ∧
  RunR K T mg fld io F H (ioAd vs as) Q E (run as)
theorem outs_get : ∀ {is : List Nat} {o : List (List D)}, outs ρ is = some o → o.length = is.length ∧ ∀ (k i : Nat) ds, is[k]? = some i → o[k]? = some ds → ρ[i]? = some (.io ds)
  | [], o, h => by
    cases h
    exact ⟨rfl, fun k i ds e => by simp at e⟩
  | i :: is, o, h => by
    unfold outs at h
    cases e1 : ρ[i]? with
    | none => rw [e1] at h; cases h
    | some s =>
      cases s with
      | io ds =>
        cases e2 : outs ρ is with
        | none => rw [e1, e2] at h; cases h
        | some r =>
          rw [e1, e2] at h
          cases h
          obtain ⟨l, g⟩ := outs_get e2
          refine ⟨congrArg Nat.succ l, fun k j es h1 h2 => ?_⟩
          cases k with
          | zero => simp at h1 h2; subst h1 h2; exact e1
          | succ k => exact g k j es (by simpa using h1) (by simpa using h2)
      | em => rw [e1] at h; simp at h
      | pl d => rw [e1] at h; simp at h
      | ow d => rw [e1] at h; simp at h
/-- at a def's entry -/
theorem rel_start {vs : List V} {as : List Ar} {N : List Str} (hs : ∀ b o, F b = some o → H b = some o) (hn : ∀ b ps, F b ≠ some (.tbl ps)) (ht : LamX.Tabs T H) (ha : ArgsR K F H vs as)
    (hd : ∀ i j a, ioAd vs as i = some a → ioAd vs as j = some a → i = j) : Rel K T ⟨F, H, ioAd vs as⟩ F H (L2.start N vs) (as.map Ar.slot ++ List.replicate (N.length - as.length) .em) := by
  have hl := ha.len
  have get : ∀ {i : Nat} {s : Slot}, (as.map Ar.slot ++ List.replicate (N.length - as.length) Slot.em)[i]? = some s → s = .em ∨ ∃ a, as[i]? = some a ∧ s = a.slot := fun {i s} e => by
    by_cases h : i < as.length
    · rw [List.getElem?_append_left (by simpa using h), List.getElem?_map] at e
      cases q : as[i]? with
      | none => rw [q] at e; cases e
      | some a => rw [q] at e; cases e; exact .inr ⟨a, rfl, rfl⟩
    · rw [List.getElem?_append_right (by simpa using h), List.getElem?_replicate] at e
      split at e
      · cases e; exact .inl rfl
      · cases e
  have put : ∀ {i : Nat} {a : Ar}, as[i]? = some a → (as.map Ar.slot ++ List.replicate (N.length - as.length) Slot.em)[i]? = some a.slot := fun {i a} e => by
    have h := (List.getElem?_eq_some_iff.mp e).1
    rw [List.getElem?_append_left (by simpa using h), List.getElem?_map, e]
    rfl
  have st : ∀ {i : Nat} {v : V}, vs[i]? = some v → (L2.start N vs)[i]? = some (some v) := fun {i v} e => by
    have h := (List.getElem?_eq_some_iff.mp e).1
    unfold L2.start
    rw [List.getElem?_append_left (by simpa using h), List.getElem?_map, e]
    rfl
  have ioo : ∀ {i : Nat} {ds : List D}, (as.map Ar.slot ++ List.replicate (N.length - as.length) Slot.em)[i]? = some (.io ds) → as[i]? = some (.io ds) := fun {i ds} e => by
    rcases get e with q | ⟨a, e1, e2⟩
    · cases q
    · cases a with
      | pl d => cases e2
      | io es => cases e2; exact e1
  have noow : ∀ {i : Nat} {ds : List D}, (as.map Ar.slot ++ List.replicate (N.length - as.length) Slot.em)[i]? ≠ some (.ow ds) := fun {i ds} e => by
    rcases get e with q | ⟨a, e1, e2⟩
    · cases q
    · cases a <;> cases e2
  refine ⟨hs, hn, ht, fun b o e _ _ => e, fun _ _ h => h, fun b o h => .inl h, ?_, fun i d e => ?_, fun i ds e => absurd e noow, fun i ds e => ?_, fun i a e => ?_, fun i j a hi hj ei ej => ?_⟩
  · unfold L2.start
    simp only [List.length_append, List.length_map, List.length_replicate]
    omega
  · rcases get e with q | ⟨a, e1, e2⟩
    · cases q
    · cases a with
      | pl d' =>
        cases e2
        obtain ⟨v, h1, h2⟩ := ha.plAt e1
        exact ⟨v, st h1, h2⟩
      | io es => cases e2
  · obtain ⟨a, xs, h1, h2, h3, h4⟩ := ha.ioAt (ioo e)
    exact ⟨a, ⟨st h1, h3, xs, h2, h4⟩, ioAd_of h1 (ioo e)⟩
  · obtain ⟨h1, ds, h2⟩ := ioAd_some e
    exact ⟨ds, put h2⟩
  · have own : ∀ {i : Nat}, isOwn (as.map Ar.slot ++ List.replicate (N.length - as.length) Slot.em) i → (L2.start N vs)[i]? = some (some (.ref a)) → ioAd vs as i = some a := fun {i} ⟨ds, e⟩ ei => by
      rcases e with e | e
      · exact absurd e noow
      · obtain ⟨b, xs, h1, h2, h3, h4⟩ := ha.ioAt (ioo e)
        have := st h1
        rw [ei] at this
        cases this
        exact ioAd_of h1 (ioo e)
    exact hd i j a (own hi ei) (own hj ej)
/-- at a def's end -/
theorem end_of {F H : Hp} {A : Nat → Option Addr} {io : List Nat} {o : List (List D)} (R : Rel K T ⟨F, H, A⟩ F' H' σ ρ) (h : outs ρ io = some o) : EndR K T F H F' H' A io o := by
  obtain ⟨l, g⟩ := outs_get h
  refine ⟨R.sub, R.ntb, R.tab, fun b u e n => R.keep b u e fun ⟨i, hi⟩ => n i hi, R.old, R.new, l, fun k i ds e1 e2 => ?_⟩
  obtain ⟨a, w, z⟩ := R.io i ds (g k i ds e1 e2)
  obtain ⟨vs, h1, h2⟩ := w.ob
  exact ⟨a, vs, z, h1, h2, w.nf⟩
end
section
variable {P : Program} {w : World} {T : List (Addr × Str)} {fld : Fld} {K : PySem.W.Frag} {mg : Str → Option Value} {base : Heap}
/-- a def by its body's run -/
theorem fn_run {x qual : Str} {st : Stmt} {f : Addr} {fd : FuncData} {df : Df} {k : Nat} {cl : Nat → List Ar → Ret} (Fu : L2.Fun K x qual st f fd) (S : L2.FnScope df.N df.ps (L2.defScope st))
    (hb : ∀ (X : Cx) (Z : Gh) (W : WX), (∃ (cdv : Value) (A : Around) (outer : List PySem.Env) (s : Shared) (H : Hp) (E : XK), X = L2.cxOf (L2.CX P w) P w K mg base df.N qual (L2.defScope st) f cdv A outer s H E) → Takes X W → PassesOwn (model P w) X.A X.env X.xe → Room k X.A →
      PSs X (L2.defBody st) (tS X T fld Z (ex cl df.body) W)) :
    FnOk P w K mg base (L2.CX P w) (k + 1) f fd df.ps (spRun K T mg fld df.io df.ps.length (runDef df cl)) := by
  obtain ⟨oc, od, kV, doc, pm, an, cdv, ct, osl, rfl, lk, hcd⟩ := Fu.ex
  refine L2.fn_of lk hcd S (fun vs H Q E h => ?_) fun A outer s H vs Q E hr hsp => ?_
  · obtain ⟨F, as, hl, _⟩ := h
    exact hl
  · obtain ⟨F, as, hl, h1, h2, h3, ha, hd, h⟩ := hsp
    refine ⟨_, hb _ ⟨F, H, ioAd vs as⟩ (fun c d _ H => E c d H) ⟨cdv, A, outer, s, H, E, rfl⟩ (L2.takes_of rfl rfl rfl rfl) (L2.passes_of rfl) hr, F, _, rel_start h1 h2 h3 ha hd, ?_⟩
    unfold runDef at h
    by_cases hc : as.length = df.ps.length ∧ df.io = ioPos 0 as
    · rw [if_pos hc] at h
      generalize ex cl df.body (as.map Ar.slot ++ List.replicate (df.N.length - as.length) .em) = fl at h ⊢
      cases fl with
      | nx ρ =>
        cases e : outs ρ df.io with
        | none => simp only [Fl.done, e] at h; exact h.elim
        | some o =>
          simp only [Fl.done, e] at h
          exact fun σ F' H' R up => h _ F' H' (end_of R e) .non
      | rt v ρ =>
        cases e : outs ρ df.io with
        | none => simp only [Fl.done, e] at h; exact h.elim
        | some o =>
          simp only [Fl.done, e] at h
          refine fun σ F' H' H₀ ρ₀ y R up rv => h y F' H' (end_of R e) ?_
          cases v with
          | pl d => exact rv
          | fr ds =>
            obtain ⟨a, us, q1, q2, q3, q4, q5, _⟩ := rv
            exact ⟨a, us, q1, q2, q3, q4, q5⟩
      | er y ρ =>
        cases e : outs ρ df.io with
        | none => simp only [Fl.done, e] at h; exact h.elim
        | some o =>
          simp only [Fl.done, e] at h
          exact fun c d σ F' H' R xv => h c d F' H' (end_of R e) xv
      | bk ρ => exact h.elim
      | ct ρ => exact h.elim
      | no => exact h.elim
    · rw [if_neg hc] at h
      exact h.elim
end
end Sw

end
section
set_option maxRecDepth 100000
set_option maxHeartbeats 2000000
namespace Sw
open PySem PySem.Spec PyProof.Rows
open L2 (V Hp HO upd upd_same upd_ne SqL SqT Rd VK XK WX Cx Inv RelV Vals PE PT PW PA PI PS PSs EP TP AP SP TE TT TA TS TI It Takes thn Gl Vis Loc Room OpR CallR TyX PG PGs TG TGs PTs Ends Sp FnOk)
section
variable {X : Cx} {T : List (Addr × Str)} {fld : Fld} {Z : Gh} {W : WX} {σ σ' : L2.St} {F F' F2 H H' : Hp} {ρ ρ' : Env} {K : PySem.W.Frag} {mg : Str → Option Value}
/-- data without lists, where only lists were let go -/
def Kept (F F2 : Hp) : Prop := ∀ b o, F b = some o → F2 b = some o ∨ ∃ xs, F b = some (.lst xs)
theorem sqt_kept (k : Kept F F2) {a : Addr} {xs : List V} (h : SqT K F a xs) : SqT K F2 a xs := by
  rcases h with (h | ⟨o, h⟩) | h
  · rcases k _ _ h with q | ⟨ys, q⟩
    · exact .inl (.inl q)
    · rw [h] at q; cases q
  · rcases k _ _ h with q | ⟨ys, q⟩
    · exact .inl (.inr ⟨o, q⟩)
    · rw [h] at q; cases q
  · exact .inr h
mutual
theorem rp_kept (k : Kept F F2) : ∀ {v : V} {d : D}, Rp K F v d → noList d = true → Rp K F2 v d
  | _, _, .non, _ => .non
  | _, _, .bl b, _ => .bl b
  | _, _, .int i, _ => .int i
  | _, _, .str x, _ => .str x
  | _, _, .lst s a, h => by simp [noList] at h
  | _, _, .tup s a, h => .tup (sqt_kept k s) (rps_kept k a (by simpa [noList] using h))
theorem rps_kept (k : Kept F F2) : ∀ {vs : List V} {ds : List D}, Rps K F vs ds → noLists ds = true → Rps K F2 vs ds
  | _, _, .nil, _ => .nil
  | _, _, .cons a b, h => by
    have h2 := Bool.and_eq_true_iff.mp (by simpa [noLists] using h)
    exact .cons (rp_kept k a h2.1) (rps_kept k b h2.2)
end
/-- the own lists that are lent -/
def Lent (ρ : Env) (σ : L2.St) (bs : List Nat) (b : Addr) : Prop := ∃ i ∈ bs, isOwn ρ i ∧ σ[i]? = some (some (.ref b))
open Classical in
noncomputable def frz (F H : Hp) (p : Addr → Prop) : Hp := fun b => if p b then H b else F b
open Classical in
noncomputable def unfrz (F : Hp) (p : Addr → Prop) : Hp := fun b => if p b then none else F b
theorem Rel.lentAt (R : Rel K T Z F H σ ρ) {bs : List Nat} {b : Addr} (h : Lent ρ σ bs b) : ∃ i ds vs, i ∈ bs ∧ Own K F H σ i b ds ∧ H b = some (.lst vs) ∧ F b = none := by
  obtain ⟨i, hi, o, e⟩ := h
  obtain ⟨a, ds, x⟩ := R.ownAt o
  obtain ⟨vs, h1, _⟩ := x.ob
  have := x.at_
  rw [e] at this
  cases this
  exact ⟨i, ds, vs, hi, x, h1, x.nf⟩
theorem frz_up (R : Rel K T Z F H σ ρ) {bs : List Nat} : ∀ b o, F b = some o → frz F H (Lent ρ σ bs) b = some o := fun b o h => by
  unfold frz
  rw [if_neg fun l => by
    obtain ⟨_, _, _, _, _, _, n⟩ := R.lentAt l
    rw [n] at h; cases h]
  exact h
/-- the arguments as the callee sees them -/
theorem args_of (R : Rel X.K T Z F H σ ρ) {all : List Nat} {ios : List Nat} (hdj : ∀ i ∈ all, i ∉ ios) : ∀ {vs : List V} {qs : List Qv} {as : List Ar}, Qrs X F σ vs qs → argsOf ρ qs = some as → (∀ i ∈ borIx qs, i ∈ all) → (∀ i ∈ ioIx qs, i ∈ ios) →
    ArgsR X.K (frz F H (Lent ρ σ all)) H vs as
  | _, [], _, .nil, e, _, _ => by
    cases e
    exact .nil
  | u :: ur, q :: qs, as, .cons a b, e, hb, hi => by
    unfold argsOf at e
    cases e1 : argOf ρ q with
    | none => rw [e1] at e; cases e
    | some x =>
      cases e2 : argsOf ρ qs with
      | none => rw [e1, e2] at e; cases e
      | some l =>
        rw [e1, e2] at e
        cases e
        have up := frz_up R (bs := all)
        cases q with
        | d d =>
          cases e1
          exact .pl (dp_mono up a) (args_of R hdj b e2 hb hi)
        | b i =>
          have rest := args_of R hdj b e2 (fun j hj => hb j (List.mem_cons_of_mem _ hj)) hi
          have e1 : (rsv ρ (.b i)).map Ar.pl = some x := e1
          cases e3 : rsv ρ (.b i) with
          | none => rw [e3] at e1; cases e1
          | some d =>
            rw [e3] at e1
            cases e1
            refine .pl ?_ rest
            have a : σ[i]? = some (some u) := a
            have own : ∀ {ds : List D}, (ρ[i]? = some (Slot.ow ds) ∨ ρ[i]? = some (.io ds)) → d = .list ds → Rp X.K (frz F H (Lent ρ σ all)) u d := fun {ds} ho hd => by
              have oi : isOwn ρ i := ⟨ds, ho⟩
              have : ∃ p, Own X.K F H σ i p ds := by
                rcases ho with h | h
                · obtain ⟨p, o, _⟩ := R.ow i ds h; exact ⟨p, o⟩
                · obtain ⟨p, o, _⟩ := R.io i ds h; exact ⟨p, o⟩
              obtain ⟨p, o⟩ := this
              obtain ⟨us, h1, h2⟩ := o.ob
              have e4 := o.at_
              rw [a] at e4
              cases e4
              rw [hd]
              refine .lst (.inl (.inl ?_)) (dps_mono up h2)
              unfold frz
              rw [if_pos ⟨i, hb i List.mem_cons_self, oi, o.at_⟩]
              exact h1
            cases q : ρ[i]? with
            | none => simp [rsv, q] at e3
            | some s =>
              cases s with
              | em => simp [rsv, q] at e3
              | pl d' =>
                simp [rsv, q] at e3
                subst e3
                obtain ⟨u2, f1, f2⟩ := R.pl i _ q
                rw [a] at f1
                cases f1
                exact dp_mono up f2
              | ow ds =>
                simp [rsv, q] at e3
                exact own (.inl q) e3.symm
              | io ds =>
                simp [rsv, q] at e3
                exact own (.inr q) e3.symm
        | io i =>
          have rest := args_of R hdj b e2 hb (fun j hj => hi j (List.mem_cons_of_mem _ hj))
          have a : σ[i]? = some (some u) := a
          have go : ∀ {ds : List D}, (ρ[i]? = some (Slot.ow ds) ∨ ρ[i]? = some (.io ds)) → x = .io ds → ArgsR X.K (frz F H (Lent ρ σ all)) H (u :: ur) (x :: l) := fun {ds} ho hx => by
            have oi : isOwn ρ i := ⟨ds, ho⟩
            have : ∃ p, Own X.K F H σ i p ds := by
              rcases ho with h | h
              · obtain ⟨p, o, _⟩ := R.ow i ds h; exact ⟨p, o⟩
              · obtain ⟨p, o, _⟩ := R.io i ds h; exact ⟨p, o⟩
            obtain ⟨p, o⟩ := this
            obtain ⟨us, h1, h2⟩ := o.ob
            have e4 := o.at_
            rw [a] at e4
            cases e4
            rw [hx]
            refine .io h1 ?_ (dps_mono up h2) rest
            unfold frz
            rw [if_neg fun ⟨j, hj, oj, ej⟩ => hdj j hj (by rw [R.ap j i p oj oi ej o.at_]; exact hi i List.mem_cons_self)]
            exact o.nf
          cases q : ρ[i]? with
          | none => simp [argOf, q] at e1
          | some s =>
            cases s with
            | em => simp [argOf, q] at e1
            | pl d' => simp [argOf, q] at e1
            | ow ds => simp [argOf, q] at e1; exact go (.inl q) e1.symm
            | io ds => simp [argOf, q] at e1; exact go (.inr q) e1.symm
theorem io_pos : ∀ {qs : List Qv} {as : List Ar} {vs : List V} (m : Nat), Qrs X F σ vs qs → argsOf ρ qs = some as → ∀ (k s : Nat), (ioIx qs)[k]? = some s → ∃ (j : Nat) (v : V) (ds : List D), (ioPos m as)[k]? = some (m + j) ∧ vs[j]? = some v ∧ as[j]? = some (Ar.io ds) ∧ σ[s]? = some (some v)
  | [], as, _, m, .nil, e, k, s, h => by simp [ioIx] at h
  | q :: qs, as, u :: ur, m, .cons a b, e, k, s, h => by
    unfold argsOf at e
    cases e1 : argOf ρ q with
    | none => rw [e1] at e; cases e
    | some x =>
      cases e2 : argsOf ρ qs with
      | none => rw [e1, e2] at e; cases e
      | some l =>
        rw [e1, e2] at e
        cases e
        have shift : ∀ {k : Nat}, (ioIx qs)[k]? = some s → ∃ (j : Nat) (v : V) (ds : List D), (ioPos (m + 1) l)[k]? = some (m + (j + 1)) ∧ (u :: ur)[j + 1]? = some v ∧ (x :: l)[j + 1]? = some (Ar.io ds) ∧ σ[s]? = some (some v) := fun {k} h => by
          obtain ⟨j, v, ds, h1, h2, h3, h4⟩ := io_pos (m + 1) b e2 k s h
          exact ⟨j, v, ds, by rw [h1]; congr 1; omega, by simpa using h2, by simpa using h3, h4⟩
        cases q with
        | d d =>
          cases e1
          obtain ⟨j, v, ds, h1, h2, h3, h4⟩ := shift (k := k) h
          exact ⟨j + 1, v, ds, h1, h2, h3, h4⟩
        | b i =>
          have e1 : (rsv ρ (.b i)).map Ar.pl = some x := e1
          cases e3 : rsv ρ (.b i) with
          | none => rw [e3] at e1; cases e1
          | some d =>
            rw [e3] at e1
            cases e1
            obtain ⟨j, v, ds, h1, h2, h3, h4⟩ := shift (k := k) h
            exact ⟨j + 1, v, ds, h1, h2, h3, h4⟩
        | io i =>
          have ex : ∃ ds, x = .io ds := by
            cases q : ρ[i]? with
            | none => simp [argOf, q] at e1
            | some s =>
              cases s with
              | em => simp [argOf, q] at e1
              | pl d' => simp [argOf, q] at e1
              | ow ds => simp [argOf, q] at e1; exact ⟨ds, e1.symm⟩
              | io ds => simp [argOf, q] at e1; exact ⟨ds, e1.symm⟩
          obtain ⟨ds, rfl⟩ := ex
          cases k with
          | zero =>
            have h : i = s := by simpa [ioIx] using h
            subst h
            exact ⟨0, u, ds, rfl, rfl, rfl, a⟩
          | succ k =>
            obtain ⟨j, v, ds2, h1, h2, h3, h4⟩ := shift (k := k) (by simpa [ioIx] using h)
            exact ⟨j + 1, v, ds2, by simpa [ioPos] using h1, h2, h3, h4⟩
theorem io_back : ∀ {qs : List Qv} {as : List Ar} {vs : List V}, Qrs X F σ vs qs → argsOf ρ qs = some as → ∀ (j : Nat) (ds : List D), as[j]? = some (Ar.io ds) → ∃ s : Nat, qs[j]? = some (Qv.io s) ∧ isOwn ρ s ∧ s ∈ ioIx qs ∧ ∀ v, vs[j]? = some v → σ[s]? = some (some v)
  | [], as, _, .nil, e, j, ds, h => by
    cases e
    simp at h
  | q :: qs, as, u :: ur, .cons a b, e, j, ds, h => by
    unfold argsOf at e
    cases e1 : argOf ρ q with
    | none => rw [e1] at e; cases e
    | some x =>
      cases e2 : argsOf ρ qs with
      | none => rw [e1, e2] at e; cases e
      | some l =>
        rw [e1, e2] at e
        cases e
        cases j with
        | zero =>
          have hx : x = .io ds := by simpa using h
          subst hx
          cases q with
          | d d => cases e1
          | b i =>
            have e1 : (rsv ρ (.b i)).map Ar.pl = some (.io ds) := e1
            cases e3 : rsv ρ (.b i) with
            | none => rw [e3] at e1; cases e1
            | some d => rw [e3] at e1; cases e1
          | io i =>
            have oi : isOwn ρ i := by
              cases q : ρ[i]? with
              | none => simp [argOf, q] at e1
              | some s =>
                cases s with
                | em => simp [argOf, q] at e1
                | pl d' => simp [argOf, q] at e1
                | ow es => exact ⟨es, .inl q⟩
                | io es => exact ⟨es, .inr q⟩
            exact ⟨i, rfl, oi, List.mem_cons_self, fun v hv => by
              have : u = v := by simpa using hv
              subst this
              exact a⟩
        | succ j =>
          obtain ⟨s, h1, h2, h3, h4⟩ := io_back b e2 j ds (by simpa using h)
          refine ⟨s, by simpa using h1, h2, ?_, fun v hv => h4 v (by simpa using hv)⟩
          cases q with
          | d d => exact h3
          | b i => exact h3
          | io i => exact List.mem_cons_of_mem _ h3
theorem io_in : ∀ {qs : List Qv} {i s : Nat}, qs[i]? = some (Qv.io s) → s ∈ ioIx qs
  | [], i, s, h => by simp at h
  | q :: qs, 0, s, h => by
    have : q = .io s := by simpa using h
    subst this
    exact List.mem_cons_self
  | q :: qs, i + 1, s, h => by
    have := io_in (qs := qs) (i := i) (s := s) (by simpa using h)
    cases q with
    | d d => exact this
    | b j => exact this
    | io j => exact List.mem_cons_of_mem _ this
theorem io_inj : ∀ {qs : List Qv} {i j s : Nat}, distinct (ioIx qs) = true → qs[i]? = some (Qv.io s) → qs[j]? = some (Qv.io s) → i = j
  | [], i, j, s, _, h, _ => by simp at h
  | q :: qs, i, j, s, hd, h1, h2 => by
    have tail : distinct (ioIx qs) = true ∧ ∀ s', q = .io s' → s' ∉ ioIx qs := by
      cases q with
      | d d => exact ⟨hd, fun s' z => by cases z⟩
      | b k => exact ⟨hd, fun s' z => by cases z⟩
      | io k =>
        have hd : (!(ioIx qs).contains k && distinct (ioIx qs)) = true := hd
        obtain ⟨a, b⟩ := Bool.and_eq_true_iff.mp hd
        refine ⟨b, fun s' z => ?_⟩
        cases z
        simpa using a
    cases i with
    | zero =>
      have e1 : q = .io s := by simpa using h1
      cases j with
      | zero => rfl
      | succ j => exact absurd (io_in (qs := qs) (i := j) (s := s) (by simpa using h2)) (tail.2 s e1)
    | succ i =>
      cases j with
      | zero =>
        have e1 : q = .io s := by simpa using h2
        exact absurd (io_in (qs := qs) (i := i) (s := s) (by simpa using h1)) (tail.2 s e1)
      | succ j => exact congrArg Nat.succ (io_inj tail.1 (by simpa using h1) (by simpa using h2))
theorem putOuts_get : ∀ {is : List Nat} {os : List (List D)} {ρ ρ' : Env}, distinct is = true → putOuts is os ρ = some ρ' → ρ'.length = ρ.length ∧ (∀ s : Nat, s ∉ is → ρ'[s]? = ρ[s]?) ∧
    ∀ (k s : Nat), is[k]? = some s → ∃ ds : List D, os[k]? = some ds ∧ ((∃ es, ρ[s]? = some (Slot.ow es)) ∧ ρ'[s]? = some (Slot.ow ds) ∨ (∃ es, ρ[s]? = some (Slot.io es)) ∧ ρ'[s]? = some (Slot.io ds))
  | [], [], ρ, ρ', _, h => by
    cases h
    exact ⟨rfl, fun s _ => rfl, fun k s e => by simp at e⟩
  | [], _ :: _, ρ, ρ', _, h => by cases h
  | i :: is, [], ρ, ρ', _, h => by cases h
  | i :: is, ds :: os, ρ, ρ', hd, h => by
    obtain ⟨ni, hd2⟩ := Bool.and_eq_true_iff.mp (show (!is.contains i && distinct is) = true from hd)
    have ni : i ∉ is := by simpa using ni
    have go : ∀ {sl : Slot}, putOuts is os (ρ.set i sl) = some ρ' → i < ρ.length → ((sl = Slot.ow ds ∧ ∃ es, ρ[i]? = some (Slot.ow es)) ∨ (sl = Slot.io ds ∧ ∃ es, ρ[i]? = some (Slot.io es))) → ρ'.length = ρ.length ∧ (∀ s : Nat, s ∉ i :: is → ρ'[s]? = ρ[s]?) ∧
        ∀ (k s : Nat), (i :: is)[k]? = some s → ∃ es : List D, (ds :: os)[k]? = some es ∧ ((∃ es, ρ[s]? = some (Slot.ow es)) ∧ ρ'[s]? = some (Slot.ow es) ∨ (∃ es, ρ[s]? = some (Slot.io es)) ∧ ρ'[s]? = some (Slot.io es)) := by
      intro sl h hi hsl
      obtain ⟨l, g1, g2⟩ := putOuts_get hd2 h
      refine ⟨by rw [l, List.length_set], fun s hs => ?_, fun k s e => ?_⟩
      · rw [g1 s fun z => hs (List.mem_cons_of_mem _ z), List.getElem?_set_ne fun z => hs (by rw [z]; exact List.mem_cons_self)]
      · cases k with
        | zero =>
          have : i = s := by simpa using e
          subst this
          have at_ : ρ'[i]? = some sl := by rw [g1 i ni, List.getElem?_set_self hi]
          refine ⟨ds, rfl, ?_⟩
          rcases hsl with ⟨q, z⟩ | ⟨q, z⟩
          · rw [q] at at_; exact .inl ⟨z, at_⟩
          · rw [q] at at_; exact .inr ⟨z, at_⟩
        | succ k =>
          obtain ⟨es, e1, e2⟩ := g2 k s (by simpa using e)
          have ne : i ≠ s := fun z => ni (by rw [z]; exact List.mem_of_getElem? (by simpa using e))
          rw [List.getElem?_set_ne ne] at e2
          exact ⟨es, by simpa using e1, e2⟩
    unfold putOuts at h
    cases q : ρ[i]? with
    | none => simp [q] at h
    | some s =>
      have hi := (List.getElem?_eq_some_iff.mp q).1
      cases s with
      | em => simp [q] at h
      | pl d => simp [q] at h
      | ow es => simp only [q, Option.bind_some] at h; exact go h hi (.inl ⟨rfl, es, q⟩)
      | io es => simp only [q, Option.bind_some] at h; exact go h hi (.inr ⟨rfl, es, q⟩)
end
end Sw

end
section
set_option maxRecDepth 100000
set_option maxHeartbeats 2000000
namespace Sw
open PySem PySem.Spec PyProof.Rows
open L2 (V Hp HO upd upd_same upd_ne SqL SqT Rd VK XK WX Cx Inv RelV Vals PE PT PW PA PI PS PSs EP TP AP SP TE TT TA TS TI It Takes thn Gl Vis Loc Room OpR CallR TyX PG PGs TG TGs PTs Ends Sp FnOk)
section
variable {X : Cx} {T : List (Addr × Str)} {fld : Fld} {Z : Gh} {W : WX} {σ σ' : L2.St} {F F' F2 H H' : Hp} {ρ ρ' : Env} {K : PySem.W.Frag} {mg : Str → Option Value}
theorem un_kept (R : Rel K T Z F H σ ρ) {bs : List Nat} (old : ∀ b o, frz F H (Lent ρ σ bs) b = some o → F' b = some o) : Kept F' (unfrz F' (Lent ρ σ bs)) := fun b o h => by
  by_cases l : Lent ρ σ bs b
  · obtain ⟨i, ds, vs, _, _, h1, _⟩ := R.lentAt l
    refine .inr ⟨vs, old b _ ?_⟩
    unfold frz
    rw [if_pos l]
    exact h1
  · refine .inl ?_
    unfold unfrz
    rw [if_neg l]
    exact h
theorem un_none : unfrz F' (Lent ρ σ []) = F' := by
  funext b
  unfold unfrz
  rw [if_neg fun ⟨i, hi, _⟩ => by cases hi]
theorem Rel.called (R : Rel K T Z F H σ ρ) {bs ios io : List Nat} {A : Nat → Option Addr} {os : List (List D)} (E : EndR K T (frz F H (Lent ρ σ bs)) H F' H' A io os) (hA : ∀ i a, A i = some a → ∃ s ∈ ios, isOwn ρ s ∧ σ[s]? = some (some (.ref a)))
    (hp : putOuts ios os ρ = some ρ') (hdi : distinct ios = true) (hout : ∀ (k s : Nat) ds, ios[k]? = some s → os[k]? = some ds → ∃ a vs, σ[s]? = some (some (.ref a)) ∧ H' a = some (.lst vs) ∧ Rps K F' vs ds ∧ F' a = none)
    (hl : bs = [] ∨ os.all noLists = true) : Rel K T Z (unfrz F' (Lent ρ σ bs)) H' σ ρ' ∧ Stp F H σ ρ (unfrz F' (Lent ρ σ bs)) H' ρ' := by
  obtain ⟨len, g1, g2⟩ := putOuts_get hdi hp
  have kp := un_kept R E.old
  have lift : ∀ {vs : List V} {ds : List D}, ds ∈ os → Rps K F' vs ds → Rps K (unfrz F' (Lent ρ σ bs)) vs ds := fun {vs ds} hm r => by
    rcases hl with h | h
    · subst h
      rw [un_none]
      exact r
    · exact rps_kept kp r (List.all_eq_true.mp h ds hm)
  -- what was frozen stays
  have up : ∀ b o, F b = some o → unfrz F' (Lent ρ σ bs) b = some o := fun b o h => by
    unfold unfrz
    rw [if_neg fun l => by
      obtain ⟨_, _, _, _, _, _, n⟩ := R.lentAt l
      rw [n] at h; cases h]
    exact E.old b o (frz_up R b o h)
  have at_ : ∀ {i : Nat} {a : Addr}, A i = some a → ∀ {j : Nat}, isOwn ρ j → σ[j]? = some (some (.ref a)) → j ∈ ios := fun {i a} h {j} oj ej => by
    obtain ⟨s, h1, h2, h3⟩ := hA i a h
    rw [R.ap j s a oj h2 ej h3]
    exact h1
  have isO : ∀ {j : Nat}, isOwn ρ' j → isOwn ρ j := fun {j} ⟨ds, e⟩ => by
    by_cases hj : j ∈ ios
    · obtain ⟨k, hk⟩ := List.getElem?_of_mem hj
      obtain ⟨es, _, q⟩ := g2 k j hk
      rcases q with ⟨⟨fs, q⟩, _⟩ | ⟨⟨fs, q⟩, _⟩
      · exact ⟨fs, .inl q⟩
      · exact ⟨fs, .inr q⟩
    · rw [g1 j hj] at e
      exact ⟨ds, e⟩
  -- a slot that was not handed in and out
  have same : ∀ {j : Nat} {a : Addr} {ds : List D}, isOwn ρ j → j ∉ ios → Own K F H σ j a ds → Own K (unfrz F' (Lent ρ σ bs)) H' σ j a ds := fun {j a ds} oj n x => by
    obtain ⟨vs, h1, h2⟩ := x.ob
    refine ⟨x.at_, ?_, vs, ?_, dps_mono up h2⟩
    · by_cases l : Lent ρ σ bs a
      · unfold unfrz
        rw [if_pos l]
      · unfold unfrz
        rw [if_neg l]
        cases q : F' a with
        | none => rfl
        | some o =>
          rcases E.new a o q with h | h
          · unfold frz at h
            rw [if_neg l, x.nf] at h
            cases h
          · obtain ⟨ps, z⟩ := h _ h1
            cases z
    · exact E.keep a _ h1 (fun i hi => n (at_ hi oj x.at_)) fun ps z => by cases z
  have un_some : ∀ {b : Addr} {o : HO}, unfrz F' (Lent ρ σ bs) b = some o → F' b = some o ∧ ¬ Lent ρ σ bs b := fun {b o} h => by
    unfold unfrz at h
    by_cases l : Lent ρ σ bs b
    · rw [if_pos l] at h; cases h
    · rw [if_neg l] at h; exact ⟨h, l⟩
  have newer : ∀ b o, unfrz F' (Lent ρ σ bs) b = some o → F b = some o ∨ Nt H b := fun b o h => by
    obtain ⟨h1, l⟩ := un_some h
    rcases E.new b o h1 with q | q
    · unfold frz at q
      rw [if_neg l] at q
      exact .inl q
    · exact .inr q
  -- one that was
  have got : ∀ {j : Nat}, j ∈ ios → ∃ ds a, (ρ'[j]? = some (.ow ds) ∧ (∃ es, ρ[j]? = some (.ow es)) ∨ ρ'[j]? = some (.io ds) ∧ (∃ es, ρ[j]? = some (.io es))) ∧ σ[j]? = some (some (.ref a)) ∧ Own K (unfrz F' (Lent ρ σ bs)) H' σ j a ds := fun {j} hj => by
    obtain ⟨k, hk⟩ := List.getElem?_of_mem hj
    obtain ⟨ds, e1, q⟩ := g2 k j hk
    obtain ⟨a, vs, e2, h1, h2, h3⟩ := hout k j ds hk e1
    refine ⟨ds, a, ?_, e2, e2, ?_, vs, h1, lift (List.mem_of_getElem? e1) h2⟩
    · rcases q with ⟨q1, q2⟩ | ⟨q1, q2⟩
      · exact .inl ⟨q2, q1⟩
      · exact .inr ⟨q2, q1⟩
    · unfold unfrz
      split
      · rfl
      · exact h3
  refine ⟨⟨fun b o h => E.sub b o (un_some h).1, fun b ps h => E.ntb b ps (un_some h).1, E.tab, fun b o h n t => ?_, fun b o h => up b o (R.old b o h), fun b o h => ?_, len.trans R.len, fun j d e => ?_, fun j ds e => ?_, fun j ds e => ?_, fun j a e => ?_, fun i j a hi hj => R.ap i j a (isO hi) (isO hj)⟩,
    ⟨up, fun b o h n => E.keep b o h fun i hi => by
      obtain ⟨s, _, h2, h3⟩ := hA i b hi
      exact n s h2 h3, fun b o h => (newer b o h).elim .inl fun q => .inr (.inl q), fun i => isO⟩⟩
  · have nA : ∀ i, A i ≠ some b := fun i hi => by
      obtain ⟨s, _, ⟨ds, h2⟩, h3⟩ := hA i b hi
      rcases h2 with h2 | h2
      · obtain ⟨a, x, hz⟩ := R.ow s ds h2
        have := x.at_
        rw [h3] at this
        cases this
        obtain ⟨ps, z⟩ := hz _ h
        exact t ps z
      · obtain ⟨a, x, hz⟩ := R.io s ds h2
        have := x.at_
        rw [h3] at this
        cases this
        exact n ⟨s, hz⟩
    exact E.keep b o (R.keep b o h n t) nA t
  · rcases newer b o h with q | q
    · exact R.new b o q
    · exact .inr (R.free q)
  · have n : j ∉ ios := fun hj => by
      obtain ⟨ds, a, q, _⟩ := got hj
      rcases q with ⟨q, _⟩ | ⟨q, _⟩ <;> rw [q] at e <;> cases e
    rw [g1 j n] at e
    obtain ⟨v, h1, h2⟩ := R.pl j d e
    exact ⟨v, h1, dp_mono up h2⟩
  · by_cases hj : j ∈ ios
    · obtain ⟨es, a, q, e2, x⟩ := got hj
      rcases q with ⟨q, fs, q2⟩ | ⟨q, _⟩
      · rw [q] at e
        cases e
        obtain ⟨a', x', hz⟩ := R.ow j fs q2
        have := x'.at_
        rw [e2] at this
        cases this
        exact ⟨a, x, hz⟩
      · rw [q] at e; cases e
    · rw [g1 j hj] at e
      obtain ⟨a, x, hz⟩ := R.ow j ds e
      exact ⟨a, same ⟨ds, .inl e⟩ hj x, hz⟩
  · by_cases hj : j ∈ ios
    · obtain ⟨es, a, q, e2, x⟩ := got hj
      rcases q with ⟨q, _⟩ | ⟨q, fs, q2⟩
      · rw [q] at e; cases e
      · rw [q] at e
        cases e
        obtain ⟨a', x', hz⟩ := R.io j fs q2
        have := x'.at_
        rw [e2] at this
        cases this
        exact ⟨a, x, hz⟩
    · rw [g1 j hj] at e
      obtain ⟨a, x, hz⟩ := R.io j ds e
      exact ⟨a, same ⟨ds, .inr e⟩ hj x, hz⟩
  · obtain ⟨ds, q⟩ := R.mi j a e
    by_cases hj : j ∈ ios
    · obtain ⟨es, a', q2, _⟩ := got hj
      rcases q2 with ⟨_, fs, q3⟩ | ⟨q3, _⟩
      · rw [q] at q3; cases q3
      · exact ⟨es, q3⟩
    · exact ⟨ds, by rw [g1 j hj]; exact q⟩
/-- the call of a def, seen from outside -/
theorem call_sem {io : List Nat} {n : Nat} {cl : Nat → List Ar → Ret} {f : Nat} {qs : List Qv} {vs : List V} {Q : VK} {F₀ H₀ : Hp} {ρ₀ : Env} (hio : ∀ as, cl f as ≠ .no → io = ioPos 0 as ∧ as.length = n) (R : Rel X.K T Z F H σ ρ) (S : Stp F₀ H₀ σ ρ₀ F H ρ) (hv : Qrs X F σ vs qs)
    (h : Fin X T fld Z W σ F₀ H₀ ρ₀ (callq cl f qs ρ) fun r ρ' F' H' => ∀ v, Rv X.K Z H₀ ρ₀ F' H' σ ρ' v r → Q v H') :
    spRun X.K T X.mg fld io n (cl f) vs H Q (fun c d H' => W c d σ H') := by
  unfold callq at h
  cases e1 : argsOf ρ qs with
  | none => simp only [e1] at h; exact h.elim
  | some as =>
    simp only [e1] at h
    by_cases c : (distinct (ioIx qs) && (borIx qs).all fun i => !(ioIx qs).contains i) = true
    · rw [if_pos c] at h
      obtain ⟨c1, c2⟩ := Bool.and_eq_true_iff.mp c
      have hdj : ∀ i ∈ borIx qs, i ∉ ioIx qs := fun i hi => by simpa using List.all_eq_true.mp c2 i hi
      have aR := args_of R hdj hv e1 (fun i h => h) (fun i h => h)
      have nn : cl f as ≠ .no := fun z => by rw [z] at h; exact h.elim
      obtain ⟨hpos, hlen⟩ := hio as nn
      have hA : ∀ i a, ioAd vs as i = some a → ∃ s ∈ ioIx qs, isOwn ρ s ∧ σ[s]? = some (some (.ref a)) := fun i a q => by
        obtain ⟨h1, ds, h2⟩ := ioAd_some q
        obtain ⟨s, _, h3, h4, h5⟩ := io_back hv e1 i ds h2
        exact ⟨s, h4, h3, h5 _ h1⟩
      have hd : ∀ i j a, ioAd vs as i = some a → ioAd vs as j = some a → i = j := fun i j a hi hj => by
        obtain ⟨h1, ds, h2⟩ := ioAd_some hi
        obtain ⟨h3, es, h4⟩ := ioAd_some hj
        obtain ⟨s, q1, o1, _, p1⟩ := io_back hv e1 i ds h2
        obtain ⟨t, q2, o2, _, p2⟩ := io_back hv e1 j es h4
        have := R.ap s t a o1 o2 (p1 _ h1) (p2 _ h3)
        subst this
        exact io_inj c1 q1 q2
      refine ⟨frz F H (Lent ρ σ (borIx qs)), as, by rw [aR.len, hlen], fun b o q => ?_, fun b ps q => ?_, R.tab, aR, hd, ?_⟩
      · unfold frz at q
        split at q
        · exact q
        · exact R.sub b o q
      · unfold frz at q
        split at q
        · rename_i l
          obtain ⟨_, _, _, _, _, z, _⟩ := R.lentAt l
          rw [z] at q; cases q
        · exact R.ntb b ps q
      have hout : ∀ {F' H' : Hp} {os : List (List D)}, EndR X.K T (frz F H (Lent ρ σ (borIx qs))) H F' H' (ioAd vs as) io os → ∀ (k s : Nat) ds, (ioIx qs)[k]? = some s → os[k]? = some ds → ∃ a vs, σ[s]? = some (some (.ref a)) ∧ H' a = some (.lst vs) ∧ Rps X.K F' vs ds ∧ F' a = none := fun {F' H' os} E k s ds hk hds => by
        obtain ⟨j, v, es, p1, p2, p3, p4⟩ := io_pos 0 hv e1 k s hk
        rw [← hpos] at p1
        obtain ⟨a, us, q1, q2, q3, q4⟩ := E.out k (0 + j) ds p1 hds
        rw [Nat.zero_add] at q1
        obtain ⟨q5, _⟩ := ioAd_some q1
        rw [p2] at q5
        cases q5
        exact ⟨a, us, p4, q2, q3, q4⟩
      cases e2 : cl f as with
      | no => exact absurd e2 nn
      | ok v os =>
        rw [e2] at h
        by_cases l : lentOk (borIx qs) v os = true
        · simp only [if_pos l] at h
          cases e3 : putOuts (ioIx qs) os ρ with
          | none => simp only [e3] at h; exact h.elim
          | some ρ' =>
            simp only [e3] at h
            intro x F' H' E rv
            have hl : borIx qs = [] ∨ os.all noLists = true := by
              unfold lentOk at l
              rcases Bool.or_eq_true_iff.mp l with l | l
              · exact .inl (by simpa using l)
              · exact .inr (Bool.and_eq_true_iff.mp l).2
            obtain ⟨R2, S2⟩ := R.called E hA e3 c1 (hout E) hl
            refine h _ H' R2 (S.trans R S2) x ?_
            cases v with
            | pl d =>
              have rv : Rp X.K F' x d := rv
              rcases hl with z | z
              · rw [z, un_none]
                exact rv
              · unfold lentOk at l
                rcases Bool.or_eq_true_iff.mp l with l | l
                · have z : borIx qs = [] := by simpa using l
                  rw [z, un_none]
                  exact rv
                · exact rp_kept (un_kept R E.old) rv (Bool.and_eq_true_iff.mp l).1
            | fr ds =>
              have z : borIx qs = [] := by
                unfold lentOk at l
                rcases Bool.or_eq_true_iff.mp l with l | l
                · simpa using l
                · simp at l
              obtain ⟨a, us, q1, q2, q3, q4, q5⟩ := rv
              refine rv_base R S (r := .fr ds) ?_
              rw [z, un_none] at R2 S2 ⊢
              exact ⟨a, us, q1, q2, q3, q4, R.free q5, fun j hj => R.notNt q5 (S2.own j hj), .inl q5⟩
        · simp only [if_neg l] at h
          exact h.elim
      | er x os =>
        rw [e2] at h
        by_cases l : lentOk (borIx qs) (.pl x.d) os = true
        · simp only [if_pos l] at h
          cases e3 : putOuts (ioIx qs) os ρ with
          | none => simp only [e3] at h; exact h.elim
          | some ρ' =>
            simp only [e3] at h
            intro c d F' H' E xv
            have hl : borIx qs = [] ∨ os.all noLists = true := by
              unfold lentOk at l
              rcases Bool.or_eq_true_iff.mp l with l | l
              · exact .inl (by simpa using l)
              · exact .inr (Bool.and_eq_true_iff.mp l).2
            obtain ⟨R2, S2⟩ := R.called E hA e3 c1 (hout E) hl
            refine h c d _ H' R2 (S.trans R S2) ?_
            obtain ⟨C, dd, f, v, x1, x2, x3, x4, x5, x6⟩ := xv
            refine ⟨C, dd, f, v, x1, x2, x3, x4, x5, ?_⟩
            unfold lentOk at l
            rcases Bool.or_eq_true_iff.mp l with l | l
            · have z : borIx qs = [] := by simpa using l
              rw [z, un_none]
              exact x6
            · exact rp_kept (un_kept R E.old) x6 (Bool.and_eq_true_iff.mp l).1
        · simp only [if_neg l] at h
          exact h.elim
    · rw [if_neg c] at h
      exact h.elim
end
section
variable {X : Cx} {T : List (Addr × Str)} {fld : Fld} {Z : Gh} {W : WX} {k n : Nat} {f : Addr} {fd : FuncData} {ps : List Str} {x : Str} {p pos : Pos} {io : List Nat} {cl : Nat → List Ar → Ret} {fi : Nat}
theorem t_cal {e : Expr} {es : List Expr} {s : Env → Out (List Qv)} (Fk : FnOk X.prog X.w X.K X.mg X.base (L2.CX X.prog X.w) k f fd ps (spRun X.K T X.mg fld io n (cl fi))) (hr : Room k X.A) (hps : ∀ σ, L2.PassesAt (L2.CX X.prog X.w) X σ (L2.WE W σ)) (hio : ∀ as, cl fi as ≠ .no → io = ioPos 0 as ∧ as.length = n)
    (hg : Gl X x) (hm : X.mg x = some (.ref f)) (hk : PySem.W.keepIn X.K (.ref f) = true) (hb : L2.Binds X.K fd ps []) (ha : PA X (e :: es) (tAs X T fld Z s W)) (hd : (x == ("__debug__" : Str)) = false)
    (he : starEach (e :: es) X.env = (false, eval e X.env) :: starEach es X.env) (hpl : (backTo pos (starEach es X.env)).any (·.1) = false) :
    PE X (.Call (.Name x p) (e :: es) [] pos) (tE X T fld Z (fun ρ => (s ρ).bind fun qs ρ => callq cl fi qs ρ) W) :=
  PE.imp (L2.pe_callS (E := L2.WE W) Fk hr hg hm hk hb hps ha hd he hpl) fun σ H Q ⟨F, ρ, R, q⟩ => ⟨F, ρ, R, Fin.mono (Fin.bind q) fun qs ρ1 F1 H1 R1 S1 k2 vs hvs => call_sem hio R1 S1 hvs k2⟩
theorem t_cal0 (Fk : FnOk X.prog X.w X.K X.mg X.base (L2.CX X.prog X.w) k f fd ps (spRun X.K T X.mg fld io n (cl fi))) (hr : Room k X.A) (hps : ∀ σ, L2.PassesAt (L2.CX X.prog X.w) X σ (L2.WE W σ)) (hio : ∀ as, cl fi as ≠ .no → io = ioPos 0 as ∧ as.length = n)
    (hg : Gl X x) (hm : X.mg x = some (.ref f)) (hk : PySem.W.keepIn X.K (.ref f) = true) (hb : L2.Binds X.K fd ps []) (hd : (x == ("__debug__" : Str)) = false) :
    PE X (.Call (.Name x p) [] [] pos) (tE X T fld Z (fun ρ => (Out.ok [] ρ).bind fun qs ρ => callq cl fi qs ρ) W) := by
  refine ⟨fun pins s σ H Q I ⟨F, ρ, R, q⟩ => ?_⟩
  refine wpAny_Call_Name_kw (L2.ld_glob I hg hm ?_ hd)
  exact PySem.W.callWith_K0 I.kIn hk (L2.run_fnS (E := L2.WE W) (us := []) Fk hr hb (hps σ) I .nil (call_sem hio R Stp.refl .nil q))
end
end Sw

end
section
set_option maxRecDepth 100000
set_option maxHeartbeats 4000000
namespace Sw
open PySem PySem.Spec PyProof.Rows
open L2 (V Hp HO upd upd_same upd_ne SqL SqT Rd VK XK WX Cx Inv RelV Vals PE PT PW PA PI PS PSs EP TP AP SP TE TT TA TS TI It Takes thn Gl Vis Loc Room OpR CallR TyX PG PGs TG TGs PTs Ends Sp FnOk frs FpOk Un UB HOk XE Zc restrict funFrames_none)
theorem note_same {e : Value} {e1 e2 : PySem.Env} (h : e1.frame = e2.frame) : noteFrame e e1 = noteFrame e e2 := by
  unfold noteFrame PySem.frameOf
  rw [h]
/-- the context of a comprehension's block, with a wish about what is raised -/
abbrev blkE (X : Cx) (s : Shared) (H : Hp) (scope : Scope) (ce : PySem.Env) (fp : List Addr) (xe : Value → Shared → Prop) : Cx := { X.blk s H scope ce fp with xe := xe }
theorem to_blkE {X : Cx} {s3 s : Shared} {H3 H : Hp} {scope : Scope} {ce : PySem.Env} {fp : List Addr} {xe : Value → Shared → Prop} {pins : List (Addr × Obj)} {σ : L2.St} (I : Inv (X.blk s3 H3 scope ce fp) pins σ H s) : Inv (blkE X s3 H3 scope ce fp xe) pins σ H s :=
  I.wish xe
theorem ff_but {B B' h h' : Heap} : ∀ {l : List PySem.Env}, h.FunFrames B l → (∀ L ∈ frs l, h'.get? L = h.get? L ∧ B'.get? L = none) → h'.FunFrames B' l
  | [], _, _ => trivial
  | e :: l, ⟨q1, ⟨L, o, q2, _, q3, q4⟩, q5⟩, k => by
    obtain ⟨k1, k2⟩ := k L (List.mem_filterMap.mpr ⟨e, List.mem_cons_self, q2⟩)
    refine ⟨q1, ⟨L, o, q2, k2, k1.trans q3, q4⟩, ff_but q5 fun M hM => ?_⟩
    obtain ⟨e2, he, hq⟩ := List.mem_filterMap.mp hM
    exact k M (List.mem_filterMap.mpr ⟨e2, List.mem_cons_of_mem _ he, hq⟩)
section
variable {X : Cx} {W : WX} {pins pins' : List (Addr × Obj)} {σ σ5 : L2.St} {H3 H5 : Hp} {s3 s5 s' : Shared} {scope : Scope} {ce : PySem.Env} {fp : List Addr} {xe : Value → Shared → Prop} {u : Value}
theorem blk_fails {use : Option (Value → Sem Unit)} {Qf : Value → Shared → Prop} {acc : Value} (hs : X.stack = X.env :: X.outer) (hf : X.env.frame = some X.env.locals) (hcf : ce.frame = X.env.frame) (tk : Takes X W) (I3 : Inv X pins σ H3 s3) (fresh : s3.heap.get? ce.locals = none)
    (f3 : ∀ b ∈ fp, FpOk X pins H3 b) (I5 : Inv (blkE X s3 H3 scope ce fp xe) pins' σ5 H5 s5) (cx : L2.CX X.prog X.w X.stack H5 s5 (fun c d H' => W c d σ H') u s') :
    notedBy (model X.prog X.w) X.A ce (fun e s' => compEnds (model X.prog X.w) X.A X.xe use Qf acc ce (.error e) s') u s' := by
  obtain ⟨a, B, H', cls, d, rfl, fl, hok, ub, na, os, ag, hE⟩ := cx
  have base : Un (frs X.stack) fp H3 H5 s3.heap s5.heap := I5.base
  obtain ⟨m5, ns5, _⟩ := I5.loc
  have ns5 : s5.heap.Ns ce.locals m5 := ns5
  have c5 : H5 ce.locals = none := I5.free
  have nfr : ce.locals ∉ frs X.stack := fun z => by
    obtain ⟨_, o, ho, _⟩ := I3.stack.mem z
    rw [fresh] at ho; cases ho
  obtain ⟨oC, esC, epC, hoC, hdC, hrC⟩ := ns5
  have hBC : B.get? ce.locals = some oC := ub.keep _ _ hoC c5 nfr
  have hC' : H' ce.locals = none := ub.free _ _ hoC c5
  obtain ⟨G, g1, g2⟩ := restrict s'.heap fun b => ((B.get? b).isSome || decide (b ∈ frs X.stack)) && decide (b ≠ ce.locals)
  obtain ⟨B', b1, b2⟩ := restrict B fun b => decide (b ≠ ce.locals)
  have stay : B.StaysIn s'.heap := fl.1
  have neC : ∀ {b : Addr} {o : Obj}, s3.heap.get? b = some o → b ≠ ce.locals := fun e z => by rw [z, fresh] at e; cases e
  have toG : ∀ {b : Addr} {o : Obj}, b ≠ ce.locals → B.get? b = some o → G.get? b = some o := fun {b o} n e => by
    rw [g1 b (by simp [e, n])]
    exact stay b o e
  have frG : ∀ {b : Addr}, b ∈ frs X.stack → G.get? b = s'.heap.get? b := fun {b} hb => g1 b (by
    have n : b ≠ ce.locals := fun z => nfr (by rw [← z]; exact hb)
    simp [hb, n])
  have ofG : ∀ {b : Addr} {o : Obj}, G.get? b = some o → s'.heap.get? b = some o ∧ b ≠ ce.locals ∧ (b ∉ frs X.stack → B.get? b = some o) := fun {b o} e => by
    cases q : (((B.get? b).isSome || decide (b ∈ frs X.stack)) && decide (b ≠ ce.locals)) with
    | false => rw [g2 b q] at e; cases e
    | true =>
      rw [g1 b q] at e
      obtain ⟨q1, q2⟩ := Bool.and_eq_true_iff.mp q
      refine ⟨e, by simpa using q2, fun nb => ?_⟩
      have q1 : (B.get? b).isSome = true := by simpa [nb] using q1
      obtain ⟨o2, e2⟩ := Option.isSome_iff_exists.mp q1
      rw [e2]
      have := stay b o2 e2
      rw [e] at this
      exact this.symm
  have toB' : ∀ {b : Addr} {o : Obj}, b ≠ ce.locals → B.get? b = some o → B'.get? b = some o := fun {b o} n e => by
    rw [b1 b (by simp [n])]
    exact e
  have ofB' : ∀ {b : Addr} {o : Obj}, B'.get? b = some o → B.get? b = some o ∧ b ≠ ce.locals := fun {b o} e => by
    by_cases n : b = ce.locals
    · rw [b2 b (by simp [n])] at e; cases e
    · rw [b1 b (by simp [n])] at e
      exact ⟨e, n⟩
  have hokG : HOk X.prog X.w H' G := fun b o q => (hok b o q).stay (fun c v hc r => toG (fun z => by
    rcases hc with hc | hc
    · rw [← hc, z, hC'] at q; cases q
    · rw [z, hC'] at hc; cases hc) r) (fun _ r => r) fun _ _ r => r
  -- the def's state without the block
  have J : Inv X pins σ H' { s3 with heap := G, gens := s'.gens, drawn := s'.drawn, toks := s'.toks } := by
    refine I3.call (ch := fp) ⟨fun b o e n hb hc => toG (neC e) (ub.keep b o (base.keep b o e n hb hc) (base.free b o e n hc) hb), fun b o e n hb hc => ?_, fun b o e n hc => ?_, fun b o e hc => ?_, fun b xs e => ub.tups b xs (base.tups b xs e), fun b o v e => ?_, fun b ps e => ?_⟩ hokG ag
      fun b hb => ⟨(f3 b hb).2.2.2.1, (f3 b hb).2.1, (f3 b hb).2.2.2.2.1, (f3 b hb).2.2.2.2.2⟩
    · obtain ⟨sl, e1⟩ := base.slot b o e n hb hc
      obtain ⟨sl2, e2⟩ := ub.slot b _ e1 hb
      exact ⟨sl2, by rw [frG hb]; exact e2⟩
    · obtain ⟨o2, e2⟩ := base.there b o e hc
      exact ub.free b o2 e2 (base.free b o e n hc)
    · obtain ⟨o2, e2⟩ := base.there b o e hc
      by_cases hb : b ∈ frs X.stack
      · obtain ⟨sl2, e3⟩ := ub.slot b _ e2 hb
        exact ⟨_, by rw [frG hb]; exact e3⟩
      · obtain ⟨o3, e3⟩ := ub.there b o2 e2 hb
        exact ⟨o3, toG (neC e) e3⟩
    · exact ub.frzs b o v (base.frzs b o v e)
    · obtain ⟨m1, e1⟩ := base.tbls b ps e
      obtain ⟨m2, e2⟩ := ub.tbls b _ e1
      exact ⟨m1 ++ m2, by rw [e2, Array.append_assoc]⟩
  have hfr : X.A.frames = some (X.env :: X.outer) := by rw [I3.ok.frames, hs]
  rw [hs] at fl
  show wpAny _ _ (noteFrame (.ref a) ce) _ _ _
  rw [note_same hcf]
  refine HandSPX.looks_onZ Zc.steady hfr hf fl fun h1 held up1 => ?_
  obtain ⟨k1, k2, k3, oe, vs, Tr, oT, ts, t1, t2, t3, t4, t5, t6, t7, t8, t9⟩ := held
  refine ⟨m5, ⟨oC, esC, epC, k1 _ _ hBC, hdC, hrC⟩, fun h' m' _ but => ?_⟩
  have aC : a ≠ ce.locals := fun z => by rw [z, hBC] at k2; cases k2
  have tC : Tr ≠ ce.locals := fun z => by rw [z, hBC] at t5; cases t5
  have bo : ∀ {b : Addr}, b ≠ ce.locals → h'.get? b = h1.get? b := fun {b} n => but.2 b n
  have heldB : HandSPX.HeldZ B' (X.env :: X.outer) a (Zc cls d) X.env.locals h' := by
    refine ⟨fun b o e => ?_, ?_, ?_, oe, vs, Tr, oT, ts, (bo aC).trans t1, t2, t3, t4, ?_, t6, (bo tC).trans t7, t8, t9⟩
    · obtain ⟨e1, n⟩ := ofB' e
      rw [bo n]
      exact k1 b o e1
    · cases q : B'.get? a with
      | none => rfl
      | some o => rw [(ofB' q).1] at k2; cases k2
    · refine ff_but k3 fun L hL => ⟨bo fun z => nfr (by rw [hs, ← z]; exact hL), ?_⟩
      cases q : B'.get? L with
      | none => rfl
      | some o =>
        have := (k3.mem hL).1
        rw [(ofB' q).1] at this
        cases this
    · cases q : B'.get? Tr with
      | none => rfl
      | some o => rw [(ofB' q).1] at t5; cases t5
  unfold PySem.passOn
  refine wpAny_bind (wpAny_field ((bo aC).trans t1) t3 t4 ?_)
  rw [if_neg (show ¬ ((Value.ref Tr == Value.none) = true) from by simp)]
  have fin : wpAny (model X.prog X.w) X.A (setFlight (.ref a) ce.frame) (fun _ s4 => wpAny (model X.prog X.w) X.A (throw (.ref a) : Sem Value) (fun _ _ => False) X.xe s4) X.xe { s' with heap := h' } := by
    rw [hcf, hf]
    refine HandSPX.setFlight_onZ heldB fun h2 held2 up2 => wpAny_throw (tk _ _ ?_)
    refine ⟨a, B', _, pins, σ, H', cls, d, rfl, J, fun b o e nb => ?_, fun b o e nf => ?_, .inr (.inr (by rw [hs]; exact held2)), na, ?_, ag, hE⟩
    · obtain ⟨_, n, q⟩ := ofG e
      exact toB' n (q nb)
    · obtain ⟨q1, n, _⟩ := ofG e
      obtain ⟨sl1, q2⟩ := up1 b o q1 nf
      obtain ⟨sl2, q3⟩ := up2 b _ ((bo n).trans q2) nf
      exact ⟨sl2, q3⟩
    · exact os.trans I5.os
  first
    | exact wpAny_bind (wpAny_pure (wpAny_bind fin))
    | exact wpAny_bind fin
theorem lc_run {Q : VK} {σ : L2.St} {H : Hp} {s : Shared} {elt tg iter : Expr} {ifs : List Expr} {own : List (Str × Nat)} {pos pos' : Pos} {wi : TI} {g : TG} {tt : TT} {te : TE} {use : Option (Value → Sem Unit)} {Qf : Value → Shared → Prop}
    (hs : X.stack = X.env :: X.outer) (hf : X.env.frame = some X.env.locals) (tk : Takes X W) (calm : X.calm = true) (nd : X.N.Nodup) (I : Inv X pins σ H s) (hi : PI X tg iter wi) (ok : L2.BlkOk X.N X.env.scope scope own)
    (hg : ∀ (s : Shared) (H : Hp) (C : Addr) (cl : List (Str × Addr)) (fp : List Addr) (xe : Value → Shared → Prop), (∀ σ', L2.PassesAt (L2.CX X.prog X.w) (blkE X s H scope (compEnvC scope cl C X.env) fp xe) σ' (fun c d H' => W c d σ H')) → PG (blkE X s H scope (compEnvC scope cl C X.env) fp xe) tg g)
    (ht : ∀ (s : Shared) (H : Hp) (C : Addr) (cl : List (Str × Addr)) (fp : List Addr) (xe : Value → Shared → Prop), (∀ σ', L2.PassesAt (L2.CX X.prog X.w) (blkE X s H scope (compEnvC scope cl C X.env) fp xe) σ' (fun c d H' => W c d σ H')) → PTs (blkE X s H scope (compEnvC scope cl C X.env) fp xe) ifs tt)
    (he : ∀ (s : Shared) (H : Hp) (C : Addr) (cl : List (Str × Addr)) (fp : List Addr) (xe : Value → Shared → Prop), (∀ σ', L2.PassesAt (L2.CX X.prog X.w) (blkE X s H scope (compEnvC scope cl C X.env) fp xe) σ' (fun c d H' => W c d σ H')) → PE (blkE X s H scope (compEnvC scope cl C X.env) fp xe) elt te)
    (hfold : ∀ x, foldedSetIterable iter X.env x = pure x) (h : L2.tLc wi g tt te (own.map (·.2)) σ H Q)
    (hend : ∀ D (ce : PySem.Env) s' m H', Inv X pins σ H' s' → Q (.ref D) H' → s'.heap.Ns ce.locals m → FpOk X pins H' ce.locals → compEnds (model X.prog X.w) X.A X.xe use Qf (.ref D) ce (.ok .next) s') :
    wpAny (model X.prog X.w) X.A (comprehension (.ListComp elt [⟨tg, iter, ifs, 0⟩] scope pos) scope X.env pos' (newList []) false (eval iter X.env) use) Qf X.xe s := by
  have caps : ∀ y ∈ scope.names, y.2 = .free → ∃ c, X.env.cells.lookup y.1 = some c := fun y hy e => by
    rcases ok.free y hy e with k | k
    · exact I.ok.has _ (.inl k)
    · exact I.ok.has _ (.inr k)
  refine comprehension_at (use := use) rfl hfold (L2.closure_ok caps) ok.kind (fun y hy e => by rw [ok.uniq y hy, e]) (thn (hi.run pins s σ H _ I h) fun xv s1 hx => thn hx fun itv s2 h2 => ?_)
  obtain ⟨it, fp, tn, J, H2, e, I2, Tn, st2, f2, q⟩ := h2
  subst e
  refine wpAny_newObj_type (L2.newEnv_comp ?_) (by show 0 ≤ sizeLine; decide)
  generalize hD : s2.heap.objs.size = D
  obtain ⟨Iv, ⟨m0, w0⟩, turn⟩ := q D (I2.hok.fresh (Nat.le_of_eq hD))
  -- behind the new list
  generalize hs3 : ({ s2 with heap := s2.heap.push { cls := .type "list", data := .seq ([] : List Value).toArray } } : Shared) = s3
  have heap3 : s3.heap = s2.heap.push { cls := .type "list", data := .seq ([] : List Value).toArray } := by rw [← hs3]
  have I3 : Inv X pins σ (upd H2 D (.lst [])) s3 := by
    rw [← hs3]
    refine I2.laid (t' := s2.toks) (fun b o e => Heap.get?_push_of_some _ e) (Nat.le_of_eq hD) ⟨Nat.zero_le _, [], 0, .nil, ?_⟩
    rw [← hD]
    exact Heap.get?_push_size _ rfl
  have low : ∀ b ∈ fp, b < s2.heap.objs.size := fun b hb => by
    obtain ⟨o, e, _⟩ := Tn.obj _ _ st2 b hb
    exact Heap.lt_size e
  have f3 : ∀ b ∈ fp, FpOk X pins (upd H2 D (.lst [])) b ∧ b < s3.heap.objs.size := fun b hb => by
    refine ⟨⟨?_, (f2 b hb).2⟩, by rw [heap3, Heap.size_push]; exact Nat.lt_succ_of_lt (low b hb)⟩
    rw [upd_ne (by rw [← hD]; exact Nat.ne_of_lt (low b hb))]
    exact (f2 b hb).1
  have st3 : tn 0 s3.heap := Tn.keep _ _ _ st2 fun b _ o e => by rw [heap3]; exact Heap.get?_push_of_some _ e
  have I4 := L2.block_start I3 ok nd f3
  generalize hce : compEnvC scope (cellsFrom (s3.heap.objs.size + 1) scope.names (L2.cloFrom X.env.cells scope.names [])) s3.heap.objs.size X.env = ce at I4
  have ceL : ce.locals = s3.heap.objs.size := by subst hce; rfl
  have ceF : ce.frame = X.env.frame := by subst hce; rfl
  have fresh : s3.heap.get? ce.locals = none := by
    rw [ceL]
    cases q : s3.heap.get? s3.heap.objs.size with
    | none => rfl
    | some o => exact absurd (Heap.lt_size q) (Nat.lt_irrefl _)
  show codeAny _ _ (.compStart (.ListComp elt [⟨tg, iter, ifs, 0⟩] scope pos) 0 (.ref it) (.ref D) (compEnvC scope (cellsFrom (s3.heap.objs.size + 1) scope.names (L2.cloFrom X.env.cells scope.names [])) s3.heap.objs.size X.env))
    (compEnds (model X.prog X.w) X.A X.xe use Qf (.ref D) (compEnvC scope (cellsFrom (s3.heap.objs.size + 1) scope.names (L2.cloFrom X.env.cells scope.names [])) s3.heap.objs.size X.env)) { s3 with heap := pushCells (s3.heap.push { cls := .type "dict", data := .dict #[] }) scope.names }
  rw [hce]
  generalize hH3 : upd H2 D (.lst []) = H3 at I3 I4 w0 f3
  generalize hxe : notedBy (model X.prog X.w) X.A ce (fun e s' => compEnds (model X.prog X.w) X.A X.xe use Qf (.ref D) ce (.error e) s') = xb
  have pass : ∀ σ', L2.PassesAt (L2.CX X.prog X.w) (blkE X s3 H3 scope ce fp xb) σ' (fun c d H' => W c d σ H') := fun σ' ps H' s' u s'' J5 cx => by
    show xb u s''
    rw [← hxe]
    exact blk_fails hs hf ceF tk I3 fresh (fun b hb => (f3 b hb).1) J5 cx
  have pg : PG (blkE X s3 H3 scope ce fp xb) tg g := by
    subst hce
    exact hg _ _ _ _ _ _ pass
  have pt : PTs (blkE X s3 H3 scope ce fp xb) ifs tt := by
    subst hce
    exact ht _ _ _ _ _ _ pass
  have pe : PE (blkE X s3 H3 scope ce fp xb) elt te := by
    subst hce
    exact he _ _ _ _ _ _ pass
  have nfp : ∀ b ∈ fp, H3 b = none := fun b hb => (f3 b hb).1.1
  generalize hs4 : ({ s3 with heap := pushCells (s3.heap.push { cls := .type "dict", data := .dict #[] }) scope.names } : Shared) = s4 at I4 ⊢
  have st4 : tn 0 s4.heap := Tn.keep _ _ _ st3 fun b _ o e => by rw [← hs4]; exact pushCells_keeps _ _ _ _ (Heap.get?_push_of_some _ e)
  have foot : ∀ {σ' : L2.St} {H' : Hp} {s' : Shared}, Inv (blkE X s3 H3 scope ce fp xb) [] σ' H' s' → (∀ b ∈ fp, H' b = none) → ∀ b ∈ fp, FpOk (blkE X s3 H3 scope ce fp xb) [] H' b := fun {σ' H' s'} I' hn b hb =>
    ⟨hn b hb, (I'.ok.exf b hb).1, I'.ok.exfs b hb, .inl hb, fun x c e => (I'.ok.exf b hb).2 x c e, fun p hp => absurd (show p ∈ ([] : List (Addr × Obj)) ++ [] from hp) (by simp)⟩
  have loop : codeAny (model X.prog X.w) X.A (.compLoop (.ListComp elt [⟨tg, iter, ifs, 0⟩] scope pos) 0 (.ref it) (.ref D) ce) (compEnds (model X.prog X.w) X.A X.xe use Qf (.ref D) ce) s4 := by
    refine L2.compLoop_any (fun n s' => ∃ i H', Inv (blkE X s3 H3 scope ce fp xb) [] (L2.wipe σ (own.map (·.2))) H' s' ∧ tn i s'.heap ∧ (∀ b ∈ fp, H' b = none) ∧ Iv i n H') ?_ m0 ⟨0, H3, to_blkE I4, st4, nfp, w0⟩
    rw [hxe]
    rintro n s5 ⟨i, H5, I5, st5, n5, w5⟩
    rcases turn i n H5 w5 with ⟨stop, qq⟩ | ⟨go, Nx, hNx, step⟩
    · refine thn (Tn.done (blkE X s3 H3 scope ce fp xb) rfl rfl rfl calm i [] s5 _ H5 xb I5 (foot I5 n5) st5 stop) fun r s6 ⟨hr, I6⟩ => ?_
      subst hr
      have I7 : Inv X pins σ H5 s6 := I3.call' (ch := fp) I6.os I6.base I6.hok I6.bare fun b hb => ⟨(f3 b hb).1.2.2.2.1, (f3 b hb).1.2.1, (f3 b hb).1.2.2.2.2.1, (f3 b hb).1.2.2.2.2.2⟩
      have nC : H5 ce.locals = none := I6.free
      obtain ⟨m, hn, _⟩ := I6.loc
      exact hend D ce s6 m H5 I7 qq hn (I3.fpOk (Nat.le_of_eq ceL.symm) nC)
    · refine thn (Tn.item (blkE X s3 H3 scope ce fp xb) rfl rfl rfl calm i [] s5 _ H5 xb I5 (foot I5 n5) st5 go) fun r s6 ⟨u, hr, h6⟩ => ?_
      subst hr
      refine thn h6 fun _ s7 ⟨x, H7, I7, r7, y7, st7, n7⟩ => ?_
      have I7' := I7.pinned (foot I7 n7) (Tn.obj _ _ st7)
      refine thn (pg.run _ s7 _ H7 x u _ I7' r7 (step x H7 y7)) fun _ s8 ⟨σ8, H8, I8, hw8, q8⟩ => ?_
      refine thn (pt.run _ s8 σ8 H8 _ I8 q8) fun b s9 ⟨H9, I9, q9⟩ => ?_
      have again : ∀ {s' : Shared} {H' : Hp}, Inv (blkE X s3 H3 scope ce fp xb) ([] ++ L2.pinsAt fp s7.heap) σ8 H' s' → Nx H' → ∃ m, m < n ∧ ∃ i H', Inv (blkE X s3 H3 scope ce fp xb) [] (L2.wipe σ (own.map (·.2))) H' s' ∧ tn i s'.heap ∧ (∀ b ∈ fp, H' b = none) ∧ Iv i m H' := fun {s' H'} I' nx => by
        obtain ⟨m', hm, w'⟩ := hNx H' nx
        have still : ∀ b ∈ fp, ∀ o, s7.heap.get? b = some o → s'.heap.get? b = some o ∧ H' b = none := fun b hb o e =>
          let z := I'.pin (b, o) (List.mem_append_right _ (List.mem_append_right _ (L2.mem_pinsAt hb e)))
          ⟨z.1, z.2.1⟩
        have hl : (L2.wipe σ (own.map (·.2))).length = σ8.length := by rw [← hw8, L2.wipe_length]
        refine ⟨m', hm, i + 1, H', (I'.unpinned (pins := [])).weak hl (fun j v e => ?_), Tn.keep _ _ _ st7 fun b hb o e => (still b hb o e).1, fun b hb => ?_, w'⟩
        · rw [← hw8] at e
          exact (L2.wipe_some e).1
        · obtain ⟨o, e, _⟩ := Tn.obj _ _ st7 b hb
          exact (still b hb o e).2
      cases b with
      | false =>
        simp only [Bool.false_eq_true, if_false] at q9 ⊢
        exact again I9 q9
      | true =>
        simp only [if_true] at q9 ⊢
        refine thn (pe.run _ s9 σ8 H9 _ I9 q9) fun z s10 ⟨yv, H10, I10, r10, acc, hD10, hz10, nx⟩ => ?_
        exact L2.app_ok (X := blkE X s3 H3 scope ce fp xb) I10 hD10 hz10 r10 fun s11 I11 => again I11 nx
  exact codeAny_compStart_list loop (Tn.self X.A 0 _ _ _ st4 loop)
/-- what the block's rules are asked for -/
abbrev InBlk (X : Cx) (W : WX) (scope : Scope) (P : Cx → L2.St → Prop) : Prop :=
  ∀ (σ : L2.St) (s : Shared) (H : Hp) (C : Addr) (cl : List (Str × Addr)) (fp : List Addr) (xe : Value → Shared → Prop), (∀ σ', L2.PassesAt (L2.CX X.prog X.w) (blkE X s H scope (compEnvC scope cl C X.env) fp xe) σ' (fun c d H' => W c d σ H')) → P (blkE X s H scope (compEnvC scope cl C X.env) fp xe) σ
variable {T : List (Addr × Str)} {fld : Fld} {Z : Gh}
theorem t_lcp {elt tg iter : Expr} {ifs : List Expr} {own : List (Str × Nat)} {pos : Pos} {it : Env → Out (List D)} {tgt : Tg} {c : Env → Out Bool} {e : Env → Out VT} (hs : X.stack = X.env :: X.outer) (hf : X.env.frame = some X.env.locals) (tk : Takes X W) (calm : X.calm = true) (nd : X.N.Nodup)
    (hi : PI X tg iter (tI X T fld Z it W)) (ok : L2.BlkOk X.N X.env.scope scope own) (ho : ∀ i ∈ tgIx tgt, i ∈ own.map (·.2)) (hg : InBlk X W scope fun Y _ => PG Y tg (gT X.K T Z tgt)) (ht : InBlk X W scope fun Y σ => PTs Y ifs (tT X T fld Z c fun x d _ H => W x d σ H))
    (he : InBlk X W scope fun Y σ => PE Y elt (tE X T fld Z e fun x d _ H => W x d σ H)) (hfold : ∀ x, foldedSetIterable iter X.env x = pure x) :
    PE X (.ListComp elt [⟨tg, iter, ifs, 0⟩] scope pos) (tE X T fld Z (fun ρ => (it ρ).bind fun items ρ => lcAll (own.map (·.2)) (lcTurn tgt c e) items ρ) W) := by
  refine ⟨fun pins s σ H Q I ⟨F, ρ, R, q⟩ => ?_⟩
  rw [eval_ListComp]
  refine lc_run hs hf tk calm nd I hi ok (hg σ) (ht σ) (he σ) hfold (lc_sem (Wb := W) ho ⟨F, ρ, R, Fin.bind q⟩) fun D ce s' m H' I' q' hn f => ⟨m, hn, fun h'' sb => ?_⟩
  obtain ⟨f0, f1, f2, f3, f4, f5⟩ := f
  exact ⟨.ref D, H', I'.turned (t' := s'.toks) (fun b o hb e => (sb.2 b hb).trans e) f0 f1 f3 f4 f5, rfl, q'⟩
/-- name = [..], stored ahead of the block's end -/
theorem s_lcp {elt tg iter : Expr} {ifs : List Expr} {own : List (Str × Nat)} {pos spos py : Pos} {y : Str} {i : Nat} {TS0 : TS} {g : TG} {wi : TI} {tt : TT} {te : L2.St → TE} (hs : X.stack = X.env :: X.outer) (hf : X.env.frame = some X.env.locals) (tk : Takes X W) (calm : X.calm = true) (nd : X.N.Nodup)
    (hy : X.N[i]? = some y) (hyl : X.env.scope.names.lookup y = some .local) (hsw : swapsWith (.ListComp elt [⟨tg, iter, ifs, 0⟩] scope pos) (some (.Name y py)) spos.line X.env = pure true)
    {it : Env → Out (List D)} {tgt : Tg} {c : Env → Out Bool} {e : Env → Out VT} (hi : PI X tg iter (tI X T fld Z it W)) (ok : L2.BlkOk X.N X.env.scope scope own) (ho : ∀ i ∈ tgIx tgt, i ∈ own.map (·.2)) (hg : InBlk X W scope fun Y _ => PG Y tg (gT X.K T Z tgt)) (ht : InBlk X W scope fun Y σ => PTs Y ifs (tT X T fld Z c fun x d _ H => W x d σ H))
    (he : InBlk X W scope fun Y σ => PE Y elt (tE X T fld Z e fun x d _ H => W x d σ H)) (hfold : ∀ x, foldedSetIterable iter X.env x = pure x)
    (hrd : ∀ D σ H, TS0 D σ H → tE X T fld Z (fun ρ => (it ρ).bind fun items ρ => lcAll (own.map (·.2)) (lcTurn tgt c e) items ρ) W σ H fun x H1 => D.nx (σ.set i (some x)) H1) :
    PS X (.Assign [.Name y py] (.ListComp elt [⟨tg, iter, ifs, 0⟩] scope pos) spos) TS0 := by
  refine ⟨fun pins s σ H D I h => ?_⟩
  obtain ⟨F, ρ, R, q⟩ := hrd D σ H h
  rw [exec_Assign_Name_used _ _ _ _ hsw]
  refine wpAny_bind (wpAny_standAt (wpAny_bind ?_))
  show wpAny _ X.A (do let _ ← comprehension (.ListComp elt [⟨tg, iter, ifs, 0⟩] scope pos) scope X.env (firstIterPos [⟨tg, iter, ifs, 0⟩] pos) (newList []) false (eval iter X.env) (some (assign (.Name y py) X.env))) _ _ s
  refine wpAny_bind (thn (lc_run (Qf := fun _ s' => SP X pins D .next s') hs hf tk calm nd I hi ok (hg σ) (ht σ) (he σ) hfold (lc_sem (Wb := W) ho ⟨F, ρ, R, Fin.bind q⟩) fun L ce s' m H' I' q' hn f => ?_) fun _ s' hq => wpAny_pure (wpAny_pure hq))
  show wpAny _ _ (assign (.Name y py) X.env (.ref L)) _ _ _
  refine wpAny_assign_Name (L2.store_ok2 (v := V.ref L) I' nd hy (.inl hyl) rfl (fun s2 I2 ⟨a, sb, ha⟩ => ?_) (.inr hyl))
  obtain ⟨f0, f1, f2, f3, f4, f5⟩ := f
  have far : ce.locals ≠ a := by
    rcases ha with z | z
    · rw [z]; exact f1
    · exact fun e => f4 y a z e.symm
  refine ⟨m, hn.sameBut sb far, fun h3 sb3 => ?_⟩
  exact ⟨_, H', I2.turned (t' := s2.toks) (fun b o hb e => (sb3.2 b hb).trans e) f0 f1 f3 f4 f5, q'⟩
end
end Sw

end
section
set_option maxRecDepth 100000
set_option maxHeartbeats 4000000
namespace Sw
open PySem PySem.Spec PyProof.Rows
open L2 (V Hp HO upd upd_same upd_ne SqL SqT Rd VK XK WX Cx Inv RelV Vals PE PT PW PA PI PS PSs EP TP AP SP TE TT TA TS TI It Takes thn Gl Vis Loc Room OpR CallR TyX PG PGs TG TGs PTs Ends Sp FnOk frs FpOk Un UB HOk XE Zc restrict Names Sky gone_ok XfC pe_xf tXf)
def goneAt (i : Nat) (D : Ends) : Ends := { nx := fun σ' H' => D.nx (σ'.set i none) H', rt := D.rt, bk := fun σ' H' => D.bk (σ'.set i none) H', ct := fun σ' H' => D.ct (σ'.set i none) H' }
def wAll (K : PySem.W.Frag) (i : Nat) (Wo : WX) (D : Ends) : List (Value × (Addr → Value → Option Addr → TS)) → WX
  | [] => Wo
  | (c, ts) :: r => fun cls d σ H => ∃ b, PySem.W.exmOne K cls c = some b ∧ (b = true → ∀ a, H a = none → ts a cls d (goneAt i D) (σ.set i (some (.ref a))) H) ∧ (b = false → wAll K i Wo D r cls d σ H)
inductive HdsAs (X : Cx) (n : Str) : List ExceptHandler → List (Value × (Addr → Value → Option Addr → TS)) → Prop
  | nil : HdsAs X n [] []
  | cons {x : Str} {c : Value} {ts : Addr → Value → Option Addr → TS} {b₀ : Stmt} {suite : List Stmt} {np hp : Pos} {hds : List ExceptHandler} {l : List (Value × (Addr → Value → Option Addr → TS))} (named : Names X x c)
      (su : ∀ (a : Addr) (oe : Obj) (cls : Value) (d : Option Addr) (pn : List (Addr × Obj)), Zc cls d oe → (∃ vs, oe.data = .fields vs) → PSs (X.suite a ((a, oe) :: pn)) (b₀ :: suite) (ts a cls d)) (more : HdsAs X n hds l) :
      HdsAs X n (.ExceptHandler (some (.Name x np)) (some n) (b₀ :: suite) hp :: hds) ((c, ts) :: l)
section
variable {X : Cx} {body : List Stmt} {first : ExceptHandler} {hds : List ExceptHandler} {l : List (Value × (Addr → Value → Option Addr → TS))} {pos : Pos} {tb : WX → TS} {Wo : WX} {n : Str} {i : Nat}
theorem try_all (hs : X.stack = X.env :: X.outer) (hf : X.env.frame = some X.env.locals) (nd : X.N.Nodup) (hi : X.N[i]? = some n) (loc : X.env.kindOf n = some .local) (tk : Takes X Wo)
    (hb : ∀ (W : WX) (pn : List (Addr × Obj)) (xe : Value → Shared → Prop), Takes (X.tr pn xe) W → PassesOwn (model X.prog X.w) X.A X.env xe → PSs (X.tr pn xe) body (tb W))
    (hh : HdsAs X n (first :: hds) l) : PS X (.Try body (first :: hds) [] [] pos) (fun D σ H => tb (wAll X.K i Wo D l) D σ H) := by
  refine ⟨fun pins s σ H D I h => ?_⟩
  have ok := I.ok
  have isloc : Loc X.env.scope n := .inl loc
  have fr : X.A.frames = some (X.env :: X.outer) := by rw [ok.frames, hs]
  refine wpAny_Try_except ?_
  refine wpAny_mono ((hb (wAll X.K i Wo D l) (X.pn ++ pins) (fun e s₁ => wpAny (model X.prog X.w) X.A (noteFrame e X.env) (fun _ s₂ => wpAny (model X.prog X.w) X.A (setFlight e none) (fun _ s₃ =>
    wpAny (model X.prog X.w) X.A (handleBy e X.env (first :: hds)) (SP X pins D) X.xe s₃) X.xe s₂) X.xe s₁) (fun u s' air => ?_) PassesOwn.looking).run [] s σ H D (I.toTry _) h) (fun f s1 hsp => ?_) (fun e s1 he => he)
  · obtain ⟨a, B, sI, pins', σ', H', cls, d, rfl, J0, nb, up, sky, na, os, ag, w⟩ := air
    have J : Inv X pins σ' H' sI := J0.ofTry ok
    rw [show (X.tr (X.pn ++ pins) _).stack = X.env :: X.outer from hs] at sky
    show wpAny (model X.prog X.w) X.A (noteFrame (.ref a) X.env) _ _ _
    refine Sky.land Zc.steady fr hf sky fun h3 fl3 up3 => ?_
    have J3 : Inv X pins σ' H' { s' with heap := h3 } := J.landed nb fl3.1 (up.trans up3) os ag
    obtain ⟨oe3, vs3, he3, hz3, hd3⟩ := fl3.there
    have noFrame : a ∉ frs (X.env :: X.outer) := fun hm => by
      obtain ⟨_, o2, e2, nf⟩ := fl3.2.2.1.mem hm
      rw [he3] at e2; cases e2
      exact nf _ hd3
    have nL : a ≠ X.env.locals := fun z => noFrame (List.mem_filterMap.mpr ⟨X.env, List.mem_cons_self, by rw [hf, z]⟩)
    have nF : a ∉ X.fs := fun hm => by
      obtain ⟨e, he, q⟩ := List.mem_filterMap.mp hm
      exact noFrame (List.mem_filterMap.mpr ⟨e, List.mem_cons_of_mem _ he, q⟩)
    have S3 := J3.suite he3 hd3 na nL nF
    have each : ∀ {hs' : List ExceptHandler} {l' : List (Value × (Addr → Value → Option Addr → TS))}, HdsAs X n hs' l' → wAll X.K i Wo D l' cls d σ' H' →
        wpAny (model X.prog X.w) X.A (handleBy (.ref a) X.env hs') (SP X pins D) X.xe { s' with heap := h3 } := by
      intro hs' l' hk
      induction hk with
      | nil =>
        intro w
        refine wpAny_handleBy_nil ?_
        obtain ⟨_, _, _, oe, vs, Tr, oT, ts', he, _, hd, h1, _⟩ := id fl3
        unfold PySem.passOn
        refine wpAny_bind (wpAny_field he hd h1 ?_)
        rw [if_neg (show ¬ ((Value.ref Tr == Value.none) = true) from by simp)]
        have fin : wpAny (model X.prog X.w) X.A (setFlight (.ref a) X.env.frame) (fun _ s4 => wpAny (model X.prog X.w) X.A (throw (.ref a) : Sem Flow) (SP X pins D) X.xe s4) X.xe { s' with heap := h3 } := by
          rw [hf]
          refine HandSPX.setFlight_upZ fl3 fun h4 held up4 => wpAny_throw (tk _ _ ?_)
          exact ⟨a, B, sI, pins, σ', H', cls, d, rfl, J, nb, (up.trans up3).trans up4, .inr (.inr (by rw [hs]; exact held)), na, os, ag, w⟩
        first
          | exact wpAny_bind (wpAny_pure (wpAny_bind fin))
          | exact wpAny_bind fin
      | @cons x c ts b₀ suite np hp hds2 l2 named su more ih =>
        intro w
        obtain ⟨b, hb1, yes, no⟩ := w
        refine wpAny_handleBy_cons (codeAny_handlers_test ?_) (by intro q; cases q)
        have ty : PySem.W.Looks (model X.prog X.w) h3 (typeOf (.ref a)) cls := fun A Q E s k q => wpAny_typeOf_ref (k _ _ he3) (by rw [hz3.1]; exact q)
        have mt := PySem.W.exm_one (M := model X.prog X.w) J3.kIn ty hb1
        have cls_ : ∀ {Q : Value → Shared → Prop} {E : Value → Shared → Prop}, Q c { s' with heap := h3 } → wpAny (model X.prog X.w) (X.A.mark (some (.ref a))) (eval (.Name x np) X.env) Q E { s' with heap := h3 } := fun {Q E} q => by
          obtain ⟨hg, hdbg, hm | ⟨hm, hv, hnn⟩⟩ := named
          · exact L2.ld_glob (X := X.suite a ((a, oe3) :: (X.pn ++ pins))) S3 hg hm q hdbg
          · exact L2.ld_blt (X := X.suite a ((a, oe3) :: (X.pn ++ pins))) S3 hg hm hv q hnn hdbg
        refine cls_ (mt.here ?_)
        cases b with
        | true =>
          refine codeAny_handlers_suite_as ?_
          refine HandSPX.lands_againZ fl3 fun h4 fl4 up4 => ?_
          have J4 : Inv X pins σ' H' { s' with heap := h4 } := J.landed nb fl4.1 ((up.trans up3).trans up4) os ag
          obtain ⟨oe4, vs4, he4, hz4, hd4⟩ := fl4.there
          have S4 := J4.suite he4 hd4 na nL nF
          refine L2.store_ok (X := X.suite a ((a, oe4) :: (X.pn ++ pins))) (v := .ref a) S4 nd hi isloc rfl (fun s5 S5 => ?_) (.inr loc)
          refine wpAny_mono ((su a oe4 cls d (X.pn ++ pins) hz4 ⟨_, hd4⟩).run [] s5 _ H' _ S5 (yes rfl a na)) (fun f s6 hsp => ?_) (fun _ _ z => False.elim z)
          have ends : ∀ {σ6 : L2.St} {H6 : Hp} {Q : Shared → Prop}, Inv (X.suite a ((a, oe4) :: (X.pn ++ pins))) [] σ6 H6 s6 → (∀ s7, Inv X pins (σ6.set i none) H6 s7 → Q s7) →
              wpAny (model X.prog X.w) X.A (do bindName X.env n .none; unbindBehindTheSuite X.env n hp) (fun _ s7 => Q s7) X.xe s6 := fun {σ6 H6 Q} S6 hq => gone_ok (S6.unsuite ok) nd hi loc hq
          cases f with
          | ret u =>
            obtain ⟨v6, σ6, H6, S6, r6, q6⟩ := hsp
            exact ends S6 fun s7 J7 => ⟨_, _, _, J7, r6, q6⟩
          | next =>
            obtain ⟨σ6, H6, S6, q6⟩ := hsp
            exact ends S6 fun s7 J7 => ⟨_, _, J7, q6⟩
          | cont =>
            obtain ⟨σ6, H6, S6, q6⟩ := hsp
            exact ends S6 fun s7 J7 => ⟨_, _, J7, q6⟩
          | brk =>
            obtain ⟨σ6, H6, S6, q6⟩ := hsp
            exact ends S6 fun s7 J7 => ⟨_, _, J7, q6⟩
        | false =>
          show wpAny _ X.A (handleBy (.ref a) X.env hds2) _ _ _
          exact ih (no rfl)
    exact each hh w
  · cases f with
    | ret u =>
      obtain ⟨v, σ', H', J', r, q⟩ := hsp
      exact ⟨v, σ', H', J'.ofTry ok, r, q⟩
    | next =>
      obtain ⟨σ', H', J', q⟩ := hsp
      exact wpAny_execs_nil ⟨σ', H', J'.ofTry ok, q⟩
    | cont =>
      obtain ⟨σ', H', J', q⟩ := hsp
      exact ⟨σ', H', J'.ofTry ok, q⟩
    | brk =>
      obtain ⟨σ', H', J', q⟩ := hsp
      exact ⟨σ', H', J'.ofTry ok, q⟩
end
def errs : List (Str × Str) := [("BadValue", "at"), ("BadText", "at"), ("NoHouse", "name"), ("TakenHouse", "name"), ("TakenDay", "day"), ("NotDone", "name"), ("TooMuch", "pence"), ("NoRevision", "number")]
def errFld : Fld := fun nm => errs.lookup nm
/-- what the written part says of them: the classes at C 0, C 1, .. -/
structure ErrsOk (K : PySem.W.Frag) (mg : Str → Option Value) (C fI : Nat → Addr) : Prop where
  one : ∀ (i : Nat) (nm fl : Str), errs[i]? = some (nm, fl) → PySem.SwX.ErrC K mg nm fl (C i) (fI i)
  mt : ∀ i j, i < 8 → j < 8 → PySem.W.exmOne K (.ref (C i)) (.ref (C j)) = some (decide (i = j))
section
variable {X : Cx} {T : List (Addr × Str)} {Z : Gh} {W : WX} {σ σ' : L2.St} {F F' H H' : Hp} {ρ ρ' : Env} {K : PySem.W.Frag} {C fI : Nat → Addr}
/-- slot 1 of two -/
def tTwo : TE := fun σ H Q => σ.length = 2 → L2.tVar 1 σ H Q
/-- the suites: return (nm, why.fl) -/
def tSuite (K : PySem.W.Frag) (Ci : Addr) (nm fl : Str) : Addr → Value → Option Addr → TS := fun a cls d => L2.tRet (L2.tTup (L2.tCons (L2.tC (.str nm)) (L2.tCons (tXf a cls d Ci fl tTwo) L2.tNil)))
def suites (K : PySem.W.Frag) (C : Nat → Addr) : Nat → List (Str × Str) → List (Value × (Addr → Value → Option Addr → TS))
  | _, [] => []
  | i, (nm, fl) :: r => (.ref (C i), tSuite K (C i) nm fl) :: suites K C (i + 1) r
/-- the handlers' look -/
def okHds : List ExceptHandler → List (Str × Str) → Bool
  | [], [] => true
  | .ExceptHandler (some (.Name x _)) (some n) [.Return (some (.Tuple [.Constant (.str c) _ _, .Attribute (.Name y _) f _] _ _)) _] _ :: hs, (nm, fl) :: r => decide (x = nm) && decide (n = "why") && decide (c = nm) && decide (y = "why") && decide (f = fl) && okHds hs r
  | _, _ => false
theorem hds_of (E : ErrsOk X.K X.mg C fI) (gl : ∀ p ∈ errs, Gl X p.1) (hN : X.N[1]? = some ("why" : Str)) (h2 : X.N.length = 2) (hv : Vis X.env.scope "why") : ∀ {hds : List ExceptHandler} {r : List (Str × Str)} (i : Nat), okHds hds r = true → (∀ j p, r[j]? = some p → errs[i + j]? = some p) → HdsAs X "why" hds (suites X.K C i r)
  | [], [], i, _, _ => .nil
  | [], _ :: _, i, h, _ => by simp [okHds] at h
  | hd :: hds, [], i, h, _ => by
    unfold okHds at h
    split at h <;> simp_all
  | hd :: hds, (nm, fl) :: r, i, h, hr => by
    unfold okHds at h
    split at h
    · simp_all
    · rename_i x p1 n c p2 p3 y p4 f p5 p6 p7 p8 p9 hs nm' fl' r' e1 e2
      cases e1
      cases e2
      simp only [Bool.and_eq_true, decide_eq_true_eq] at h
      obtain ⟨⟨⟨⟨⟨rfl, rfl⟩, rfl⟩, rfl⟩, rfl⟩, h⟩ := h
      have e := hr 0 _ rfl
      have T1 := E.one i _ _ e
      refine .cons ⟨gl _ (List.mem_of_getElem? e), T1.nd, .inl T1.gC⟩ (fun a oe cls d pn hz hf => ?_) (hds_of E gl hN h2 hv (i + 1) h fun j p q => by
        have := hr (j + 1) p (by simpa using q)
        rw [← this]
        congr 1
        omega)
      exact L2.pss_one (L2.ps_ret (L2.pe_tup (L2.pa_cons L2.pe_str (L2.pa_cons (pe_xf ⟨T1.ga, T1.gg, T1.exC, T1.hdC⟩ T1.noN hz hf ⟨fun pins s σ H Q I h => (L2.pe_var (X := X.suite a ((a, oe) :: pn)) (i := 1) hN hv).run pins s σ H Q I (h (I.len.trans h2))⟩ rfl) L2.pa_nil rfl) rfl)))
    · cases h
/-- told: what is made of a lambda's reading -/
def TTo (K : PySem.W.Frag) (mg : Str → Option Value) : (XK → Hp → VK → Prop) → Hp → VK → Prop := fun tl H Q =>
  tl (fun cls d H' => ∃ (i : Nat) (nm fl : Str) (C dd : Addr) (v : V), errs[i]? = some (nm, fl) ∧ mg nm = some (.ref C) ∧ cls = .ref C ∧ d = some dd ∧ H' dd = some (.xd [(fl, v)]) ∧ ∀ p, H' p = none → Q (.ref p) (upd H' p (.tup [.str nm, v])))
    H (fun v H1 => [V.str "value", v].length ≤ sizeLine ∧ ∀ p, H1 p = none → Q (.ref p) (upd H1 p (.tup [.str "value", v])))
/-- the body's look -/
def okTold : List Stmt → Bool
  | [.Try [.Return (some (.Tuple [.Constant (.str c) _ _, .Call (.Name a _) [] [] _] _ _)) _] (h :: hs) [] [] _] => decide (c = "value") && decide (a = "deed") && okHds (h :: hs) errs
  | _ => false
theorem wAll_at (E : ErrsOk X.K X.mg C fI) {D : Ends} {σ : L2.St} {H : Hp} {d : Option Addr} {Wo : WX} {k : Nat} {nm fl : Str} (hk : errs[k]? = some (nm, fl)) (h : ∀ a, H a = none → tSuite X.K (C k) nm fl a (.ref (C k)) d (goneAt 1 D) (σ.set 1 (some (.ref a))) H) :
    ∀ (r : List (Str × Str)) (i : Nat), (∀ j p, r[j]? = some p → errs[i + j]? = some p) → i ≤ k → k < i + r.length → wAll X.K 1 Wo D (suites X.K C i r) (.ref (C k)) d σ H
  | [], i, _, h1, h2 => by simp at h2; omega
  | (nm', fl') :: r, i, hr, h1, h2 => by
    have e0 := hr 0 _ rfl
    have i8 : i < 8 := (List.getElem?_eq_some_iff.mp e0).1
    have k8 : k < 8 := (List.getElem?_eq_some_iff.mp hk).1
    refine ⟨decide (k = i), E.mt k i k8 i8, fun q a ha => ?_, fun q => ?_⟩
    · have q : k = i := by simpa using q
      subst q
      rw [Nat.add_zero, hk] at e0
      cases e0
      exact h a ha
    · have q : k ≠ i := by simpa using q
      refine wAll_at E hk h r (i + 1) (fun j p q => ?_) (by omega) (by simp at h2; omega)
      have := hr (j + 1) p (by simpa using q)
      rw [← this]
      congr 1
      omega
theorem told_gives {x q : Str} {sg : Scope} {g : Addr} {cdg : Value} {bg : List Stmt} (E : ErrsOk X.K X.mg C fI) (gl : ∀ p ∈ errs, sg.names.lookup p.1 = some .globalImplicit) (lw : sg.names.lookup ("why" : Str) = some NameKind.local) (hb : okTold bg = true) :
    LamX.GivesTo X ["deed", "why"] x sg g cdg bg "deed" q (TTo X.K X.mg) := by
  intro f c' s H Q tl act hc h
  unfold okTold at hb
  split at hb
  · rename_i c p1 p2 a p3 p4 p5 p6 p7 h0 hs p8
    simp only [Bool.and_eq_true, decide_eq_true_eq] at hb
    obtain ⟨⟨rfl, rfl⟩, hh⟩ := hb
    let Y := (L2.cxOf C8.CX0 X.prog X.w X.K X.mg X.base ["deed", "why"] x sg g cdg X.A X.stack s H C8.E0).nox
    have nd : Y.N.Nodup := by show (["deed", "why"] : List Str).Nodup; decide
    have vw : Vis Y.env.scope "why" := .inl lw
    have hds := hds_of (X := Y) E (fun p hp => gl p hp) rfl rfl vw 0 hh fun j p e => by rw [Nat.zero_add]; exact e
    refine ⟨_, L2.pss_one (try_all (X := Y) (i := 1) (n := "why") (Wo := fun _ _ _ _ => False)
      (tb := fun W D σ H => ∃ Ech : XK, (∀ cls d σ' H', Ech cls d H' → W cls d σ' H') ∧ σ[0]? = some (some (.ref f)) ∧ H c' = some (LamX.CodeO c' q) ∧ tl Ech H (fun v H1 => [V.str "value", v].length ≤ sizeLine ∧ ∀ p, H1 p = none → D.rt (.ref p) (upd H1 p (.tup [.str "value", v]))))
      rfl rfl nd rfl lw L2.takes0 (fun W pn xe tk _ => ?_) hds), ?_⟩
    · refine ⟨fun pins s' σ H' D I h' => ?_⟩
      obtain ⟨Ech, hW, h1, h2, h3⟩ := h'
      have hp := act W pn xe Ech p3 p4 tk hW
      have hq := L2.pss_one (L2.ps_ret (pos := p7) (L2.pe_tup (x1 := p5) (pos := p6) (L2.pa_cons (L2.pe_str (j := p1) (pos := p2) (x := "value")) (L2.pa_cons hp L2.pa_nil rfl) rfl)))
      refine hq.run pins s' σ H' D I ⟨h1, h2, h3⟩
    · refine ⟨fun cls d H' => ∃ (i : Nat) (nm fl : Str) (C dd : Addr) (v : V), errs[i]? = some (nm, fl) ∧ X.mg nm = some (.ref C) ∧ cls = .ref C ∧ d = some dd ∧ H' dd = some (.xd [(fl, v)]) ∧ ∀ p, H' p = none → Q (.ref p) (upd H' p (.tup [.str nm, v])), fun cls d σ' H' ⟨i, nm, fl, C0, dd, v, e1, e2, e3, e4, e5, k⟩ => ?_, rfl, hc, h⟩
      have T1 := E.one i nm fl e1
      have eC : C0 = C i := by
        have := T1.gC
        rw [e2] at this
        cases this
        rfl
      subst eC e3 e4
      refine wAll_at (X := X) E e1 (fun a ha => ?_) errs 0 (fun j p e => by rw [Nat.zero_add]; exact e) (Nat.zero_le _) (by rw [Nat.zero_add]; exact (List.getElem?_eq_some_iff.mp e1).1)
      refine fun hl => ⟨.ref a, ?_, rfl, rfl, dd, [(fl, v)], v, rfl, e5, by simp [List.lookup], by show 2 ≤ sizeLine; rw [sizeLine_eq]; decide, k⟩
      rw [List.length_set] at hl
      exact List.getElem?_set_self (by omega)
  · cases hb
end
end Sw

end
section
set_option maxRecDepth 100000
set_option maxHeartbeats 4000000
namespace Sw
open PySem PySem.Spec PyProof.Rows
open L2 (V Hp HO upd upd_same upd_ne SqL SqT Rd VK XK WX Cx Inv RelV Vals PE PT PW PA PI PS PSs EP TP AP SP TE TT TA TS TI It Takes thn Gl Vis Loc Room OpR CallR TyX PG PGs TG TGs PTs Ends Sp FnOk frs)
section
variable {X : Cx} {T : List (Addr × Str)} {Z : Gh} {W : WX} {σ σ' : L2.St} {F F' H H' : Hp} {ρ ρ' : Env} {K : PySem.W.Frag} {C fI : Nat → Addr}
/-- all but the tables stays -/
theorem Rel.ext (R : Rel K T Z F H σ ρ) (e : LamX.ExtN H H') (t : LamX.Tabs T H') : Rel K T Z F H' σ ρ ∧ Stp F H σ ρ F H' ρ := by
  have own : ∀ {i a ds}, Own K F H σ i a ds → Own K F H' σ i a ds := fun x => ⟨x.at_, x.nf, let ⟨vs, q, d⟩ := x.ob; ⟨vs, e _ _ q (fun ps z => by cases z), d⟩⟩
  refine ⟨⟨fun b u q => e b u (R.sub b u q) fun ps z => R.ntb b ps (by rw [q, z]), R.ntb, t, fun b u q n k => e b u (R.keep b u q n k) k, R.old, R.new, R.len, R.pl, fun i ds q => ?_, fun i ds q => ?_, R.mi, R.ap⟩, ⟨fun _ _ h => h, fun b o h _ k => e b o h k, fun _ _ h => .inl h, fun _ h => h⟩⟩
  · obtain ⟨a, x, y⟩ := R.ow i ds q
    exact ⟨a, own x, y⟩
  · obtain ⟨a, x, y⟩ := R.io i ds q
    exact ⟨a, own x, y⟩
/-- what a told lambda gives -/
theorem told_sem {f : Env → Out VT} {Q : VK} (h : ∃ F ρ, Rel X.K T Z F H σ ρ ∧ Fin X T errFld Z W σ F H ρ (told (f ρ)) fun r ρ' F' H' => ∀ v, Rv X.K Z H ρ F' H' σ ρ' v r → Q v H') :
    LamX.tLam T (TTo X.K X.mg) (fun E => tE X T errFld Z f fun c d _ H => E c d H) σ H Q := by
  obtain ⟨F, ρ, R, q⟩ := h
  refine ⟨R.tab, fun H1 e t => ?_⟩
  obtain ⟨R0, S0⟩ := R.ext e t
  refine ⟨F, ρ, R0, ?_⟩
  -- a pair of a word and data
  have pair : ∀ {F' H' : Hp} {ρ' : Env} {s : String} {v : V} {d : D}, Rel X.K T Z F' H' σ ρ' → Stp F H1 σ ρ F' H' ρ' → Rp X.K F' v d → (∀ F'' H'', Rel X.K T Z F'' H'' σ ρ' → Stp F H σ ρ F'' H'' ρ' → ∀ u, Rp X.K F'' u (.tuple [.str (Str.ofString s), d]) → Q u H'') →
      ∀ p, H' p = none → Q (.ref p) (upd H' p (.tup [.str (Str.ofString s), v])) := fun {F' H' ρ' s v d} R' S' r k p hp => by
    obtain ⟨F2, R2, S2, w⟩ := k_tup R' hp (.cons (.str (Str.ofString s)) (.cons r .nil))
    exact k F2 _ R2 (S0.trans R0 (S'.trans R' S2)) _ w
  cases e1 : f ρ with
  | no => rw [e1] at q; exact q.elim
  | ok r ρ1 =>
    rw [e1] at q
    intro F' H' R' S' v rv
    obtain ⟨F2, R2, S2, _, d⟩ := freeze R' S' rv
    exact ⟨by show 2 ≤ sizeLine; rw [sizeLine_eq]; decide, pair (s := "value") R2 S2 d fun F'' H'' R'' S'' u w => q F'' H'' R'' S'' u w⟩
  | er x ρ1 =>
    rw [e1] at q
    intro c d F' H' R' S' xv
    obtain ⟨C, dd, fl, v, x1, x2, x3, x4, x5, x6⟩ := xv
    have hm : ∃ i : Nat, errs[i]? = some (x.nm, fl) := by
      have : (x.nm, fl) ∈ errs := PySem.mem_of_lookup x3
      exact List.getElem?_of_mem this
    obtain ⟨i, hi⟩ := hm
    refine ⟨i, x.nm, fl, C, dd, v, hi, x2, x1, x4, x5, fun p hp => ?_⟩
    obtain ⟨F2, R2, S2, w⟩ := k_tup R' hp (.cons (.str x.nm) (.cons x6 .nil))
    exact q F2 _ R2 (S0.trans R0 (S'.trans R' S2)) _ w
theorem t_tol {body : Expr} {params : Arguments} {scope : Scope} {f : Env → Out VT} {x : Str} {g P : Addr} {k : Nat} {pg : Arguments} {bg : List Stmt} {sg : Scope} {dV kV doc pm cdv ct oc : Value} {an od : Option Addr} {osl : Array (Option Value)} {p lpos pos : Pos}
    (E : ErrsOk X.K X.mg C fI) (hg : Gl X x) (hm : X.mg x = some (.ref g)) (hk : PySem.W.keepIn X.K (.ref g) = true)
    (lk : X.K.lookup g = some ⟨oc, od, .func (PySem.W.fnOf x x pg bg sg dV kV doc pm an cdv ct), osl⟩) (hcg : PySem.W.codeIn X.K cdv x = true) (hb : L2.Binds X.K (PySem.W.fnOf x x pg bg sg dV kV doc pm an cdv ct) ["deed"] [])
    (Sg : L2.FnScope ["deed", "why"] ["deed"] sg) (gl : ∀ p ∈ errs, sg.names.lookup p.1 = some .globalImplicit) (lw : sg.names.lookup ("why" : Str) = some NameKind.local) (ld : sg.names.lookup ("deed" : Str) = some NameKind.local) (look : okTold bg = true)
    {cc : Addr} (TB : LamX.TabB X.base X.mg cc P) (hcode : X.env.code = .ref cc) (hmT : (P, X.env.qual ++ "<lambda>") ∈ T) (hu : ∀ p ∈ T, p.1 = P → p.2 = X.env.qual ++ "<lambda>") (hr : Room (k + 2) X.A) (L : LamX.LamS X.env.scope scope) (hdef : defaultsOf params X.env = ([], []))
    (hbind : ∀ (q : Str) (cl : List (Str × Addr)) (pm cv ctv : Value), bindArgs (PySem.W.kla_fn "<lambda>" q params body scope cl pm cv ctv) ⟨[], []⟩ = pure [])
    (hbody : ∀ (A : Around) (outer : List PySem.Env) (s : Shared) (H : Hp) (E : XK) (f' c' : Addr), Room k (A.deeper (LamX.lamEnv X scope s.heap.objs.size f' c')) → PE (LamX.lamCx X A outer s H E scope f' c') body (tE X T errFld Z f fun c d _ H => E c d H))
    (hdb : (x == ("__debug__" : Str)) = false) :
    PE X (.Call (.Name x p) [.Lambda params body scope lpos] [] pos) (tE X T errFld Z (fun ρ => told (f ρ)) W) :=
  PE.imp (LamX.pe_lamcall (a := "deed") (Ng := ["deed", "why"]) hg hm hk lk hcg hb Sg rfl (.inl ld) (told_gives E gl lw look) TB hcode hmT hu hr L hdef hbind hbody hdb (by decide) (by decide)) fun σ H Q h => told_sem h
end
end Sw

end
section
set_option maxRecDepth 100000
set_option maxHeartbeats 4000000
namespace Sw
open PySem PySem.Spec PyProof.Rows
open L2 (V Hp HO upd upd_same upd_ne SqL SqT Rd VK XK WX Cx Inv RelV Vals PE PT PW PA PI PS PSs EP TP AP SP TE TT TA TS TI It Takes thn Gl Vis Loc Room OpR CallR TyX PG PGs TG TGs PTs Ends Sp FnOk frs)
/-- where a look stands: the scope, at a def's own level, in a text that may make lambdas -/
structure Cf where
  sc : Scope
  top : Bool
  la : Bool
/-- what is known of the module -/
structure Md where
  N : List Str
  Γ : List Df
  gls : List (Str × D)
  bls : List Str
  mts : List (Str × String)
/-- a look at a term: as a value, as a test, as arguments, as what is walked -/
structure Ob where
  e : Cf → Expr → Bool
  t : Cf → Expr → Bool
  s : Cf → List Expr → Bool
  i : Cf → Expr → Expr → Bool
mutual
def sameD : D → D → Bool
  | .none, .none => true
  | .bool a, .bool b => decide (a = b)
  | .int a, .int b => decide (a = b)
  | .str a, .str b => decide (a = b)
  | .list a, .list b => sameDs a b
  | .tuple a, .tuple b => sameDs a b
  | _, _ => false
def sameDs : List D → List D → Bool
  | [], [] => true
  | a :: r, b :: s => sameD a b && sameDs r s
  | _, _ => false
end
mutual
theorem sameD_eq : ∀ {a b : D}, sameD a b = true → a = b
  | .none, .none, _ => rfl
  | .bool a, .bool b, h => by simp [sameD] at h; rw [h]
  | .int a, .int b, h => by simp [sameD] at h; rw [h]
  | .str a, .str b, h => by simp [sameD] at h; rw [h]
  | .list a, .list b, h => by rw [@sameDs_eq a b (by simpa [sameD] using h)]
  | .tuple a, .tuple b, h => by rw [@sameDs_eq a b (by simpa [sameD] using h)]
  | .none, .bool _, h | .none, .int _, h | .none, .str _, h | .none, .list _, h | .none, .tuple _, h | .none, .dict _, h => by simp [sameD] at h
  | .bool _, .none, h | .bool _, .int _, h | .bool _, .str _, h | .bool _, .list _, h | .bool _, .tuple _, h | .bool _, .dict _, h => by simp [sameD] at h
  | .int _, .none, h | .int _, .bool _, h | .int _, .str _, h | .int _, .list _, h | .int _, .tuple _, h | .int _, .dict _, h => by simp [sameD] at h
  | .str _, .none, h | .str _, .bool _, h | .str _, .int _, h | .str _, .list _, h | .str _, .tuple _, h | .str _, .dict _, h => by simp [sameD] at h
  | .list _, .none, h | .list _, .bool _, h | .list _, .int _, h | .list _, .str _, h | .list _, .tuple _, h | .list _, .dict _, h => by simp [sameD] at h
  | .tuple _, .none, h | .tuple _, .bool _, h | .tuple _, .int _, h | .tuple _, .str _, h | .tuple _, .list _, h | .tuple _, .dict _, h => by simp [sameD] at h
  | .dict _, .none, h | .dict _, .bool _, h | .dict _, .int _, h | .dict _, .str _, h | .dict _, .list _, h | .dict _, .tuple _, h | .dict _, .dict _, h => by simp [sameD] at h
theorem sameDs_eq : ∀ {a b : List D}, sameDs a b = true → a = b
  | [], [], _ => rfl
  | a :: r, b :: s, h => by
    have h2 := Bool.and_eq_true_iff.mp (by simpa [sameDs] using h)
    rw [sameD_eq h2.1, sameDs_eq h2.2]
  | [], _ :: _, h | _ :: _, [], h => by simp [sameDs] at h
end
def plainName (x : Str) : Bool := !(x == ("__debug__" : Str)) && !(x == ("__classdict__" : Str))
def visB (sc : Scope) (x : Str) : Bool := match sc.names.lookup x with
  | some .local => true
  | some .cell => true
  | some .free => true
  | _ => false
def glB (sc : Scope) (x : Str) : Bool := match sc.names.lookup x with
  | some .globalImplicit => true
  | _ => false
def slotB (M : Md) (sc : Scope) (i : Nat) : Expr → Bool
  | .Name x _ => decide (M.N[i]? = some x) && visB sc x && plainName x
  | _ => false
def plainT : Expr → Bool
  | .UnaryOp .Not _ _ => false
  | .BoolOp _ _ _ => false
  | .IfExp _ _ _ _ => false
  | .Compare _ _ _ _ => false
  | _ => true
def notSet : Expr → Bool
  | .Set _ _ _ => false
  | _ => true
def notStar : Expr → Bool
  | .Starred _ _ => false
  | _ => true
def plainIxB : Expr → Bool
  | .Slice _ _ _ _ => false
  | _ => true
def noOb : Ob := ⟨fun _ _ => false, fun _ _ => false, fun _ _ => false, fun _ _ _ => false⟩
def val (p : Cf → Expr → Bool) : Ob := ⟨p, fun c e => plainT e && p c e, fun _ _ => false, fun c _ e => notSet e && p c e⟩
def lst (p : Cf → List Expr → Bool) : Ob := { noOb with s := p }
def itr (p : Cf → Expr → Expr → Bool) : Ob := { noOb with i := p }
def cstB : D → Expr → Bool
  | .int i, .Constant (.int j) _ _ => decide (i = j)
  | .str i, .Constant (.str j) _ _ => decide (i = j)
  | .bool i, .Constant (.bool j) _ _ => decide (i = j)
  | .none, .Constant .none _ _ => true
  | _, _ => false
def opB (M : Md) (t : Tm) (o : Ob) (c : Cf) (e : Expr) : Bool := match t with
  | .bor i => slotB M c.sc i e
  | _ => o.e c e
def partB (t : Tm) (o : Ob) (c : Cf) : Option Expr → Bool
  | none => match t with
    | .nl => true
    | _ => false
  | some e => match t with
    | .nl => false
    | _ => o.e c e
/-- a name of a built-in function -/
def bfNm : Bf → Option (Str × Bool)
  | .len => some ("len", false) | .tuple => some ("tuple", false) | .list => some ("list", false) | .int => some ("int", false) | .min => some ("min", false) | .max => some ("max", false) | .abs => some ("abs", false)
  | .sum => some ("sum", false) | .all => some ("all", false) | .any => some ("any", false) | .sorted => some ("sorted", false) | .divmod => some ("divmod", false) | .isqrt => some ("isqrt", true) | .gcd => some ("gcd", true)
  | _ => none
def bfB (M : Md) (f : Bf) (x : Str) : Bool := match bfNm f with
  | some (y, false) => decide (x = y) && M.bls.contains x
  | some (y, true) => decide (x = y) && M.mts.contains (x, match f with | .gcd => "math.gcd" | _ => "math.isqrt")
  | none => false
def tyNm : Ty → Str
  | .int => "int" | .bool => "bool" | .str => "str" | .list => "list" | .tuple => "tuple"
def tyB (M : Md) (c : Cf) (t : Ty) : Expr → Bool
  | .Name y _ => decide (y = tyNm t) && glB c.sc y && M.bls.contains y
  | _ => false
def tysB (M : Md) (c : Cf) : List Ty → List Expr → Bool
  | [], [] => true
  | t :: ts, e :: es => tyB M c t e && tysB M c ts es
  | _, _ => false
def isiB (M : Md) (c : Cf) (f : Bf) (e : Expr) : Bool := match f with
  | .isi t => tyB M c t e
  | .isis ts => match e with
    | .Tuple es _ _ => tysB M c ts es && decide (ts.length ≤ 1000)
    | _ => false
  | _ => false
def isOneT : Tm → Option Tm
  | .cs a .nl => some a
  | _ => none
def tgB (M : Md) (sc : Scope) (okc : Str → Bool) : Tg → Expr → Bool
  | .nm i, .Name x _ => decide (M.N[i]? = some x) && (match sc.names.lookup x with | some .local => true | some .cell => okc x | _ => false)
  | .tp ts, .Tuple es _ _ => tgsB ts es
  | _, _ => false
where tgsB : Tg → List Expr → Bool
  | .nl, [] => true
  | .cs t ts, e :: es => notStar e && tgB M sc okc t e && tgsB ts es
  | _, _ => false
def ownOf (M : Md) (own : List Nat) : List (Str × Nat) := own.map fun i => ((M.N[i]?).getD "", i)
def noParams : Arguments → Bool
  | ⟨[], [], none, [], [], none, []⟩ => true
  | _ => false
def ifsB (t : Tm) (o : Ob) (c : Cf) : List Expr → Bool
  | [] => match t with
    | .nl => true
    | _ => false
  | [e] => match t with
    | .nl => false
    | _ => o.t c e
  | _ => false
def inB (M : Md) (c : Cf) (own : List Nat) (tgt : Tg) (tc : Tm) (oi oc oe : Ob) (elt : Expr) (g : Comprehension) (scope : Scope) : Bool :=
  match g with
  | ⟨tg, iter, ifs, 0⟩ => oi.i c tg iter && L2.blkC M.N c.sc scope (ownOf M own) && (tgIx tgt).all (fun i => own.contains i) && tgB M (L2.relS scope c.sc) (fun x => scope.names.lookup x == some .cell) tgt tg && ifsB tc oc ⟨L2.relS scope c.sc, false, c.la⟩ ifs && oe.e ⟨L2.relS scope c.sc, false, c.la⟩ elt && notSet iter
  | _ => false
def notP (p : Expr → Bool) : Expr → Bool
  | .UnaryOp .Not x _ => p x
  | _ => false
def cmpP (o : Co) (p q : Expr → Bool) : Expr → Bool
  | .Compare x [op] [y] _ => decide (op = coOf o) && !behindInMarks op y && p x && q y
  | _ => false
def chnP (o o' : Co) (p q r : Expr → Bool) : Expr → Bool
  | .Compare x [op, op'] [y, z] _ => decide (op = coOf o) && decide (op' = coOf o') && !lastMarks [op, op'] [y, z] && p x && q y && r z
  | _ => false
def andP (k : PySem.BoolOp) (p q : Expr → Bool) : Expr → Bool
  | .BoolOp op [x, y] _ => decide (op = k) && p x && q y
  | .BoolOp op (x :: y :: r) pos => decide (op = k) && p x && q (.BoolOp op (y :: r) pos)
  | _ => false
def plainArgs : Tm → Bool
  | .nl => true
  | .cs _ r => plainArgs r
  | _ => false
def tupTg : Expr → Bool
  | .Tuple _ _ _ => true
  | _ => false
def ob (M : Md) : Tm → Ob
  | .var i => val fun c e => slotB M c.sc i e
  | .mov i => val fun c e => slotB M c.sc i e
  | .bor i => { noOb with t := fun c e => slotB M c.sc i e }
  | .cst d => val fun _ e => cstB d e
  | .glb x d => val fun c e => match e with
    | .Name y _ => decide (y = x) && glB c.sc x && plainName x && M.gls.any fun p => decide (p.1 = x) && sameD p.2 d
    | _ => false
  | .bin o a b => val fun c e => match e with
    | .BinOp x op y _ => decide (op = opOf o) && opB M a (ob M a) c x && opB M b (ob M b) c y
    | _ => false
  | .neg a => val fun c e => match e with
    | .UnaryOp .USub x _ => (ob M a).e c x
    | _ => false
  | .not a => { noOb with e := fun c e => notP (opB M a (ob M a) c) e, t := fun c e => notP ((ob M a).t c) e }
  | .cmp o a b => { noOb with e := fun c e => cmpP o (opB M a (ob M a) c) (opB M b (ob M b) c) e, t := fun c e => cmpP o (opB M a (ob M a) c) (opB M b (ob M b) c) e }
  | .chn o o' a b d => { noOb with e := fun c e => chnP o o' ((ob M a).e c) ((ob M b).e c) ((ob M d).e c) e, t := fun c e => chnP o o' ((ob M a).e c) ((ob M b).e c) ((ob M d).e c) e }
  | .and a b => { noOb with e := fun c e => andP .And ((ob M a).e c) ((ob M b).e c) e, t := fun c e => andP .And ((ob M a).t c) ((ob M b).t c) e }
  | .or a b => { noOb with e := fun c e => andP .Or ((ob M a).e c) ((ob M b).e c) e, t := fun c e => andP .Or ((ob M a).t c) ((ob M b).t c) e }
  | .ite c a b => { val (fun k e => match e with
    | .IfExp x y z _ => (ob M c).t k x && (ob M a).e k y && (ob M b).e k z
    | _ => false) with t := fun _ _ => false }
  | .tup es => val fun c e => match e with
    | .Tuple xs _ _ => (ob M es).s c xs
    | _ => false
  | .lst es => val fun c e => match e with
    | .List xs _ => (ob M es).s c xs
    | _ => false
  | .nl => lst fun _ es => match es with
    | [] => true
    | _ => false
  | .cs a es => lst fun c xs => match xs with
    | x :: r => notStar x && opB M a (ob M a) c x && (ob M es).s c r
    | [] => false
  | .io i es => lst fun c xs => match xs with
    | x :: r => notStar x && slotB M c.sc i x && (ob M es).s c r
    | [] => false
  | .idx a b => val fun c e => match e with
    | .Subscript x y _ => plainIxB y && opB M a (ob M a) c x && opB M b (ob M b) c y
    | _ => false
  | .sli a lo hi => val fun c e => match e with
    | .Subscript x (.Slice l h none _) _ => opB M a (ob M a) c x && partB lo (ob M lo) c l && partB hi (ob M hi) c h
    | _ => false
  | .cal f es => val fun c e => match e with
    | .Call (.Name x _) xs [] _ => (match M.Γ[f]? with | some df => decide (df.nm = x) && !(x == ("_law_told" : Str)) | none => false) && glB c.sc x && plainName x && (match xs, es with | [], .nl => true | _ :: _, _ => xs.all notStar && (ob M es).s c xs | _, _ => false)
    | _ => false
  | .blt f es => val fun c e => match e with
    | .Call (.Name x _) xs [] _ => glB c.sc x && plainName x &&
      ((bfB M f x && (match xs with | _ :: _ => xs.all notStar && (ob M es).s c xs | [] => false)) ||
       (decide (x = ("isinstance" : Str)) && M.bls.contains x && plainArgs es && (match xs with | [y, z] => (ob M es).s c [y] && isiB M c f z | _ => false)))
    | _ => false
  | .lcp own tg it tc te => val fun c e => match e with
    | .ListComp elt [g] scope _ => c.top && inB M c own tg tc (ob M it) (ob M tc) (ob M te) elt g scope
    | _ => false
  | .lcn own tg it tc te => val fun c e => match e with
    | .ListComp elt [g] scope _ => inB M c own tg tc (ob M it) (ob M tc) (ob M te) elt g scope
    | _ => false
  | .rng es => itr fun c _ e => match e with
    | .Call (.Name x _) xs [] _ => decide (x = ("range" : Str)) && glB c.sc x && M.bls.contains x && plainArgs es && (match xs with | [_] => (ob M es).s c xs | [_, _] => (ob M es).s c xs | [_, _, _] => (ob M es).s c xs | _ => false)
    | _ => false
  | .enu a => itr fun c tg e => match e with
    | .Call (.Name x _) [y] [] _ => decide (x = ("enumerate" : Str)) && glB c.sc x && M.bls.contains x && tupTg tg && notStar y && (ob M a).e c y
    | _ => false
  | .zip a b => itr fun c tg e => match e with
    | .Call (.Name x _) [y, z] [] _ => decide (x = ("zip" : Str)) && glB c.sc x && M.bls.contains x && tupTg tg && notStar y && notStar z && (ob M a).e c y && (ob M b).e c z
    | _ => false
  | .sset own tg it tc te => val fun c e => match e with
    | .Call (.Name x _) [.SetComp elt [g] scope _] [] _ => decide (x = ("sorted" : Str)) && glB c.sc x && M.bls.contains x && (c.top && inB M c own tg tc (ob M it) (ob M tc) (ob M te) elt g scope)
    | _ => false
  | .lset a => val fun c e => match e with
    | .Call (.Name x _) [.Call (.Name y _) [z] [] _] [] _ => decide (x = ("len" : Str)) && decide (y = ("set" : Str)) && glB c.sc x && glB c.sc y && M.bls.contains x && M.bls.contains y && notStar z && (ob M a).e c z
    | _ => false
  | .rev a => itr fun c _ e => match e with
    | .Call (.Name x _) [y] [] _ => decide (x = ("reversed" : Str)) && glB c.sc x && M.bls.contains x && notStar y && (ob M a).e c y
    | _ => false
  | .revr a => itr fun c _ e => match e with
    | .Call (.Name x _) [.Call (.Name y _) [z] [] _] [] _ => decide (x = ("reversed" : Str)) && decide (y = ("range" : Str)) && glB c.sc x && glB c.sc y && M.bls.contains x && M.bls.contains y && notStar z && (ob M a).e c z
    | _ => false
  | .lrev a => val fun c e => match e with
    | .Call (.Name x _) [.Call (.Name y _) [z] [] _] [] _ => decide (x = ("list" : Str)) && decide (y = ("reversed" : Str)) && glB c.sc x && glB c.sc y && M.bls.contains x && M.bls.contains y && notStar z && (ob M a).e c z
    | _ => false
  | .lrng a => val fun c e => match e with
    | .Call (.Name x _) [.Call (.Name y _) [z] [] _] [] _ => decide (x = ("list" : Str)) && decide (y = ("range" : Str)) && glB c.sc x && glB c.sc y && M.bls.contains x && M.bls.contains y && notStar z && (ob M a).e c z
    | _ => false
  | .trng a => val fun c e => match e with
    | .Call (.Name x _) [.Call (.Name y _) [z] [] _] [] _ => decide (x = ("tuple" : Str)) && decide (y = ("range" : Str)) && glB c.sc x && glB c.sc y && M.bls.contains x && M.bls.contains y && notStar z && (ob M a).e c z
    | _ => false
  | .mnd a => val fun c e => match e with
    | .Call (.Name x _) [y] [⟨some kw, .Constant .none _ _, _⟩] _ => decide (x = ("min" : Str)) && decide (kw = ("default" : Str)) && glB c.sc x && M.bls.contains x && notStar y && (ob M a).e c y
    | _ => false
  | .pop i => val fun c e => match e with
    | .Call (.Attribute (.Name n np) m p) [] [] q => decide (m = ("pop" : Str)) && (p.endLine == q.line) && slotB M c.sc i (.Name n np)
    | _ => false
  | .rvl a => val fun c e => match e with
    | .Subscript (.Name n np) (.Slice none none (some (.UnaryOp .USub (.Constant (.int j) _ _) _)) _) _ => decide (j = 1) && (ob M a).e c (.Name n np)
    | _ => false
  | .idn a b => val fun c e => match e with
    | .Call (.Attribute (.Name n np) m p) [x] [] q => decide (m = ("index" : Str)) && (p.endLine == q.line) && notStar x && (ob M a).e c (.Name n np) && (ob M b).e c x
    | _ => false
  | .tol b => val fun c e => match e with
    | .Call (.Name x _) [.Lambda params body scope _] [] _ => decide (x = ("_law_told" : Str)) && c.la && glB c.sc x && noParams params && LamX.lamSB c.sc scope && (ob M b).e ⟨scope, true, false⟩ body
    | _ => false
end Sw

end
section
set_option maxRecDepth 100000
set_option maxHeartbeats 4000000
namespace Sw
open PySem PySem.Spec PyProof.Rows
open L2 (V Hp HO upd upd_same upd_ne SqL SqT Rd VK XK WX Cx Inv RelV Vals PE PT PW PA PI PS PSs EP TP AP SP TE TT TA TS TI It Takes thn Gl Vis Loc Room OpR CallR TyX PG PGs TG TGs PTs Ends Sp FnOk frs)
/-- the def that tells -/
structure ToldOk (K : PySem.W.Frag) (mg : Str → Option Value) : Prop where
  ex : ∃ (g : Addr) (pg : Arguments) (bg : List Stmt) (sg : Scope) (dV kV doc pm cdv ct oc : Value) (an od : Option Addr) (osl : Array (Option Value)),
    mg "_law_told" = some (.ref g) ∧ PySem.W.keepIn K (.ref g) = true ∧ K.lookup g = some ⟨oc, od, .func (PySem.W.fnOf "_law_told" "_law_told" pg bg sg dV kV doc pm an cdv ct), osl⟩ ∧ PySem.W.codeIn K cdv "_law_told" = true ∧
    L2.Binds K (PySem.W.fnOf "_law_told" "_law_told" pg bg sg dV kV doc pm an cdv ct) ["deed"] [] ∧ L2.FnScope ["deed", "why"] ["deed"] sg ∧ (∀ p ∈ errs, sg.names.lookup p.1 = some .globalImplicit) ∧ sg.names.lookup ("why" : Str) = some NameKind.local ∧
    sg.names.lookup ("deed" : Str) = some NameKind.local ∧ okTold bg = true
/-- what is known of the module, where callees stand at the level k -/
structure ModOk (M : Md) (T : List (Addr × Str)) (cl : Nat → List Ar → Ret) (k : Nat) (P : Program) (w : World) (K : PySem.W.Frag) (mg : Str → Option Value) (base : Heap) : Prop where
  fn : ∀ f df, M.Γ[f]? = some df → df.nm ≠ ("_law_told" : Str) → ∃ a fd, mg df.nm = some (.ref a) ∧ PySem.W.keepIn K (.ref a) = true ∧ L2.Binds K fd df.ps [] ∧ FnOk P w K mg base (L2.CX P w) k a fd df.ps (spRun K T mg errFld df.io df.ps.length (cl f))
  io : ∀ f df, M.Γ[f]? = some df → ∀ as, cl f as ≠ .no → df.io = ioPos 0 as ∧ as.length = df.ps.length
  glb : ∀ p ∈ M.gls, GlbOk K mg p.1 p.2
  bl : ∀ x ∈ M.bls, mg x = none
  mt : ∀ p ∈ M.mts, mg p.1 = some (.builtin p.2)
  er : ∃ C fI, ErrsOk K mg C fI
  told : ToldOk K mg
structure Gd (M : Md) (T : List (Addr × Str)) (cl : Nat → List Ar → Ret) (k : Nat) (X : Cx) (W : WX) (c : Cf) : Prop where
  mod : ModOk M T cl k X.prog X.w X.K X.mg X.base
  calm : X.calm = true
  nd : X.N.Nodup
  hN : X.N = M.N
  hsc : X.env.scope = c.sc
  kind : c.sc.kind = .function
  room : Room (k + 2) X.A
  pass : ∀ σ, L2.PassesAt (L2.CX X.prog X.w) X σ (L2.WE W σ)
  top : c.top = true → X.stack = X.env :: X.outer ∧ X.env.frame = some X.env.locals ∧ Takes X W
  lam : c.la = true → Room (k + 4) X.A ∧ ∃ cc P, LamX.TabB X.base X.mg cc P ∧ X.env.code = .ref cc ∧ (P, X.env.qual ++ "<lambda>") ∈ T ∧ ∀ p ∈ T, p.1 = P → p.2 = X.env.qual ++ "<lambda>"
  kp : 2 ≤ k
section
variable {M : Md} {T : List (Addr × Str)} {cl : Nat → List Ar → Ret} {k : Nat} {X : Cx} {W : WX} {c : Cf} {Z : Gh}
theorem visB_is {sc : Scope} {x : Str} (h : visB sc x = true) : Vis sc x := by
  unfold visB at h
  split at h
  · exact .inl (by assumption)
  · exact .inr (.inl (by assumption))
  · exact .inr (.inr (by assumption))
  · cases h
theorem glB_is {sc : Scope} {x : Str} (h : glB sc x = true) : sc.names.lookup x = some .globalImplicit := by
  unfold glB at h
  split at h
  · assumption
  · cases h
theorem Gd.gl (G : Gd M T cl k X W c) {x : Str} (h : glB c.sc x = true) : Gl X x := by
  show X.env.scope.names.lookup x = _
  rw [G.hsc]
  exact glB_is h
theorem plain_is {x : Str} (h : plainName x = true) : (x == ("__debug__" : Str)) = false ∧ (x == ("__classdict__" : Str)) = false := by
  unfold plainName at h
  simpa using h
theorem Gd.slot (G : Gd M T cl k X W c) {i : Nat} {e : Expr} (h : slotB M c.sc i e = true) : PE X e (L2.tVar i) := by
  unfold slotB at h
  split at h
  · simp only [Bool.and_eq_true, decide_eq_true_eq] at h
    obtain ⟨⟨h1, h2⟩, h3⟩ := h
    obtain ⟨p1, p2⟩ := plain_is h3
    exact L2.pe_var (by rw [G.hN]; exact h1) (by rw [G.hsc]; exact visB_is h2) p1 p2
  · cases h
theorem star_cons {e : Expr} {es : List Expr} {env : PySem.Env} (h : notStar e = true) : starEach (e :: es) env = (false, eval e env) :: starEach es env := by
  cases e <;> first | rfl | cases h
theorem star_all : ∀ {es : List Expr} {env : PySem.Env} {pos : Pos}, es.all notStar = true → (backTo pos (starEach es env)).any (·.1) = false
  | [], env, pos, _ => rfl
  | e :: es, env, pos, h => by
    obtain ⟨h1, h2⟩ := Bool.and_eq_true_iff.mp (show (notStar e && es.all notStar) = true from h)
    rw [star_cons h1]
    show (false || (backTo pos (starEach es env)).any (·.1)) = false
    rw [star_all h2]
    rfl
theorem plainT_is {e : Expr} {env : PySem.Env} (h : plainT e = true) (whole : Sem Value) : isTrue e env whole = (do let v ← whole; standAt e.pos; holding [v] (truthy v)) := by
  cases e with
  | UnaryOp op x pos => cases op <;> first | rfl | cases h
  | BoolOp op x pos => cases h
  | IfExp a b d pos => cases h
  | Compare a b d pos => cases h
  | _ => rfl
theorem notSet_is {e : Expr} {env : PySem.Env} (h : notSet e = true) (x : Value) : foldedSetIterable e env x = pure x := by
  cases e <;> first | rfl | cases h
theorem plainIx_is {e : Expr} (h : plainIxB e = true) : L2.PlainIx e := by
  intro o i
  cases e <;> first | rfl | cases h
theorem cst_is {d : D} {e : Expr} (h : cstB d e = true) : Cst e d := by
  unfold cstB at h
  split at h
  · simp at h; subst h; exact .int
  · simp at h; subst h; exact .str
  · simp at h; subst h; exact .bool
  · exact .none
  · cases h
/-- the four readings of a term in one -/
structure Four (M : Md) (T : List (Addr × Str)) (cl : Nat → List Ar → Ret) (Z : Gh) (X : Cx) (W : WX) (c : Cf) (o : Ob) (b : Bn) : Prop where
  e : ∀ e, o.e c e = true → PE X e (tE X T errFld Z b.v W)
  t : ∀ e, o.t c e = true → PT X e (tT X T errFld Z b.t W)
  s : ∀ es, o.s c es = true → PA X es (tAs X T errFld Z b.s W)
  i : ∀ tg e, o.i c tg e = true → PI X tg e (tI X T errFld Z b.i W)
theorem four_val {p : Cf → Expr → Bool} {f : Env → Out VT} (h : ∀ e, p c e = true → PE X e (tE X T errFld Z f W)) : Four M T cl Z X W c (val p) (mkV f) where
  e := h
  t := fun e q => by
    obtain ⟨q1, q2⟩ := Bool.and_eq_true_iff.mp q
    exact t_truth (h e q2) (plainT_is q1)
  s := fun es q => by cases q
  i := fun tg e q => by
    obtain ⟨_, q2⟩ := Bool.and_eq_true_iff.mp q
    exact t_seq (h e q2)
theorem opB_pe {t : Tm} (G : Gd M T cl k X W c) (F : Four M T cl Z X W c (ob M t) (ev cl t)) {e : Expr} (h : opB M t (ob M t) c e = true) : PE X e (tQ X T errFld Z (opd t (ev cl t).v) W) := by
  refine pe_opd (fun i z => ?_) fun n => ?_
  · subst z
    exact G.slot h
  · have h : (ob M t).e c e = true := by
      cases t <;> first | exact h | exact absurd rfl (n _)
    exact F.e e h
theorem pw_of {op : PySem.BoolOp} {es : List Expr} {pos : Pos} {t : TT} (h : PT X (.BoolOp op es pos) t) : PW X (.BoolOp op es pos) t := ⟨fun wh pins s σ H Q I q => h.run pins s σ H Q I q⟩
theorem asg_cons {e : Expr} {es : List Expr} {env : PySem.Env} (h : notStar e = true) : assignEach (e :: es) env = (false, assign e env) :: assignEach es env := by
  cases e <;> first | rfl | cases h
mutual
theorem tg_ok {sc : Scope} {okc : Str → Bool} (hN : X.N = M.N) (nd : X.N.Nodup) (calm : X.calm = true) (hsc : X.env.scope = sc) (hf : ∀ x, okc x = true → X.fn x = true) : ∀ {tg : Tg} {e : Expr}, tgB M sc okc tg e = true → PG X e (gT X.K T Z tg)
  | .nm i, e, h => by
    unfold tgB at h
    split at h
    · rename_i j x pos q
      cases q
      obtain ⟨h1, h2⟩ := Bool.and_eq_true_iff.mp h
      have h1 : M.N[i]? = some x := by simpa using h1
      rw [← hsc] at h2
      split at h2
      · rename_i hl
        exact g_nm (L2.pg_name nd (by rw [hN]; exact h1) (.inl hl) (.inr hl))
      · rename_i hl
        exact g_nm (L2.pg_name nd (by rw [hN]; exact h1) (.inr hl) (.inl (hf x h2)))
      · cases h2
    · rename_i q
      cases q
    · cases h
  | .tp ts, e, h => by
    unfold tgB at h
    split at h
    · rename_i q
      cases q
    · rename_i ts' es kk pos q
      cases q
      obtain ⟨r1, r2, r3⟩ := tgs_ok hN nd calm hsc hf h
      exact g_tp calm r1 (fun ds ρ ρ' q => by rw [r2]; exact asgs_len _ _ _ _ q) r3
    · cases h
  | .nl, e, h => by
    unfold tgB at h
    cases h
  | .cs t ts, e, h => by
    unfold tgB at h
    cases h
theorem tgs_ok {sc : Scope} {okc : Str → Bool} (hN : X.N = M.N) (nd : X.N.Nodup) (calm : X.calm = true) (hsc : X.env.scope = sc) (hf : ∀ x, okc x = true → X.fn x = true) : ∀ {tg : Tg} {es : List Expr}, tgB.tgsB M sc okc tg es = true →
    PGs X es (gTs X.K T Z tg) ∧ (assignEach es X.env).length = tgLen tg ∧ (assignEach es X.env).findIdx? (·.1) = none
  | .nl, [], _ => ⟨g_nl, rfl, rfl⟩
  | .cs t ts, e :: es, h => by
    have h : (notStar e && tgB M sc okc t e && tgB.tgsB M sc okc ts es) = true := h
    obtain ⟨h1, h3⟩ := Bool.and_eq_true_iff.mp h
    obtain ⟨h1, h2⟩ := Bool.and_eq_true_iff.mp h1
    obtain ⟨r1, r2, r3⟩ := tgs_ok hN nd calm hsc hf h3
    have e1 := asg_cons (es := es) (env := X.env) h1
    refine ⟨g_cs (tg_ok hN nd calm hsc hf h2) r1 (by rw [e1]; rfl), by rw [e1]; exact congrArg Nat.succ r2, ?_⟩
    rw [e1, List.findIdx?_cons]
    show (if (false = true) then _ else _) = _
    rw [if_neg (by decide), r3]
    rfl
  | .nl, _ :: _, h => by cases h
  | .cs _ _, [], h => by cases h
  | .nm _, [], h => by cases h
  | .nm _, _ :: _, h => by cases h
  | .tp _, [], h => by cases h
  | .tp _, _ :: _, h => by cases h
end
end
end Sw

end
section
set_option maxRecDepth 100000
set_option maxHeartbeats 4000000
namespace Sw
open PySem PySem.Spec PyProof.Rows
open L2 (V Hp HO upd upd_same upd_ne SqL SqT Rd VK XK WX Cx Inv RelV Vals PE PT PW PA PI PS PSs EP TP AP SP TE TT TA TS TI It Takes thn Gl Vis Loc Room OpR CallR TyX PG PGs TG TGs PTs Ends Sp FnOk frs)
section
variable {M : Md} {T : List (Addr × Str)} {cl : Nat → List Ar → Ret} {k : Nat} {X : Cx} {W : WX} {c : Cf} {Z : Gh}
/-- in a comprehension's block -/
theorem Gd.blk (G : Gd M T cl k X W c) {scope : Scope} (hk : scope.kind = .function) {σ : L2.St} {s : Shared} {H : Hp} {C : Addr} {cells : List (Str × Addr)} {fp : List Addr} {xe : Value → Shared → Prop}
    (hp : ∀ σ', L2.PassesAt (L2.CX X.prog X.w) (blkE X s H scope (compEnvC scope cells C X.env) fp xe) σ' (fun d e H' => W d e σ H')) :
    Gd M T cl k (blkE X s H scope (compEnvC scope cells C X.env) fp xe) (fun d e _ H' => W d e σ H') ⟨L2.relS scope c.sc, false, c.la⟩ :=
  ⟨G.mod, G.calm, G.nd, G.hN, (by show L2.relS scope X.env.scope = _; rw [G.hsc]), hk, G.room, hp, (fun z => by cases z), G.lam, G.kp⟩
theorem Gd.blkN (G : Gd M T cl k X W c) {scope : Scope} (hk : scope.kind = .function) {s : Shared} {H : Hp} {C : Addr} {cells : List (Str × Addr)} {fp : List Addr} :
    Gd M T cl k (X.blk s H scope (compEnvC scope cells C X.env) fp) Wn ⟨L2.relS scope c.sc, false, c.la⟩ :=
  ⟨G.mod, G.calm, G.nd, G.hN, (by show L2.relS scope X.env.scope = _; rw [G.hsc]), hk, G.room, (fun σ pins H s e s' I cx => by
    obtain ⟨_, _, _, _, _, _, _, _, _, _, _, _, z⟩ := cx
    exact z.elim), (fun z => by cases z), G.lam, G.kp⟩
theorem own_ix (own : List Nat) : (ownOf M own).map (·.2) = own := by
  unfold ownOf
  rw [List.map_map]
  exact List.map_id _
/-- what a look at a comprehension tells -/
theorem in_parts {own : List Nat} {tgt : Tg} {tc : Tm} {oi oc oe : Ob} {elt : Expr} {g : Comprehension} {scope : Scope} (h : inB M c own tgt tc oi oc oe elt g scope = true) :
    ∃ tg iter ifs, g = ⟨tg, iter, ifs, 0⟩ ∧ oi.i c tg iter = true ∧ L2.BlkOk M.N c.sc scope (ownOf M own) ∧ (∀ i ∈ tgIx tgt, i ∈ (ownOf M own).map (·.2)) ∧ tgB M (L2.relS scope c.sc) (fun x => scope.names.lookup x == some .cell) tgt tg = true ∧
      ifsB tc oc ⟨L2.relS scope c.sc, false, c.la⟩ ifs = true ∧ oe.e ⟨L2.relS scope c.sc, false, c.la⟩ elt = true ∧ notSet iter = true := by
  unfold inB at h
  split at h
  · rename_i tg iter ifs
    simp only [Bool.and_eq_true] at h
    obtain ⟨⟨⟨⟨⟨⟨h1, h2⟩, h3⟩, h4⟩, h5⟩, h6⟩, h7⟩ := h
    refine ⟨tg, iter, ifs, rfl, h1, L2.blkOk_by h2, fun i hi => ?_, h4, h5, h6, h7⟩
    rw [own_ix]
    simpa using List.all_eq_true.mp h3 i hi
  · cases h
theorem ifs_ok {Y : Cx} {W' : WX} {c' : Cf} {tc : Tm} (F : Four M T cl Z Y W' c' (ob M tc) (ev cl tc)) {ifs : List Expr} (h : ifsB tc (ob M tc) c' ifs = true) : PTs Y ifs (tT Y T errFld Z (ev cl tc).t W') := by
  unfold ifsB at h
  split at h
  · split at h
    · refine ⟨fun pins s σ H Q I ⟨F, ρ, R, q⟩ => L2.pts_nil.run pins s σ H Q I (q F H R Stp.refl)⟩
    · cases h
  · split at h
    · cases h
    · exact L2.pts_one (F.t _ h)
  · cases h
theorem boot_bf {f : Bf} {x : Str} (h : bfNm f = some (x, false)) : bootBuiltins x = some (valOf f) ∧ x ≠ "__name__" ∧ Simple (valOf f) := by
  cases f <;> simp [bfNm] at h <;> subst h <;> refine ⟨by decide +kernel, by decide +kernel, trivial⟩
theorem calls_bf (f : Bf) (hf : ∃ x b, bfNm f = some (x, b)) (hc : X.calm = true) (hu : X.A.units + 64 < cLine) : CallS X T Z (valOf f) (bfn f) := by
  obtain ⟨x, b, hf⟩ := hf
  cases f <;> simp [bfNm] at hf
  · exact calls_len
  · exact calls_tup
  · exact calls_lis
  · exact calls_int
  · exact calls_min hc hu
  · exact calls_max hc hu
  · exact calls_abs
  · exact calls_sum hc
  · exact calls_all hc
  · exact calls_any hc
  · exact calls_sorted hu
  · exact calls_isq
  · exact calls_gcd
  · exact calls_dvm
theorem Gd.bf (G : Gd M T cl k X W c) {f : Bf} {x : Str} (h : bfB M f x = true) (hg : glB c.sc x = true) (hp : plainName x = true) : NameOf X x (valOf f) ∧ Simple (valOf f) ∧ CallS X T Z (valOf f) (bfn f) := by
  unfold bfB at h
  split at h
  · rename_i y e
    obtain ⟨h1, h2⟩ := Bool.and_eq_true_iff.mp h
    have h1 : x = y := by simpa using h1
    subst h1
    obtain ⟨b1, b2, b3⟩ := boot_bf e
    exact ⟨⟨G.gl hg, (plain_is hp).1, .inr ⟨G.mod.bl x (by simpa using h2), b1, b2⟩⟩, b3, calls_bf f ⟨_, _, e⟩ G.calm G.room.units⟩
  · rename_i y e
    obtain ⟨h1, h2⟩ := Bool.and_eq_true_iff.mp h
    have h1 : x = y := by simpa using h1
    subst h1
    have hm := G.mod.mt _ (List.contains_iff_mem.mp h2)
    cases f <;> simp [bfNm] at e
    · exact ⟨⟨G.gl hg, (plain_is hp).1, .inl hm⟩, trivial, calls_isq⟩
    · exact ⟨⟨G.gl hg, (plain_is hp).1, .inl hm⟩, trivial, calls_gcd⟩
  · cases h
theorem Gd.ty (G : Gd M T cl k X W c) {t : Ty} {e : Expr} (h : tyB M c t e = true) : ∃ y p, e = .Name y p ∧ TyName X y t := by
  unfold tyB at h
  split at h
  · rename_i y p
    simp only [Bool.and_eq_true, decide_eq_true_eq] at h
    obtain ⟨⟨h1, h2⟩, h3⟩ := h
    refine ⟨y, p, rfl, G.gl h2, G.mod.bl y (by simpa using h3), ?_, ?_, ?_⟩
    · rw [h1]; cases t <;> decide +kernel
    · rw [h1]; cases t <;> decide +kernel
    · rw [h1]; cases t <;> decide +kernel
  · cases h
theorem Gd.tys (G : Gd M T cl k X W c) : ∀ {ts : List Ty} {es : List Expr}, tysB M c ts es = true → TyNames X es ts
  | [], [], _ => .nil
  | t :: ts, e :: es, h => by
    obtain ⟨h1, h2⟩ := Bool.and_eq_true_iff.mp (show (tyB M c t e && tysB M c ts es) = true from h)
    obtain ⟨y, p, rfl, q⟩ := G.ty h1
    exact .cons q (G.tys h2)
  | [], _ :: _, h => by cases h
  | _ :: _, [], h => by cases h
end
end Sw

end
section
set_option maxRecDepth 100000
set_option maxHeartbeats 4000000
namespace L2
open PySem PySem.Spec PyProof.Rows
section
variable {P : Program} {w : World} {A : Around} {E : Value → Shared → Prop} {s : Shared}
set_option maxHeartbeats 3200000 in
/-- set(t), t a tuple of tuples of ints -/
theorem call_set_tupT {l : Addr} {items : Array Value} (ks : List (Addr × List Int)) {Q : Value → Shared → Prop} (hh : A.handled = none) (hl : s.heap.IsTuple l items) (hit : items.toList = ks.map fun p => Value.ref p.1)
    (hk : ∀ p ∈ ks, IsT P w s.heap p.2 p.1) (hfew : ks.length < 64) (hu : A.units + 3 < cLine)
    (h : ∀ (h' : Heap) (tk : Nat) L es ep t, SetTR P w h' s.heap.objs.size L es ep t → Got ks ks.length L → (∀ b o, s.heap.get? b = some o → h'.get? b = some o) → Q (.ref s.heap.objs.size) { s with heap := h', toks := tk }) :
    wpAny (model P w) A (call (.type "set") [.ref l]) Q E s := by
  have hisz : items.size = ks.length := by
    have q := congrArg List.length hit
    rw [Array.length_toList, List.length_map] at q
    exact q
  obtain ⟨c, tl, hmro⟩ := F.called_set.mro
  have hmade := F.called_set.made
  have hsub := F.called_set.sub
  refine wpAny_call (codeAny_of_tree ?_)
  show wpAny _ _ (callAny (.type "set") _) _ _ _
  refine wpAny_pure ⟨Code.quiet_builtin _ (by decide +kernel), codeAny_builtin F.entry_type_call ?_⟩
  rw [Around.under_plain (weight_type_call_type "set" [.ref l] []) rfl]
  have h1 := F.called_set.notType
  have h2 := F.called_set.canCreate
  have hct := F.typeCall_set_1 (.ref l)
  repeat (any_goals (first | assumption | wp_step))

  refine codeAny_mono (code_set_led1 (.ref l) (E := E) (Q₁ := fun obj s₁ => obj = .ref s.heap.objs.size ∧ s₁ = { s with heap := s.heap.push { cls := .type "set", dict := none, data := .set #[] 0 (.fresh 0 0 (!w.params.followText "set-order")) } }) ⟨rfl, rfl⟩) fun r s₁ hr => ?_
  cases r with
  | error e => exact hr
  | ok fl =>
    cases fl with
    | ret obj =>
      obtain ⟨rfl, rfl⟩ := hr
      have hS : (s.heap.push { cls := .type "set", dict := none, data := .set #[] 0 (.fresh 0 0 (!w.params.followText "set-order")) }).get? s.heap.objs.size = some { cls := .type "set", dict := none, data := .set #[] 0 (.fresh 0 0 (!w.params.followText "set-order")) } := Heap.get?_push_size _ rfl
      have hT : Shared.TypeIs { s with heap := s.heap.push { cls := .type "set", dict := none, data := .set #[] 0 (.fresh 0 0 (!w.params.followText "set-order")) } } (.ref s.heap.objs.size) "set" := ⟨_, hS, rfl⟩
      have hli := F.called_set.init.lookup
      have hbi := F.called_set.init.bind (.ref s.heap.objs.size)
      repeat (any_goals (first | assumption | wp_step))

      refine codeAny_mono (codeAny_call_builtin (R := wants (fun r s₂ => r = .none ∧ ∃ h' tk L es ep t, s₂ = { s with heap := h', toks := tk } ∧ SetTR P w h' s.heap.objs.size L es ep t ∧ Got ks ks.length L ∧
          (∀ b o, s.heap.get? b = some o → h'.get? b = some o)) E) F.called_set.init.plain F.entry_set_init (check_set_init_1 hT ?_)) fun r₂ s₂ hr₂ => ?_
      · obtain ⟨ol, hol, hcl, nl, hdl⟩ := hl
        obtain ⟨ocls, odict, odata, oslots⟩ := ol
        simp only at hcl hdl
        subst hcl; subst hdl
        have hol' : (s.heap.push { cls := .type "set", dict := none, data := .set #[] 0 (.fresh 0 0 (!w.params.followText "set-order")) }).get? l = some { cls := .type "tuple", dict := odict, data := .seq items nl, slots := oslots } := Heap.get?_push_of_some _ hol
        have hsls := F.sub_tuple_set
        have hslf := F.sub_tuple_frozenset
        have hne : (Value.type "tuple" == Value.type "dict") = false := by decide
        have hl1 : (s.heap.push { cls := .type "set", dict := none, data := .set #[] 0 (.fresh 0 0 (!w.params.followText "set-order")) }).IsTuple l items := ⟨_, hol', rfl, nl, rfl⟩
        unfold Builtin.«set.__init__» noKeywords Builtin.Frozenset.updateFrom
        generalize hPI : pyIter = PI
        wp_walk
        subst hPI

        refine wpAny_pyIter_tuple hl1 ?_
        refine wpAny_bind (wpAny_runValue ?_)
        have hlS : l < s.heap.objs.size := Heap.lt_size hol
        have hh3 : A.in1.in1.in1.handled = none := by simp [hh]
        have hz1 : (s.heap.push { cls := .type "set", dict := none, data := .set #[] 0 (.fresh 0 0 (!w.params.followText "set-order")) }).objs.size = s.heap.objs.size + 1 := Heap.size_push ..
        have hneI : l ≠ (s.heap.push { cls := .type "set", dict := none, data := .set #[] 0 (.fresh 0 0 (!w.params.followText "set-order")) }).objs.size := by
          rw [Heap.size_push]; exact Nat.ne_of_lt (Nat.lt_succ_of_lt hlS)
        have hSf : s.heap.objs.size ∉ [(s.heap.push { cls := .type "set", dict := none, data := .set #[] 0 (.fresh 0 0 (!w.params.followText "set-order")) }).objs.size, l] := by
          rw [Heap.size_push]; simp only [List.mem_cons, List.mem_singleton, List.not_mem_nil, or_false, not_or]
          exact ⟨Nat.ne_of_lt (Nat.lt_succ_self _), Nat.ne_of_gt hlS⟩
        have hval : ∀ (i : Nat) (v : Value), items[i]? = some v → ∃ p, ks[i]? = some p ∧ v = .ref p.1 := fun i v hv => by
          have q : items.toList[i]? = some v := by rw [Array.getElem?_toList]; exact hv
          rw [hit, List.getElem?_map] at q
          cases hq : ks[i]? with
          | none => rw [hq] at q; cases q
          | some p =>
            rw [hq] at q
            exact ⟨p, rfl, (Option.some.inj q).symm⟩
        have none_of : ∀ b, s.heap.objs.size ≤ b → s.heap.get? b = none := fun b hb => by
          cases q : s.heap.get? b with
          | none => rfl
          | some o => exact absurd (Nat.lt_of_lt_of_le (Heap.lt_size q) hb) (Nat.lt_irrefl _)
        refine set_update_tups ((Walks.tuple hh3 _ l hneI items).toS) s.heap.objs.size
          hSf ks hisz hfew hval s.heap hk (none_of _ (Nat.le_refl _)) (fun b hb => none_of b (by
            rw [List.mem_singleton.mp hb, Heap.size_push]
            exact Nat.le_succ _)) hu (items.size - 0) 0 _ (by omega) (Nat.zero_le _)
          ⟨⟨_, Heap.get?_push_size _ rfl, rfl, rfl⟩, (hl1.push _)⟩ (fun b o e => Heap.get?_push_of_some _ (Heap.get?_push_of_some _ e)) ?hS0 ?hR
        case hS0 =>
          have hget : ((s.heap.push { cls := .type "set", dict := none, data := .set #[] 0 (.fresh 0 0 (!w.params.followText "set-order")) }).push { cls := .type "tuple_iterator", data := .fields #[.ref l, .int 0 0] }).get? s.heap.objs.size
              = some { cls := .type "set", dict := none, data := .set #[] 0 (.fresh 0 0 (!w.params.followText "set-order")) } := Heap.get?_push_of_some _ hS
          exact ⟨[], #[], 0, _, setTR_fresh hget, Got.zero ks⟩
        case hR =>
          intro s' L es ep t hm hS' g' hkp
          obtain ⟨h', g2, d', tk', os'⟩ := s'
          have eg : g2 = s.gens := hm.gens
          have ed : d' = s.drawn := hm.drawn
          have eo : os' = s.os := hm.os
          subst eg; subst ed; subst eo
          show wpAny _ _ _ _ _ _
          refine wpAny_pure ?_
          show wpAny _ _ (ret Value.none) _ _ _
          rw [hisz] at g'
          exact wpAny_pure ⟨rfl, h', tk', L, es, ep, t, rfl, hS', g', hkp⟩

      · cases r₂ with
        | error e => exact hr₂
        | ok fl₂ =>
          cases fl₂ with
          | ret r =>
            obtain ⟨rfl, h', tk, L, es, ep, t, rfl, hS', g', hk'⟩ := hr₂
            repeat (any_goals (first | assumption | wp_step))
            exact h _ _ _ _ _ _ hS' g' hk'
          | _ => exact hr₂.elim
    | _ => exact hr.elim
end
end L2

end
section
set_option maxRecDepth 100000
set_option maxHeartbeats 4000000
namespace Sw
open PySem PySem.Spec PyProof.Rows
open L2 (V Hp HO upd upd_same upd_ne SqL SqT Rd VK XK WX Cx Inv RelV Vals PE PT PW PA PI PS PSs EP TP AP SP TE TT TA TS TI It Takes thn Gl Vis Loc Room OpR CallR TyX PG PGs TG TGs PTs Ends Sp FnOk frs)
theorem nd_len {α : Type} [DecidableEq α] : ∀ {l k : List α}, l.Nodup → (∀ x ∈ l, x ∈ k) → l.length ≤ k.length
  | [], k, _, _ => Nat.zero_le _
  | x :: r, k, h, s => by
    have hx : x ∈ k := s x (by simp)
    have h := List.nodup_cons.mp h
    have := nd_len (l := r) (k := k.erase x) h.2 fun y hy => by
      have hne : y ≠ x := fun e => h.1 (e ▸ hy)
      exact (List.mem_erase_of_ne hne).mpr (s y (by simp [hy]))
    rw [List.length_erase_of_mem hx] at this
    have : 0 < k.length := List.length_pos_of_mem hx
    simp only [List.length_cons]
    omega
theorem nub_mem {α : Type} [DecidableEq α] {x : α} : ∀ {l : List α}, x ∈ nub l ↔ x ∈ l
  | [] => by simp [nub]
  | y :: r => by
    unfold nub
    split
    · rename_i h
      rw [nub_mem, List.mem_cons]
      exact ⟨.inr, fun e => by rcases e with rfl | e <;> assumption⟩
    · rw [List.mem_cons, List.mem_cons, nub_mem]
theorem nub_nd {α : Type} [DecidableEq α] : ∀ {l : List α}, (nub l).Nodup
  | [] => List.nodup_nil
  | y :: r => by
    unfold nub
    split
    · exact nub_nd
    · rename_i h
      exact List.nodup_cons.mpr ⟨fun e => h (nub_mem.mp e), nub_nd⟩
theorem nub_len {α : Type} [DecidableEq α] {l k : List α} (hk : k.Nodup) (h : ∀ x, x ∈ k ↔ x ∈ l) : k.length = (nub l).length :=
  Nat.le_antisymm (nd_len hk fun x hx => nub_mem.mpr ((h x).mp hx)) (nd_len nub_nd fun x hx => (h x).mpr (nub_mem.mp hx))
section
variable {X : Cx} {T : List (Addr × Str)} {fld : Fld} {Z : Gh} {W : WX} {σ : L2.St} {F F' H H' : Hp} {ρ ρ' : Env} {K : PySem.W.Frag}
theorem rps_rows : ∀ {vs : List V} {ds : List D} {rs : List (List Int)}, Rps K F vs ds → rowsI ds = some rs → ∃ ks : List (Addr × List Int), vs = (ks.map fun p => V.ref p.1) ∧ ks.map (·.2) = rs ∧ ∀ p ∈ ks, SqT K F p.1 (p.2.map V.int)
  | _, _, _, .nil, e => by cases e; exact ⟨[], rfl, rfl, fun p h => by cases h⟩
  | _, _, rs, .cons (.tup (a := a) (ds := es) s r) (ds := ds) t, e => by
    have e : (match intsD es, rowsI ds with | some x, some y => some (x :: y) | _, _ => none) = some rs := e
    cases e1 : intsD es with
    | none => rw [e1] at e; cases e
    | some ns =>
      cases e2 : rowsI ds with
      | none => rw [e1, e2] at e; cases e
      | some ms =>
        rw [e1, e2] at e
        cases e
        obtain ⟨ks, h1, h2, h3⟩ := rps_rows t e2
        have hv := dps_int r e1
        refine ⟨(a, ns) :: ks, by rw [h1]; rfl, by rw [← h2]; rfl, fun p hp => ?_⟩
        rcases List.mem_cons.mp hp with rfl | hp
        · show SqT K F a (ns.map V.int)
          rw [← hv]; exact s
        · exact h3 p hp
  | _, _, _, .cons .non t, e => by cases e
  | _, _, _, .cons (.bl _) t, e => by cases e
  | _, _, _, .cons (.int _) t, e => by cases e
  | _, _, _, .cons (.str _) t, e => by cases e
  | _, _, _, .cons (.lst _ _) t, e => by cases e
theorem t_lset {a : Expr} {f : Env → Out VT} {p p2 q pos : Pos} (hc : X.calm = true) (hu : X.A.units + 64 < cLine) (hg : Gl X "len") (hm : X.mg "len" = none) (hg2 : Gl X "set") (hm2 : X.mg "set" = none) (ha : PE X a (tE X T fld Z f W))
    (na : starEach [a] X.env = (false, eval a X.env) :: starEach [] X.env) : PE X (.Call (.Name "len" p) [.Call (.Name "set" p2) [a] [] q] [] pos) (tE X T fld Z (fun ρ => (f ρ).bind fun v ρ => ret? (lsetV v.d) ρ) W) := by
  refine ⟨fun pins s σ H Q I h => ?_⟩
  have h2 : tE X T fld Z f W σ H fun x H1 => ∃ (F2 : Hp) (l : List D) (n : Nat), (∀ b o, F2 b = some o → H1 b = some o) ∧ Rp X.K F2 x (.tuple l) ∧ lsetV (.tuple l) = some (.pl (.int n)) ∧ Q (.int n) H1 := by
    obtain ⟨F, ρ, R, k⟩ := h
    refine ⟨F, ρ, R, Fin.mono (Fin.bind k) fun r ρ1 F1 H1 R1 S1 k v rv => ?_⟩
    obtain ⟨F2, R2, S2, up, d⟩ := freeze R1 S1 rv
    have int : ∀ (l : List D) (z : VT), lsetV (.tuple l) = some z → ∃ n : Nat, z = .pl (.int n) := fun l z e => by
      have e : (if l.length < 64 then (match intsD l with
        | some ns => some (.pl (.int (nub ns).length))
        | none => (rowsI l).map fun rs => .pl (.int (nub rs).length)) else none) = some z := e
      split at e
      · split at e
        · cases e; exact ⟨_, rfl⟩
        · cases e3 : rowsI l with
          | none => rw [e3] at e; cases e
          | some rs => rw [e3] at e; cases e; exact ⟨_, rfl⟩
      · cases e
    cases e : r.d with
    | tuple l =>
      rw [e] at k d
      cases e2 : lsetV (.tuple l) with
      | none => simp only [e2, ret?] at k; exact k.elim
      | some z =>
        obtain ⟨n, rfl⟩ := int l z e2
        simp only [e2, ret?] at k
        exact ⟨F2, l, n, R2.sub, d, e2, k F2 H1 R2 S2 _ (.int _)⟩
    | _ => rw [e] at k; exact k.elim
  refine Call_ (L2.ld_blt I hg hm PySem.boot_len ?_)
  refine PyProof.Rows.callWith_builtin1 (PyProof.Rows.args_cons ?_ rfl) rfl rfl
  refine Call_ (L2.ld_blt I hg2 hm2 PyProof.Rows.boot_set ?_)
  refine PyProof.Rows.callWith_type1 (PyProof.Rows.args_cons (thn (ha.run pins s σ H _ I h2) fun v s1 ⟨x, H1, I1, r1, q1⟩ => PyProof.Rows.args_nil ?_) na) na rfl
  obtain ⟨F2, l, n, sub, d, e, q1⟩ := q1
  cases d with
  | tup sq rp =>
    rename_i a vs
    cases r1
    have hq : SqT X.K H1 a vs := sqt_mono sub sq
    obtain ⟨its, r, pl, hz⟩ := I1.tuple hq
    have lv := dps_len rp
    have e : (if l.length < 64 then (match intsD l with
        | some ns => some (.pl (.int (nub ns).length))
        | none => (rowsI l).map fun rs => .pl (.int (nub rs).length)) else none) = some (VT.pl (.int n)) := e
    by_cases h64 : l.length < 64
    · rw [if_pos h64] at e
      cases e1 : intsD l with
      | some ns =>
        rw [e1] at e
        have e : (nub ns).length = n := by
          injection e with e; injection e with e; injection e with e; omega
        have hv := dps_int rp e1
        subst hv
        have hns : ns.length < 64 := by rw [← lv, List.length_map] at h64; exact h64
        refine L2.call_set_tupI (P := X.prog) (w := X.w) ns (I1.ok.hd hc) pl (by simpa using r.ints) (by unfold scanBound; omega) fun h' tk c hS hle hk => PyProof.Rows.args_nil ?_
        obtain ⟨o, es, ep, t, ho, hex, hd, _, nd, mem, _, hf, hn, _, _⟩ := hS
        have hcard : c = n := by
          have := nub_len (l := ns) nd fun x => by
            rw [← mem x]; exact decide_eq_true_iff
          rw [List.length_map, Array.length_toList, hn, e] at this
          exact this
        subst hcard
        have I2 : Inv X pins σ H1 { s1 with heap := h', toks := tk } := I1.kept hk
        refine PySem.call_len_set ho hex hd hf (by rw [hn]; omega) ⟨.int c, H1, I2.tok _, ⟨_, by rw [hn]⟩, q1⟩
      | none =>
        rw [e1] at e
        cases e2 : rowsI l with
        | none => rw [e2] at e; cases e
        | some rs =>
          rw [e2] at e
          have e : (nub rs).length = n := by
            injection e with e; injection e with e; injection e with e; omega
          obtain ⟨ks, hv, h2, h3⟩ := rps_rows rp e2
          subst hv
          have hks : ks.length < 64 := by rw [← lv, List.length_map] at h64; exact h64
          refine L2.call_set_tupT (P := X.prog) (w := X.w) ks (I1.ok.hd hc) pl (by simpa using L2.refs_of_vals r) (fun p hp => I1.isT (sqt_mono sub (h3 p hp))) hks (by omega) fun h' tk L es ep t R g hk => PyProof.Rows.args_nil ?_
          obtain ⟨o, ho, hex, hd⟩ := R.ob
          have hcard : L.length = n := by
            have := nub_len (l := rs) (k := L.map (·.2)) R.nd fun x => by
              rw [← h2]
              constructor
              · intro hx
                obtain ⟨p, hp, rfl⟩ := List.mem_map.mp hx
                exact List.mem_map.mpr ⟨p, List.mem_of_mem_take (g.sub p hp), rfl⟩
              · intro hx
                obtain ⟨p, hp, rfl⟩ := List.mem_map.mp hx
                exact g.all p (by rw [List.take_length]; exact hp)
            rw [List.length_map, e] at this
            exact this
          have I2 : Inv X pins σ H1 { s1 with heap := h', toks := tk } := I1.kept hk
          have hsz : es.size = L.length := L2.SetTR.size (s := { s1 with heap := h', toks := tk }) R
          have hfit := L2.SetTR.fits (s := { s1 with heap := h', toks := tk }) R
          have hfew := R.few
          refine PySem.call_len_set ho hex hd hfit (by rw [hsz]; omega) ⟨.int n, H1, I2.tok _, ⟨_, by rw [hsz, hcard]⟩, q1⟩
    · rw [if_neg h64] at e
      cases e
theorem flat_Vs : ∀ {vs : List V} {ds : List D}, Rps K F vs ds → ds.all flat = true → vs.all L2.flatV = true
  | _, _, .nil, _ => rfl
  | _, _, .cons r t, h => by
    rw [List.all_cons, Bool.and_eq_true] at h
    rw [List.all_cons, Bool.and_eq_true]
    exact ⟨(flat_V (H := F) h.1 (.inl r)).1, flat_Vs t h.2⟩
theorem find_spec {α : Type} {p : α → Bool} : ∀ {l : List α} {j : Nat}, l.findIdx? p = some j → ∃ x, l[j]? = some x ∧ p x = true ∧ ∀ m y, m < j → l[m]? = some y → p y = false
  | [], j, h => by simp at h
  | a :: r, j, h => by
    rw [List.findIdx?_cons] at h
    cases e : p a with
    | true =>
      rw [e] at h
      simp at h
      subst h
      exact ⟨a, rfl, e, fun m y hm _ => by omega⟩
    | false =>
      rw [e] at h
      simp at h
      obtain ⟨i, h1, rfl⟩ := h
      obtain ⟨x, h2, h3, h4⟩ := find_spec h1
      refine ⟨x, by simpa using h2, h3, fun m y hm hy => ?_⟩
      cases m with
      | zero => simp at hy; subst hy; exact e
      | succ m => exact h4 m y (by omega) (by simpa using hy)
theorem t_idn {o e : Expr} {f g : Env → Out VT} {apos cpos : Pos} (ha : PE X o (tE X T fld Z f W)) (hb : PE X e (tE X T fld Z g W))
    (hbase : attributeBase o "index" X.env (eval o X.env) = eval o X.env)
    (hfew : ((backTo cpos (starEach [e] X.env)).all (fun x => !x.1) && (backToKw cpos (keywordEach [] X.env)).all (fun x => x.1.isSome)
      && decide ([e].length + ([] : List Keyword).length + (if ([] : List Keyword).isEmpty then 0 else 1) < 30)) = true)
    (hline : (apos.endLine == cpos.line) = true) (hs : starEach [e] X.env = (false, eval e X.env) :: starEach [] X.env) :
    PE X (.Call (.Attribute o "index" apos) [e] [] cpos) (tE X T fld Z (fun ρ => (f ρ).bind fun v ρ => (opt? (lisD v.d) ρ).bind fun l ρ => (g ρ).bind fun u ρ => ret? ((idxD l u.d).map .pl) ρ) W) := by
  refine PE.imp (L2.pe_bm PySem.F.plainAttrs_list PySem.F.slot_list_index PySem.F.type_list_index L2.mt_index ha (L2.pa_cons hb L2.pa_nil hs) hbase hfew hline hs rfl) fun σ H Q ⟨F, ρ, R, q⟩ => ⟨F, ρ, R, Fin.mono (Fin.bind q) fun r ρ1 F1 H1 R1 S1 k v rv => ?_⟩
  obtain ⟨F2, R2, S2, up2, d⟩ := freeze R1 S1 rv
  have k := Fin.base R2 S2 k
  cases hd : r.d with
  | list l =>
    rw [hd] at d k
    have k2 := Fin.bind (show Fin X T fld Z W σ F2 H1 ρ1 ((g ρ1).bind fun u ρ => ret? ((idxD l u.d).map .pl) ρ) _ from k)
    cases d with
    | lst s rp =>
      rename_i a vs
      refine ⟨.inl ⟨rfl, vs, sql_mono R2.sub s⟩, F2, ρ1, R2, Fin.mono k2 fun u ρ3 F3 H3 R3 S3 k3 w rw_ => ?_⟩
      obtain ⟨F4, R4, S4, up4, d4⟩ := freeze R3 S3 rw_
      cases e2 : idxD l u.d with
      | none => simp only [e2, Option.map_none, ret?] at k3; exact k3.elim
      | some z =>
        simp only [e2, Option.map_some, ret?] at k3
        have e3 : (if flat u.d && l.all flat && decide (l.length < SZ) then (l.findIdx? fun y => PyData.eqv y u.d).map fun k => PyData.int k else none) = some z := e2
        split at e3
        · rename_i hc
          simp only [Bool.and_eq_true, decide_eq_true_eq] at hc
          obtain ⟨⟨h1, h2⟩, h3⟩ := hc
          cases e4 : l.findIdx? (fun y => PyData.eqv y u.d) with
          | none => rw [e4] at e3; cases e3
          | some j =>
            rw [e4] at e3
            cases e3
            obtain ⟨x, x1, x2, x3⟩ := find_spec e4
            have rp4 := dps_mono S4.frz rp
            obtain ⟨vx, y1, y2⟩ := dps_get rp4 x1
            have fl := flat_V (H := H3) h1 (.inl d4)
            refine ⟨a, vs, w, j, vx, rfl, rfl, sql_mono (fun b o e => R4.sub b o (S4.frz b o e)) s, fl.1, flat_Vs rp h2, y1, ?_, fun m z' hm hz' => ?_, k3 F4 H3 R4 S4 _ (.int _)⟩
            · rw [fl.2 (List.all_eq_true.mp h2 x (List.mem_of_getElem? x1)) y2]
              exact x2
            · have hlt : m < l.length := by
                have := (List.getElem?_eq_some_iff.mp x1).1
                omega
              have hm2 : l[m]? = some l[m] := List.getElem?_eq_getElem hlt
              obtain ⟨vm, z1, z2⟩ := dps_get rp4 hm2
              rw [hz'] at z1
              cases z1
              rw [fl.2 (List.all_eq_true.mp h2 _ (List.mem_of_getElem? hm2)) z2]
              exact x3 m _ hm hm2
        · cases e3
  | _ => rw [hd] at k; exact k.elim
theorem get_list : L2.PGet X (L2.rIxL X.K) := by
  intro pins s σ H o i ov iv Q I ro ri h
  obtain ⟨p, xs, i, z, rfl, rfl, hq, he, q⟩ := h
  cases ro
  obtain ⟨t, rfl⟩ := ri
  obtain ⟨its, r, pl, hz⟩ := I.list hq
  obtain ⟨j, h1, h2, h3, h4, h5⟩ := L2.atI_get he
  obtain ⟨w, ew, rw'⟩ := r.get h2
  have hl := r.length
  have hn := L2.line63
  have fin : EP X pins σ Q w s := ⟨z, H, I, rw', q⟩
  by_cases h0 : 0 ≤ i
  · have hj : i.toNat = j := by
      rw [seqIndex_of h0 h5] at h1
      exact Option.some.inj h1
    exact wpAny_getItem_list pl.isList h0 (by omega) (by rw [hj]; simpa using ew) fin
  · have hj : (i + (its.toArray.size : Int)).toNat = j := by
      rw [seqIndex_neg (by omega) h4] at h1
      rw [List.size_toArray, ← hl]
      exact Option.some.inj h1
    exact wpAny_getItem_list_neg pl.isList (by omega) (by rw [List.size_toArray] <;> omega) (by omega) (by rw [hj]; simpa using ew) fin
theorem itemQ_inv {i : Nat} {j x : D} (h : itemQ i j ρ = some x) : ∃ ds k, j = .int k ∧ (ρ[i]? = some (.ow ds) ∨ ρ[i]? = some (.io ds)) ∧ atI ds k = some x := by
  unfold itemQ at h
  cases e : ρ[i]? with
  | none => rw [e] at h; cases h
  | some t =>
    rw [e] at h
    cases t with
    | ow ds => cases j with
      | int k => exact ⟨ds, k, rfl, .inl rfl, h⟩
      | _ => cases h
    | io ds => cases j with
      | int k => exact ⟨ds, k, rfl, .inr rfl, h⟩
      | _ => cases h
    | _ => cases h
theorem s_agi {i : Nat} {o e ke : Expr} {f g : Env → Out VT} {op : Bo} {spos pos : Pos} (ho : PE X o (L2.tVar i)) (he : PE X e (tE X T fld Z f W)) (hk : PE X ke (tE X T fld Z g W))
    (ha : ∀ ov iv new, augStore ke ov iv new = (do holding [new, ov, iv] (setItem ov iv new); release [new, ov, iv] []; pure .next)) :
    PS X (.AugAssign (.Subscript o ke spos) (opOf op) e pos) (tS X T fld Z (fun ρ => if ownQ i ρ then (g ρ).fl fun j ρ => (opt? (itemQ i j.d ρ) ρ).fl fun x ρ => (f ρ).fl fun v ρ => nx? ((aop op x v.d).bind fun r => chg i (stiF j.d r) ρ) else .no) W) := by
  refine PS.imp (L2.ps_augS (tip := ipA (X := X) op) ho hk get_list he (fun pins s σ H x y v u Q I r1 r2 ⟨i, j, r, e1, e2, er, k⟩ => ip_aop op pins s σ H x y v u Q i j r I r1 r2 e1 e2 er k) L2.set_list ha) fun D σ H ⟨F, ρ, R, q⟩ => ?_
  obtain ⟨ow, q⟩ := FlFin.ite q
  obtain ⟨p, ds0, o0⟩ := R.ownAt (ownQ_is ow)
  refine ⟨_, o0.at_, F, ρ, R, Fin.mono (FlFin.fl q) fun j ρ1 F1 H1 R1 S1 k1 v1 rv1 => ?_⟩
  cases ei : itemQ i j.d ρ1 with
  | none => simp only [ei, opt?] at k1; exact k1.elim
  | some x =>
    simp only [ei, opt?] at k1
    obtain ⟨ds, k, ej, es, ea⟩ := itemQ_inv ei
    have own1 : Own X.K F1 H1 σ i p ds := by
      rcases es with es | es
      · obtain ⟨a, oo, _⟩ := R1.ow i ds es
        have := oo.at_
        rw [o0.at_] at this
        cases this; exact oo
      · obtain ⟨a, oo, _⟩ := R1.io i ds es
        have := oo.at_
        rw [o0.at_] at this
        cases this; exact oo
    obtain ⟨vs, hv, rvs⟩ := own1.ob
    obtain ⟨xv, hx, rx⟩ := atI_of rvs ea
    have hj : v1 = .int k := by
      cases j with
      | fr l => cases ej
      | pl jd =>
        have rv1 : Rp X.K F1 v1 jd := rv1
        have ej : jd = .int k := ej
        subst ej
        cases rv1; rfl
    subst hj
    refine ⟨p, vs, k, xv, rfl, rfl, .inl (.inl hv), hx, F1, ρ1, R1, Fin.mono (FlFin.fl k1) fun r ρ3 F3 H3 R3 S3 k3 v3 rv3 => ?_⟩
    obtain ⟨ρ4, e4, k4⟩ := FlFin.nx? k3
    cases e5 : aop op x r.d with
    | none => rw [e5] at e4; cases e4
    | some z =>
      rw [e5] at e4
      have e4 : chg i (stiF j.d z) ρ3 = some ρ4 := e4
      obtain ⟨F4, R4, S4, up4, d4⟩ := freeze R3 S3 rv3
      obtain ⟨a, b, ex, eb⟩ := aop_int e5
      subst ex
      rw [eb] at d4 e5
      cases rx
      cases d4
      refine ⟨a, b, z, rfl, rfl, e5, fun w hw => ?_⟩
      obtain ⟨p2, vs2, ds2, es2, e6, h6, r6, eg, k6⟩ := R4.change e4
      rw [o0.at_] at e6
      cases e6
      rw [ej] at eg
      have eg : (ixN ds2.length k).map (fun n => ds2.set n z) = some es2 := eg
      cases e7 : ixN ds2.length k with
      | none => rw [e7] at eg; cases eg
      | some n =>
        rw [e7] at eg
        cases eg
        exact ⟨p, vs2, k, n, rfl, rfl, h6, by rw [ixN_eq, dps_len r6]; exact e7, k4 σ F4 _ (k6 _ (dps_set (dp_mono (fun b o h => by cases h) hw) n r6)) up4⟩
end
end Sw

end
section
set_option maxRecDepth 100000
set_option maxHeartbeats 4000000
namespace Sw
open PySem PySem.Spec PyProof.Rows
open L2 (V Hp HO upd upd_same upd_ne SqL SqT Rd VK XK WX Cx Inv RelV Vals PE PT PW PA PI PS PSs EP TP AP SP TE TT TA TS TI It Takes thn Gl Vis Loc Room OpR CallR TyX PG PGs TG TGs PTs Ends Sp FnOk frs FpOk Un UB HOk XE Zc restrict funFrames_none SetO SetR setO_new setO_get)
section
variable {X : Cx} {W : WX} {pins pins' : List (Addr × Obj)} {scope : Scope}
/-- set.add of an int -/
theorem addI_ok {σ : L2.St} {H : Hp} {s : Shared} {E : Value → Shared → Prop} {D : Addr} {S : Int → Bool} {n : Nat} {y : Int} {tk : Tok} {Q : Value → Shared → Prop} (I : Inv X pins σ H s) (hD : H D = some (SetO X.w D S n)) (room : n + 1 < scanBound)
    (h : ∀ s', Inv X pins σ (upd H D (SetO X.w D (fun j => S j || decide (j = y)) (if S y = true then n else n + 1))) s' → Q .none s') : wpAny (model X.prog X.w) X.A (PySem.call (.builtin "set.add") [.ref D, .int y tk]) Q E s :=
  L2.setR_add (setO_get I hD) room fun h' sb new => by
    have ex : ∃ u, h'.get? D = some u := by
      obtain ⟨o, _, _, _, ho, _⟩ := new
      exact ⟨o, ho⟩
    exact h _ (I.write (e := D) (t' := s.toks + 1) (by rw [hD]; trivial) (.inl rfl) (fun b u hb hu => (sb.2 b hb).trans hu) ex (setO_new new))
/-- {elt for target in iter if ..}, ints: D the new set; Iv by the turn and a measure, Nx what a turn is to reach -/
def tScI (w : World) (wi : TI) (g : TG) (tt : TT) (te : TE) (vs : List Nat) : TE := fun σ H Q => wi σ H fun J H1 => ∀ D, H1 D = none → ∃ Iv : Nat → Nat → Hp → Prop, (∃ m, Iv 0 m (upd H1 D (SetO w D (fun _ => false) 0))) ∧ ∀ i m H, Iv i m H →
  (J.stop i H ∧ Q (.ref D) H) ∨ (J.go i H ∧ ∃ Nx : Hp → Prop, (∀ H', Nx H' → ∃ m', m' < m ∧ Iv (i + 1) m' H') ∧ ∀ x H', J.yld i H x H' → g x (L2.wipe σ vs) H' fun σ2 H2 => L2.wipe σ2 vs = L2.wipe σ vs ∧ tt σ2 H2 fun b H3 =>
    if b = true then te σ2 H3 fun y H4 => ∃ (c : Int) (S : Int → Bool) (n : Nat), y = .int c ∧ H4 D = some (SetO w D S n) ∧ n + 1 < scanBound ∧ Nx (upd H4 D (SetO w D (fun j => S j || decide (j = c)) (if S c = true then n else n + 1))) else Nx H3)
theorem sc_run {Q : VK} {σ : L2.St} {H : Hp} {s : Shared} {elt tg iter : Expr} {ifs : List Expr} {own : List (Str × Nat)} {pos pos' : Pos} {wi : TI} {g : TG} {tt : TT} {te : TE} {use : Option (Value → Sem Unit)} {Qf : Value → Shared → Prop}
    (hs : X.stack = X.env :: X.outer) (hf : X.env.frame = some X.env.locals) (tk : Takes X W) (calm : X.calm = true) (nd : X.N.Nodup) (I : Inv X pins σ H s) (hi : PI X tg iter wi) (ok : L2.BlkOk X.N X.env.scope scope own)
    (hg : ∀ (s : Shared) (H : Hp) (C : Addr) (cl : List (Str × Addr)) (fp : List Addr) (xe : Value → Shared → Prop), (∀ σ', L2.PassesAt (L2.CX X.prog X.w) (blkE X s H scope (compEnvC scope cl C X.env) fp xe) σ' (fun c d H' => W c d σ H')) → PG (blkE X s H scope (compEnvC scope cl C X.env) fp xe) tg g)
    (ht : ∀ (s : Shared) (H : Hp) (C : Addr) (cl : List (Str × Addr)) (fp : List Addr) (xe : Value → Shared → Prop), (∀ σ', L2.PassesAt (L2.CX X.prog X.w) (blkE X s H scope (compEnvC scope cl C X.env) fp xe) σ' (fun c d H' => W c d σ H')) → PTs (blkE X s H scope (compEnvC scope cl C X.env) fp xe) ifs tt)
    (he : ∀ (s : Shared) (H : Hp) (C : Addr) (cl : List (Str × Addr)) (fp : List Addr) (xe : Value → Shared → Prop), (∀ σ', L2.PassesAt (L2.CX X.prog X.w) (blkE X s H scope (compEnvC scope cl C X.env) fp xe) σ' (fun c d H' => W c d σ H')) → PE (blkE X s H scope (compEnvC scope cl C X.env) fp xe) elt te)
    (hfold : ∀ x, foldedSetIterable iter X.env x = pure x) (h : tScI X.w wi g tt te (own.map (·.2)) σ H Q)
    (hend : ∀ D (ce : PySem.Env) s' m H', Inv X pins σ H' s' → Q (.ref D) H' → s'.heap.Ns ce.locals m → FpOk X pins H' ce.locals → compEnds (model X.prog X.w) X.A X.xe use Qf (.ref D) ce (.ok .next) s') :
    wpAny (model X.prog X.w) X.A (comprehension (.SetComp elt [⟨tg, iter, ifs, 0⟩] scope pos) scope X.env pos' (newSet (.type "set")) false (eval iter X.env) use) Qf X.xe s := by
  have caps : ∀ y ∈ scope.names, y.2 = .free → ∃ c, X.env.cells.lookup y.1 = some c := fun y hy e => by
    rcases ok.free y hy e with k | k
    · exact I.ok.has _ (.inl k)
    · exact I.ok.has _ (.inr k)
  refine comprehension_at (use := use) rfl hfold (L2.closure_ok caps) ok.kind (fun y hy e => by rw [ok.uniq y hy, e]) (thn (hi.run pins s σ H _ I h) fun xv s1 hx => thn hx fun itv s2 h2 => ?_)
  obtain ⟨it, fp, tn, J, H2, e, I2, Tn, st2, f2, q⟩ := h2
  subst e
  refine PpSet.newSet_ok (L2.newEnv_comp ?_)
  generalize hD : s2.heap.objs.size = D
  obtain ⟨Iv, ⟨m0, w0⟩, turn⟩ := q D (I2.hok.fresh (Nat.le_of_eq hD))
  -- behind the new list
  generalize hs3 : ({ s2 with heap := s2.heap.push { cls := .type "set", dict := none, data := .set #[] 0 (.fresh 0 0 (!X.w.params.followText "set-order")) } } : Shared) = s3
  have heap3 : s3.heap = s2.heap.push { cls := .type "set", dict := none, data := .set #[] 0 (.fresh 0 0 (!X.w.params.followText "set-order")) } := by rw [← hs3]
  have I3 : Inv X pins σ (upd H2 D (SetO X.w D (fun _ => false) 0)) s3 := by
    rw [← hs3]
    refine I2.laid (t' := s2.toks) (fun b o e => Heap.get?_push_of_some _ e) (Nat.le_of_eq hD) ?_
    rw [← hD]
    exact L2.setO_new (L2.setR_fresh X.w)
  have low : ∀ b ∈ fp, b < s2.heap.objs.size := fun b hb => by
    obtain ⟨o, e, _⟩ := Tn.obj _ _ st2 b hb
    exact Heap.lt_size e
  have f3 : ∀ b ∈ fp, FpOk X pins (upd H2 D (SetO X.w D (fun _ => false) 0)) b ∧ b < s3.heap.objs.size := fun b hb => by
    refine ⟨⟨?_, (f2 b hb).2⟩, by rw [heap3, Heap.size_push]; exact Nat.lt_succ_of_lt (low b hb)⟩
    rw [upd_ne (by rw [← hD]; exact Nat.ne_of_lt (low b hb))]
    exact (f2 b hb).1
  have st3 : tn 0 s3.heap := Tn.keep _ _ _ st2 fun b _ o e => by rw [heap3]; exact Heap.get?_push_of_some _ e
  have I4 := L2.block_start I3 ok nd f3
  generalize hce : compEnvC scope (cellsFrom (s3.heap.objs.size + 1) scope.names (L2.cloFrom X.env.cells scope.names [])) s3.heap.objs.size X.env = ce at I4
  have ceL : ce.locals = s3.heap.objs.size := by subst hce; rfl
  have ceF : ce.frame = X.env.frame := by subst hce; rfl
  have fresh : s3.heap.get? ce.locals = none := by
    rw [ceL]
    cases q : s3.heap.get? s3.heap.objs.size with
    | none => rfl
    | some o => exact absurd (Heap.lt_size q) (Nat.lt_irrefl _)
  show codeAny _ _ (.compStart (.SetComp elt [⟨tg, iter, ifs, 0⟩] scope pos) 0 (.ref it) (.ref D) (compEnvC scope (cellsFrom (s3.heap.objs.size + 1) scope.names (L2.cloFrom X.env.cells scope.names [])) s3.heap.objs.size X.env))
    (compEnds (model X.prog X.w) X.A X.xe use Qf (.ref D) (compEnvC scope (cellsFrom (s3.heap.objs.size + 1) scope.names (L2.cloFrom X.env.cells scope.names [])) s3.heap.objs.size X.env)) { s3 with heap := pushCells (s3.heap.push { cls := .type "dict", data := .dict #[] }) scope.names }
  rw [hce]
  generalize hH3 : upd H2 D (SetO X.w D (fun _ => false) 0) = H3 at I3 I4 w0 f3
  generalize hxe : notedBy (model X.prog X.w) X.A ce (fun e s' => compEnds (model X.prog X.w) X.A X.xe use Qf (.ref D) ce (.error e) s') = xb
  have pass : ∀ σ', L2.PassesAt (L2.CX X.prog X.w) (blkE X s3 H3 scope ce fp xb) σ' (fun c d H' => W c d σ H') := fun σ' ps H' s' u s'' J5 cx => by
    show xb u s''
    rw [← hxe]
    exact blk_fails hs hf ceF tk I3 fresh (fun b hb => (f3 b hb).1) J5 cx
  have pg : PG (blkE X s3 H3 scope ce fp xb) tg g := by
    subst hce
    exact hg _ _ _ _ _ _ pass
  have pt : PTs (blkE X s3 H3 scope ce fp xb) ifs tt := by
    subst hce
    exact ht _ _ _ _ _ _ pass
  have pe : PE (blkE X s3 H3 scope ce fp xb) elt te := by
    subst hce
    exact he _ _ _ _ _ _ pass
  have nfp : ∀ b ∈ fp, H3 b = none := fun b hb => (f3 b hb).1.1
  generalize hs4 : ({ s3 with heap := pushCells (s3.heap.push { cls := .type "dict", data := .dict #[] }) scope.names } : Shared) = s4 at I4 ⊢
  have st4 : tn 0 s4.heap := Tn.keep _ _ _ st3 fun b _ o e => by rw [← hs4]; exact pushCells_keeps _ _ _ _ (Heap.get?_push_of_some _ e)
  have foot : ∀ {σ' : L2.St} {H' : Hp} {s' : Shared}, Inv (blkE X s3 H3 scope ce fp xb) [] σ' H' s' → (∀ b ∈ fp, H' b = none) → ∀ b ∈ fp, FpOk (blkE X s3 H3 scope ce fp xb) [] H' b := fun {σ' H' s'} I' hn b hb =>
    ⟨hn b hb, (I'.ok.exf b hb).1, I'.ok.exfs b hb, .inl hb, fun x c e => (I'.ok.exf b hb).2 x c e, fun p hp => absurd (show p ∈ ([] : List (Addr × Obj)) ++ [] from hp) (by simp)⟩
  have loop : codeAny (model X.prog X.w) X.A (.compLoop (.SetComp elt [⟨tg, iter, ifs, 0⟩] scope pos) 0 (.ref it) (.ref D) ce) (compEnds (model X.prog X.w) X.A X.xe use Qf (.ref D) ce) s4 := by
    refine PpSet.compLoopS_any (fun n s' => ∃ i H', Inv (blkE X s3 H3 scope ce fp xb) [] (L2.wipe σ (own.map (·.2))) H' s' ∧ tn i s'.heap ∧ (∀ b ∈ fp, H' b = none) ∧ Iv i n H') ?_ m0 ⟨0, H3, to_blkE I4, st4, nfp, w0⟩
    rw [hxe]
    rintro n s5 ⟨i, H5, I5, st5, n5, w5⟩
    rcases turn i n H5 w5 with ⟨stop, qq⟩ | ⟨go, Nx, hNx, step⟩
    · refine thn (Tn.done (blkE X s3 H3 scope ce fp xb) rfl rfl rfl calm i [] s5 _ H5 xb I5 (foot I5 n5) st5 stop) fun r s6 ⟨hr, I6⟩ => ?_
      subst hr
      have I7 : Inv X pins σ H5 s6 := I3.call' (ch := fp) I6.os I6.base I6.hok I6.bare fun b hb => ⟨(f3 b hb).1.2.2.2.1, (f3 b hb).1.2.1, (f3 b hb).1.2.2.2.2.1, (f3 b hb).1.2.2.2.2.2⟩
      have nC : H5 ce.locals = none := I6.free
      obtain ⟨m, hn, _⟩ := I6.loc
      exact hend D ce s6 m H5 I7 qq hn (I3.fpOk (Nat.le_of_eq ceL.symm) nC)
    · refine thn (Tn.item (blkE X s3 H3 scope ce fp xb) rfl rfl rfl calm i [] s5 _ H5 xb I5 (foot I5 n5) st5 go) fun r s6 ⟨u, hr, h6⟩ => ?_
      subst hr
      refine thn h6 fun _ s7 ⟨x, H7, I7, r7, y7, st7, n7⟩ => ?_
      have I7' := I7.pinned (foot I7 n7) (Tn.obj _ _ st7)
      refine thn (pg.run _ s7 _ H7 x u _ I7' r7 (step x H7 y7)) fun _ s8 ⟨σ8, H8, I8, hw8, q8⟩ => ?_
      refine thn (pt.run _ s8 σ8 H8 _ I8 q8) fun b s9 ⟨H9, I9, q9⟩ => ?_
      have again : ∀ {s' : Shared} {H' : Hp}, Inv (blkE X s3 H3 scope ce fp xb) ([] ++ L2.pinsAt fp s7.heap) σ8 H' s' → Nx H' → ∃ m, m < n ∧ ∃ i H', Inv (blkE X s3 H3 scope ce fp xb) [] (L2.wipe σ (own.map (·.2))) H' s' ∧ tn i s'.heap ∧ (∀ b ∈ fp, H' b = none) ∧ Iv i m H' := fun {s' H'} I' nx => by
        obtain ⟨m', hm, w'⟩ := hNx H' nx
        have still : ∀ b ∈ fp, ∀ o, s7.heap.get? b = some o → s'.heap.get? b = some o ∧ H' b = none := fun b hb o e =>
          let z := I'.pin (b, o) (List.mem_append_right _ (List.mem_append_right _ (L2.mem_pinsAt hb e)))
          ⟨z.1, z.2.1⟩
        have hl : (L2.wipe σ (own.map (·.2))).length = σ8.length := by rw [← hw8, L2.wipe_length]
        refine ⟨m', hm, i + 1, H', (I'.unpinned (pins := [])).weak hl (fun j v e => ?_), Tn.keep _ _ _ st7 fun b hb o e => (still b hb o e).1, fun b hb => ?_, w'⟩
        · rw [← hw8] at e
          exact (L2.wipe_some e).1
        · obtain ⟨o, e, _⟩ := Tn.obj _ _ st7 b hb
          exact (still b hb o e).2
      cases b with
      | false =>
        simp only [Bool.false_eq_true, if_false] at q9 ⊢
        exact again I9 q9
      | true =>
        simp only [if_true] at q9 ⊢
        refine thn (pe.run _ s9 σ8 H9 _ I9 q9) fun z s10 ⟨yv, H10, I10, r10, y, S0, n0, ey, hD10, hz10, nx⟩ => ?_
        subst ey
        obtain ⟨tk0, rfl⟩ : ∃ tk, z = Value.int y tk := r10
        exact addI_ok (X := blkE X s3 H3 scope ce fp xb) I10 hD10 hz10 fun s11 I11 => again I11 nx
  exact PpSet.codeAny_compStart_set loop (Tn.self X.A 0 _ _ _ st4 loop)
variable {T : List (Addr × Str)} {fld : Fld} {Z : Gh} {σ σ' : L2.St} {F F' H H' : Hp} {ρ ρ' : Env} {K : PySem.W.Frag}
/-- the new set, so far -/
def AccS (w : World) (Z : Gh) (F H : Hp) (σ : L2.St) (ρ : Env) (p : Addr) (acc : List D) : Prop :=
  ∃ (ns : List Int) (S : Int → Bool) (n : Nat), acc = ns.map .int ∧ H p = some (SetO w p S n) ∧ (∀ k, S k = true ↔ k ∈ ns) ∧ n ≤ ns.length ∧ F p = none ∧ Nt Z.H p ∧ ∀ j, isOwn ρ j → σ[j]? ≠ some (some (.ref p))
theorem AccS.step {w : World} {p : Addr} {acc : List D} (R : Rel K T Z F' H' σ ρ') (S : Stp F H σ ρ F' H' ρ') (a : AccS w Z F H σ ρ p acc) : AccS w Z F' H' σ ρ' p acc := by
  obtain ⟨ns, S0, n, h0, h1, h2, h2n, h3, h4, h5⟩ := a
  refine ⟨ns, S0, n, h0, ?_, h2, h2n, ?_, h4, fun j hj => h5 j (S.own j hj)⟩
  · exact S.keep p _ h1 h5 fun ps z => by cases z
  · cases q : F' p with
    | none => rfl
    | some o =>
      rcases S.nfz p o q with h | h | ⟨i, hi, e⟩
      · rw [h3] at h; cases h
      · obtain ⟨ps, z⟩ := h _ h1
        cases z
      · exact absurd e (h5 i hi)
theorem AccS.slots {w : World} {p : Addr} {acc : List D} (a : AccS w Z F H σ ρ p acc) (h : ∀ j, isOwn ρ' j → isOwn ρ j ∧ σ'[j]? = σ[j]?) : AccS w Z F H σ' ρ' p acc := by
  obtain ⟨ns, S, n, h0, h1, h2, h2n, h3, h4, h5⟩ := a
  exact ⟨ns, S, n, h0, h1, h2, h2n, h3, h4, fun j hj => by
    obtain ⟨x, y⟩ := h j hj
    rw [y]
    exact h5 j x⟩
theorem set_not_code {w : World} {p : Addr} {S : Int → Bool} {n : Nat} {q : Str} : SetO w p S n ≠ LamX.CodeO p q := fun e => by
  have e : (fun h => SetR w h p S n) = fun h => ∃ (oc : Obj) (vs : Array Value) (t : Tok), h.get? p = some oc ∧ oc.data = .fields vs ∧ vs[1]? = some (.str q t) := by injection e
  let h0 : Heap := { objs := Array.replicate p { cls := .type "code", data := .fields #[.none, .str q 0] } }
  have hs : h0.objs.size = p := Array.size_replicate ..
  have hg : (h0.push { cls := .type "code", data := .fields #[.none, .str q 0] }).get? h0.objs.size = some { cls := .type "code", data := .fields #[.none, .str q 0] } := Heap.get?_push_size _ rfl
  rw [hs] at hg
  have r : SetR w (h0.push { cls := .type "code", data := .fields #[.none, .str q 0] }) p S n := (congrFun e _).mpr ⟨_, _, 0, hg, rfl, rfl⟩
  obtain ⟨o, es, ep, t, ho, _, hd, _⟩ := r
  rw [hg] at ho
  cases ho
  cases hd
theorem tabs_updS {w : World} {p : Addr} {S : Int → Bool} {n : Nat} {o : HO} (t : LamX.Tabs T H) (h1 : H p = some (SetO w p S n)) : LamX.Tabs T (upd H p o) := by
  intro q hq
  obtain ⟨ps, a1, a2, a3⟩ := t q hq
  have n1 : q.1 ≠ p := fun e => by rw [e, h1] at a1; cases a1
  refine ⟨ps, by rw [upd_ne n1]; exact a1, a2, fun pos cv hcv => ?_⟩
  obtain ⟨c, e1, e2⟩ := a3 pos cv hcv
  refine ⟨c, e1, ?_⟩
  rw [upd_ne fun e => by rw [e, h1] at e2; exact set_not_code (Option.some.inj e2)]
  exact e2
theorem Rel.growS (R : Rel K T Z F H σ ρ) {w : World} {p : Addr} {S : Int → Bool} {n : Nat} {u : HO} (h1 : H p = some (SetO w p S n)) (hF : F p = none) (hZ : Nt Z.H p) (ho : ∀ j, isOwn ρ j → σ[j]? ≠ some (some (.ref p))) : Rel K T Z F (upd H p u) σ ρ := by
  have own : ∀ {i a ds}, isOwn ρ i → Own K F H σ i a ds → Own K F (upd H p u) σ i a ds := fun {i a ds} hi x => ⟨x.at_, x.nf, by
    obtain ⟨ws, e, r⟩ := x.ob
    exact ⟨ws, by rw [upd_ne fun z => ho i hi (by rw [← z]; exact x.at_)]; exact e, r⟩⟩
  refine ⟨fun b o e => ?_, R.ntb, tabs_updS R.tab h1, fun b o e n t => ?_, R.old, R.new, R.len, R.pl, fun i ds e => ?_, fun i ds e => ?_, R.mi, R.ap⟩
  · rw [upd_ne fun z => by rw [z, hF] at e; cases e]
    exact R.sub b o e
  · have hb : b ≠ p := fun z => by
      rw [z] at e
      obtain ⟨ps, q⟩ := hZ o e
      exact t ps q
    rw [upd_ne hb]
    exact R.keep b o e n t
  · obtain ⟨a, o, z⟩ := R.ow i ds e
    exact ⟨a, own ⟨ds, .inl e⟩ o, z⟩
  · obtain ⟨a, o, z⟩ := R.io i ds e
    exact ⟨a, own ⟨ds, .inr e⟩ o, z⟩
theorem intO_int {f : Env → Out VT} {ρ ρ' : Env} {r : VT} (h : intO f ρ = .ok r ρ') : ∃ y, r = .pl (.int y) := by
  unfold intO at h
  cases e : f ρ with
  | ok v ρ1 =>
    rw [e] at h
    cases e2 : v.d with
    | int i =>
      have h : (match v.d with | .int i => Out.ok (VT.pl (PyData.int i)) ρ1 | _ => .no) = Out.ok r ρ' := h
      rw [e2] at h
      cases h
      exact ⟨i, rfl⟩
    | _ =>
      have h : (match v.d with | .int i => Out.ok (VT.pl (PyData.int i)) ρ1 | _ => .no) = Out.ok r ρ' := h
      rw [e2] at h
      cases h
  | er x ρ1 => rw [e] at h; cases h
  | no => rw [e] at h; cases h
theorem sc_sem {it : Env → Out (List D)} {tg : Tg} {c : Env → Out Bool} {e : Env → Out VT} {own : List Nat} {Q : VK} {Wb : WX} (ho : ∀ i ∈ tgIx tg, i ∈ own)
    (h : ∃ F ρ, Rel X.K T Z F H σ ρ ∧ Fin X T fld Z W σ F H ρ (it ρ) fun items ρ1 _ _ => Fin X T fld Z Wb σ F H ρ (if items.length < 64 then lcAll own (lcTurn tg c (intO e)) items ρ1 else .no) fun r ρ' F' H' => ∀ (D : Addr) (ns : List Int) (S : Int → Bool) (n : Nat), r = VT.fr (ns.map PyData.int) → H' D = some (SetO X.w D S n) → (∀ k, S k = true ↔ k ∈ ns) → n ≤ ns.length → Q (.ref D) H') :
    tScI X.w (tI X T fld Z it W) (gT X.K T Z tg) (tT X T fld Z c fun x d _ H => Wb x d σ H) (tE X T fld Z (intO e) fun x d _ H => Wb x d σ H) own σ H Q := by
  obtain ⟨F, ρ, R, q⟩ := h
  refine ⟨F, ρ, R, Fin.mono q fun items ρ1 F1 H1 R1 S1 k J wk D hD => ?_⟩
  by_cases h64 : items.length < 64
  case neg => rw [if_neg h64] at k; exact k.elim
  rw [if_pos h64] at k
  unfold lcAll at k
  cases ew : wipeE own ρ1 with
  | none => simp only [ew] at k; exact k.elim
  | some ρw =>
    simp only [ew] at k
    obtain ⟨rfl, hw⟩ := wipeE_is ew
    have nio : ∀ v ∈ own, ∀ ds, ρ1[v]? ≠ some (Slot.io ds) := fun v hv ds => by
      rcases hw v hv with q | ⟨d, q⟩
      · rw [q]; intro z; cases z
      · rw [q]; intro z; cases z
    have ww : ∀ ρ : Env, wiped (wiped ρ own) own = wiped ρ own := fun ρ => by
      apply List.ext_getElem?
      intro j
      have hl : (wiped ρ own).length = ρ.length := by
        have : ∀ vs : List Nat, (wiped ρ vs).length = ρ.length := fun vs => by
          induction vs with
          | nil => rfl
          | cons a l ih => unfold wiped; rw [List.length_set, ih]
        exact this own
      rw [wiped_get, wiped_get, hl]
      split
      · rfl
      · rfl
    have hDH : Nt H D ∨ ∃ i, isOwn ρ i ∧ σ[i]? = some (some (.ref D)) := S1.back (nt_none hD)
    -- the invariant
    refine ⟨fun i m H2 => m = items.length - i ∧ i ≤ items.length ∧ ∃ F2 ρ2 acc, acc.length ≤ i ∧ Rel X.K T Z F2 H2 (L2.wipe σ own) (wiped ρ2 own) ∧ (∀ b o, F1 b = some o → F2 b = some o) ∧ Stp F H σ ρ F2 H2 (restore ρ1 own ρ2) ∧
      AccS X.w Z F2 H2 (L2.wipe σ own) (wiped ρ2 own) D acc ∧ Fin X T fld Z Wb σ F H ρ (lcFin ρ1 own (lcLoop (lcTurn tg c (intO e)) own (items.drop i) acc ρ2)) fun r ρ' F' H' => ∀ (D : Addr) (ns : List Int) (S : Int → Bool) (n : Nat), r = VT.fr (ns.map PyData.int) → H' D = some (SetO X.w D S n) → (∀ k, S k = true ↔ k ∈ ns) → n ≤ ns.length → Q (.ref D) H', ⟨_, rfl, Nat.zero_le _, ?_⟩, ?_⟩
    · -- at the start
      have R2 := (R1.alloc (o := SetO X.w D (fun _ => false) 0) hD).wipe nio
      have hrest : restore ρ1 own (wiped ρ1 own) = ρ1 := by
        apply List.ext_getElem?
        intro j
        rw [restore_get, wiped_get]
        have hl : ∀ vs : List Nat, (wiped ρ1 vs).length = ρ1.length := fun vs => by
          induction vs with
          | nil => rfl
          | cons a l ih => unfold wiped; rw [List.length_set, ih]
        rw [hl]
        by_cases hj : j ∈ own ∧ j < ρ1.length
        · rw [if_pos hj]
          obtain ⟨h1, h2⟩ := hj
          rw [List.getElem?_eq_getElem h2]
          rfl
        · rw [if_neg hj, if_neg hj]
      refine ⟨F1, wiped ρ1 own, [], Nat.zero_le _, by rw [ww]; exact R2, fun _ _ h => h, ?_, ?_, ?_⟩
      · rw [hrest]
        exact S1.trans R1 (stp_alloc (o := SetO X.w D (fun _ => false) 0) hD)
      · refine ⟨[], _, 0, rfl, upd_same, fun k => by simp, Nat.le_refl _, R1.fnone hD, R1.free0 hD, fun j hj e => ?_⟩
        rw [ww] at hj
        have e2 : σ[j]? = some (some (.ref D)) := (L2.wipe_some e).1
        obtain ⟨ds, z⟩ := hj
        have : isOwn ρ1 j := by
          rw [wiped_get] at z
          split at z
          · rcases z with z | z <;> cases z
          · exact ⟨ds, z⟩
        exact R1.notAt hD this e2
      · rw [List.drop_zero]
        exact k
    · rintro i m H2 ⟨rfl, hi, F2, ρ2, acc, hacc, R2, up2, S2, A2, k2⟩
      by_cases hlt : i < items.length
      · -- a turn
        have edrop : items.drop i = items[i] :: items.drop (i + 1) := List.drop_eq_getElem_cons hlt
        obtain ⟨go, yl⟩ := wk.go i F2 H2 _ _ items[i] (List.getElem?_eq_getElem hlt) R2 up2
        refine .inr ⟨go, fun H' => ∃ F2 ρ2 acc, acc.length ≤ i + 1 ∧ Rel X.K T Z F2 H' (L2.wipe σ own) (wiped ρ2 own) ∧ (∀ b o, F1 b = some o → F2 b = some o) ∧ Stp F H σ ρ F2 H' (restore ρ1 own ρ2) ∧
          AccS X.w Z F2 H' (L2.wipe σ own) (wiped ρ2 own) D acc ∧ Fin X T fld Z Wb σ F H ρ (lcFin ρ1 own (lcLoop (lcTurn tg c (intO e)) own (items.drop (i + 1)) acc ρ2)) fun r ρ' F' H' => ∀ (D : Addr) (ns : List Int) (S : Int → Bool) (n : Nat), r = VT.fr (ns.map PyData.int) → H' D = some (SetO X.w D S n) → (∀ k, S k = true ↔ k ∈ ns) → n ≤ ns.length → Q (.ref D) H',
          fun H' n => ⟨_, by omega, rfl, hlt, n⟩, fun x H3 y => ?_⟩
        obtain ⟨F3, R3, S3, dx⟩ := yl x H3 y
        rw [edrop] at k2
        have k2 : Fin X T fld Z Wb σ F H ρ (lcFin ρ1 own ((lcTurn tg c (intO e) items[i] (wiped ρ2 own)).bind fun o ρ => match o with
          | some v => if acc.length < SZ then lcLoop (lcTurn tg c (intO e)) own (items.drop (i + 1)) (acc ++ [v]) ρ else .no
          | none => lcLoop (lcTurn tg c (intO e)) own (items.drop (i + 1)) acc ρ)) _ := k2
        have A3 := A2.step R3 S3
        cases ea : asg tg items[i] (wiped ρ2 own) with
        | none =>
          have : lcTurn tg c (intO e) items[i] (wiped ρ2 own) = .no := by unfold lcTurn; simp only [ea]
          rw [this] at k2
          exact k2.elim
        | some ρ4 =>
          have et : lcTurn tg c (intO e) items[i] (wiped ρ2 own) = (c ρ4).bind fun k ρ => if k then (intO e ρ).bind fun v ρ => .ok (some v.d) ρ else .ok none ρ := by unfold lcTurn; simp only [ea]
          rw [et] at k2
          have own4 := asg_own tg _ _ _ ea
          refine ⟨F3, wiped ρ2 own, items[i], ρ4, R3, dx, ea, fun σ4 R4 B4 => ?_⟩
          have hw4 : L2.wipe σ4 own = L2.wipe σ own := by
            apply List.ext_getElem?
            intro j
            by_cases hj : j ∈ own
            · have wn : ∀ {σ : L2.St} {vs : List Nat}, j ∈ vs → (L2.wipe σ vs)[j]? = if j < σ.length then some none else none := fun {σ vs} => by
                induction vs with
                | nil => intro z; cases z
                | cons v vs ih =>
                  intro z
                  unfold L2.wipe
                  by_cases hv : v = j
                  · subst hv
                    by_cases hl : v < σ.length
                    · rw [List.getElem?_set_self (by rw [L2.wipe_length]; exact hl), if_pos hl]
                    · rw [List.getElem?_eq_none (by rw [List.length_set, L2.wipe_length]; omega), if_neg hl]
                  · rw [List.getElem?_set_ne hv]
                    exact ih ((List.mem_cons.mp z).resolve_left (Ne.symm hv))
              rw [wn hj, wn hj, B4.1, L2.wipe_length]
            · rw [wipe_get _ _ hj, B4.2 j (fun z => hj (ho j z))]
          refine ⟨hw4, ?_⟩
          have A4 : AccS X.w Z F3 H3 σ4 ρ4 D acc := A3.slots fun j hj => by
            obtain ⟨a, b⟩ := own4 j hj
            exact ⟨a, B4.2 j b⟩
          -- from the block's state back to the loop's
          have out_ : ∀ {F5 H5 : Hp} {ρ5 : Env} {acc' : List PyData}, Rel X.K T Z F5 H5 σ4 ρ5 → Stp F3 H3 σ4 ρ4 F5 H5 ρ5 → AccS X.w Z F5 H5 σ4 ρ5 D acc' →
              Rel X.K T Z F5 H5 (L2.wipe σ own) (wiped ρ5 own) ∧ (∀ b o, F1 b = some o → F5 b = some o) ∧ Stp F H σ ρ F5 H5 (restore ρ1 own ρ5) ∧ AccS X.w Z F5 H5 (L2.wipe σ own) (wiped ρ5 own) D acc' := by
            intro F5 H5 ρ5 acc' R5 S5 A5
            have own5 : ∀ j, isOwn ρ5 j → isOwn (wiped ρ2 own) j ∧ j ∉ own := fun j hj => by
              have h4 := (own4 j (S5.own j hj)).1
              exact ⟨h4, (in_own h4).2⟩
            have R5' := R5.wipe (vs := own) fun v hv ds z => (own5 v ⟨ds, .inr z⟩).2 hv
            rw [hw4] at R5'
            refine ⟨R5', fun b o z => S5.frz b o (S3.frz b o (up2 b o z)), ?_, A5.slots fun j hj => ?_⟩
            · have S3' : Stp F2 H2 σ (restore ρ1 own ρ2) F3 H3 (restore ρ1 own ρ2) := S3.conv (fun j hj => ⟨(back_own hw).2 hj, (wipe_get _ _ (in_own hj).2).symm⟩) fun j hj => hj
              have S5' : Stp F3 H3 σ (restore ρ1 own ρ2) F5 H5 (restore ρ1 own ρ5) := S5.conv (fun j hj => by
                obtain ⟨a, b⟩ := own4 j hj
                have n := (in_own a).2
                exact ⟨(back_own hw).2 a, by rw [B4.2 j b, wipe_get _ _ n]⟩) fun j hj => by
                  have h5 := (back_own hw).1 hj
                  exact (back_own hw).2 (own5 j (in_own h5).1).1
              exact S2.trans (R1.back up2 R2 hw) (S3'.trans (R1.back (fun b o z => S3.frz b o (up2 b o z)) R3 hw) S5')
            · obtain ⟨a, b⟩ := in_own hj
              exact ⟨a, by rw [← hw4, wipe_get _ _ b]⟩
          have raised : ∀ {x : Exn} {ρ5 : Env}, Fin X T fld Z Wb σ F H ρ (.er x (restore ρ1 own ρ5)) (fun r ρ' F' H' => ∀ (D : Addr) (ns : List Int) (S : Int → Bool) (n : Nat), r = VT.fr (ns.map PyData.int) → H' D = some (SetO X.w D S n) → (∀ k, S k = true ↔ k ∈ ns) → n ≤ ns.length → Q (.ref D) H') → ∀ cl d F5 H5, Rel X.K T Z F5 H5 σ4 ρ5 → Stp F3 H3 σ4 ρ4 F5 H5 ρ5 → Xv X.K X.mg fld F5 H5 cl d x → Wb cl d σ H5 :=
            fun {x ρ5} k cl d F5 H5 R5 S5 xv => by
              obtain ⟨b1, b2, b3, _⟩ := out_ R5 S5 (A4.step R5 S5)
              exact k cl d F5 H5 (R1.back b2 b1 hw) b3 xv
          refine ⟨F3, ρ4, R4, ?_⟩
          cases ec : c ρ4 with
          | no => rw [ec] at k2; exact k2.elim
          | er x ρ5 => rw [ec] at k2; exact raised k2
          | ok kb ρ5 =>
            rw [ec] at k2
            intro F5 H5 R5 S5
            have A5 := A4.step R5 S5
            cases kb with
            | false =>
              obtain ⟨b1, b2, b3, b4⟩ := out_ R5 S5 A5
              exact ⟨F5, ρ5, acc, Nat.le_succ_of_le hacc, b1, b2, b3, b4, k2⟩
            | true =>
              refine ⟨F5, ρ5, R5, ?_⟩
              have k2 : Fin X T fld Z Wb σ F H ρ (lcFin ρ1 own (((intO e ρ5).bind fun v ρ => Out.ok (some v.d) ρ).bind fun o ρ => match o with
                | some v => if acc.length < SZ then lcLoop (lcTurn tg c (intO e)) own (items.drop (i + 1)) (acc ++ [v]) ρ else .no
                | none => lcLoop (lcTurn tg c (intO e)) own (items.drop (i + 1)) acc ρ)) _ := k2
              cases ee : intO e ρ5 with
              | no => rw [ee] at k2; exact k2.elim
              | er x ρ6 =>
                rw [ee] at k2
                exact fun cl d F6 H6 R6 S6 xv => raised k2 cl d F6 H6 R6 (S5.trans R5 S6) xv
              | ok r ρ6 =>
                rw [ee] at k2
                have k2 : Fin X T fld Z Wb σ F H ρ (lcFin ρ1 own (if acc.length < SZ then lcLoop (lcTurn tg c (intO e)) own (items.drop (i + 1)) (acc ++ [r.d]) ρ6 else .no)) _ := k2
                by_cases hz : acc.length < SZ
                · rw [if_pos hz] at k2
                  intro F6 H6 R6 S6 v rv
                  obtain ⟨y, rfl⟩ := intO_int ee
                  cases rv
                  have A6 := A5.step R6 S6
                  obtain ⟨b1, b2, b3, b4⟩ := out_ R6 (S5.trans R5 S6) A6
                  obtain ⟨ns, S, n, a0, a1, a2, a2n, a3, a4, a5⟩ := b4
                  have hln : ns.length = acc.length := by rw [a0, List.length_map]
                  refine ⟨y, S, n, rfl, a1, by unfold scanBound; omega, F6, ρ6, acc ++ [.int y], by rw [List.length_append]; simp; exact hacc, b1.growS a1 a3 a4 a5, b2, b3.grow hDH, ⟨ns ++ [y], _, _, by rw [a0]; simp, upd_same, fun k => ?_, ?_, a3, a4, a5⟩, k2⟩
                  · rw [List.mem_append, Bool.or_eq_true, a2 k]
                    simp
                  · rw [List.length_append]
                    split <;> simp <;> omega
                · rw [if_neg hz] at k2
                  exact k2.elim
      · have e : i = items.length := by omega
        subst e
        have ed : items.drop items.length = [] := List.drop_length
        rw [ed] at k2
        refine .inl ⟨wk.stop F2 H2 _ _ R2 up2, ?_⟩
        have k2 : Fin X T fld Z Wb σ F H ρ (Out.ok (VT.fr acc) (restore ρ1 own ρ2)) _ := k2
        have Rb := R1.back up2 R2 hw
        obtain ⟨ns, S, n, a0, a1, a2, a2n, a3, a4, a5⟩ := A2
        subst a0
        exact k2 F2 H2 Rb S2 D ns S n rfl a1 a2 a2n
end
end Sw

end
section
set_option maxRecDepth 100000
set_option maxHeartbeats 4000000
namespace Sw
open PySem PySem.Spec PyProof.Rows
open L2 (V Hp HO upd upd_same upd_ne SqL SqT Rd VK XK WX Cx Inv RelV Vals PE PT PW PA PI PS PSs EP TP AP SP TE TT TA TS TI It Takes thn Gl Vis Loc Room OpR CallR TyX PG PGs TG TGs PTs Ends Sp FnOk frs FpOk SetO SetR)
theorem insU_mem {x y : Int} : ∀ {l : List Int}, y ∈ insU x l ↔ y = x ∨ y ∈ l
  | [] => by simp [insU]
  | z :: r => by
    unfold insU
    split
    · simp
    · simp only [List.mem_cons, insU_mem]
      constructor
      · rintro (h | h | h) <;> simp [h]
      · rintro (h | h | h) <;> simp [h]
theorem sortU_mem {y : Int} : ∀ {l : List Int}, y ∈ sortU l ↔ y ∈ l
  | [] => Iff.rfl
  | z :: r => by rw [sortU, insU_mem, sortU_mem, List.mem_cons]
theorem insU_lt {x : Int} : ∀ {l : List Int}, l.Pairwise (· < ·) → x ∉ l → (insU x l).Pairwise (· < ·)
  | [], _, _ => by simp [insU]
  | z :: r, h, hx => by
    obtain ⟨h1, h2⟩ := List.pairwise_cons.mp h
    have hz : x ≠ z := fun e => hx (by simp [e])
    unfold insU
    split
    · refine List.pairwise_cons.mpr ⟨fun y hy => ?_, h⟩
      rcases List.mem_cons.mp hy with e | e
      · omega
      · have := h1 y e; omega
    · refine List.pairwise_cons.mpr ⟨fun y hy => ?_, insU_lt h2 fun e => hx (by simp [e])⟩
      rcases insU_mem.mp hy with e | e
      · omega
      · exact h1 y e
theorem sortU_lt : ∀ {l : List Int}, l.Nodup → (sortU l).Pairwise (· < ·)
  | [], _ => List.Pairwise.nil
  | z :: r, h => by
    obtain ⟨h1, h2⟩ := List.nodup_cons.mp h
    exact insU_lt (sortU_lt h2) fun e => h1 (sortU_mem.mp e)
theorem lt_eq : ∀ {l k : List Int}, l.Pairwise (· < ·) → k.Pairwise (· < ·) → (∀ x, x ∈ l ↔ x ∈ k) → l = k
  | [], [], _, _, _ => rfl
  | [], y :: _, _, _, h => by have := (h y).mpr (by simp); cases this
  | x :: _, [], _, _, h => by have := (h x).mp (by simp); cases this
  | x :: r, y :: t, hl, hk, h => by
    obtain ⟨l1, l2⟩ := List.pairwise_cons.mp hl
    obtain ⟨k1, k2⟩ := List.pairwise_cons.mp hk
    have e : x = y := by
      have a := (h x).mp (by simp)
      have b := (h y).mpr (by simp)
      rcases List.mem_cons.mp a with a | a
      · exact a
      · rcases List.mem_cons.mp b with b | b
        · exact b.symm
        · have := k1 x a; have := l1 y b; omega
    subst e
    congr 1
    refine lt_eq l2 k2 fun z => ?_
    constructor
    · intro hz
      have := (h z).mp (by simp [hz])
      rcases List.mem_cons.mp this with e | e
      · have := l1 z hz; omega
      · exact e
    · intro hz
      have := (h z).mpr (by simp [hz])
      rcases List.mem_cons.mp this with e | e
      · have := k1 z hz; omega
      · exact e
theorem intsD_back : ∀ ns : List Int, intsD (ns.map PyData.int) = some ns
  | [] => rfl
  | i :: r => by
    show (intsD (r.map PyData.int)).map _ = _
    rw [intsD_back r]
    rfl
theorem rps_ints_ {K : PySem.W.Frag} {F : Hp} : ∀ ns : List Int, Rps K F (ns.map V.int) (ns.map PyData.int)
  | [] => .nil
  | i :: r => .cons (.int i) (rps_ints_ r)
theorem boot_sorted : bootBuiltins "sorted" = some (.builtin "sorted") := by kernel_rfl
section
variable {X : Cx} {T : List (Addr × Str)} {fld : Fld} {Z : Gh} {W : WX} {scope : Scope}
theorem int_elt {Y : Cx} {elt : Expr} {e : Env → Out VT} {V0 : WX} (h : PE Y elt (tE Y T fld Z e V0)) : PE Y elt (tE Y T fld Z (intO e) V0) := by
  refine ⟨fun pins s σ H Q I ⟨F, ρ, R, q⟩ => h.run pins s σ H Q I ⟨F, ρ, R, ?_⟩⟩
  refine Fin.mono (Fin.bind q) fun r ρ1 F1 H1 R1 S1 k v rv => ?_
  cases r with
  | fr l => exact k.elim
  | pl d =>
    cases d with
    | int i => exact k F1 H1 R1 S1 v rv
    | _ => exact k.elim
theorem t_sset {elt tg iter : Expr} {ifs : List Expr} {own : List (Str × Nat)} {p pos0 pos : Pos} {it : Env → Out (List D)} {tgt : Tg} {c : Env → Out Bool} {e : Env → Out VT} (hs : X.stack = X.env :: X.outer) (hf : X.env.frame = some X.env.locals) (tk : Takes X W) (calm : X.calm = true) (nd : X.N.Nodup)
    (hg0 : Gl X "sorted") (hm : X.mg "sorted" = none) (hi : PI X tg iter (tI X T fld Z it W)) (ok : L2.BlkOk X.N X.env.scope scope own) (ho : ∀ i ∈ tgIx tgt, i ∈ own.map (·.2)) (hg : InBlk X W scope fun Y _ => PG Y tg (gT X.K T Z tgt)) (ht : InBlk X W scope fun Y σ => PTs Y ifs (tT X T fld Z c fun x d _ H => W x d σ H))
    (he : InBlk X W scope fun Y σ => PE Y elt (tE X T fld Z (intO e) fun x d _ H => W x d σ H)) (hfold : ∀ x, foldedSetIterable iter X.env x = pure x)
    (hst : starEach [.SetComp elt [⟨tg, iter, ifs, 0⟩] scope pos0] X.env = (false, eval (.SetComp elt [⟨tg, iter, ifs, 0⟩] scope pos0) X.env) :: starEach [] X.env) :
    PE X (.Call (.Name "sorted" p) [.SetComp elt [⟨tg, iter, ifs, 0⟩] scope pos0] [] pos)
      (tE X T fld Z (fun ρ => (it ρ).bind fun items ρ => (if items.length < 64 then lcAll (own.map (·.2)) (lcTurn tgt c (intO e)) items ρ else .no).bind fun r ρ => ret? (ssetV r.d) ρ) W) := by
  refine ⟨fun pins s σ H Q I ⟨F, ρ, R, q⟩ => ?_⟩
  refine Call_ (L2.ld_blt I hg0 hm boot_sorted ?_)
  refine PyProof.Rows.callWith_builtin1 (PyProof.Rows.args_cons ?_ hst) rfl rfl
  rw [PpSet.eval_SetComp]
  refine sc_run (Q := fun v H' => ∃ (D : Addr) (ns : List Int) (S : Int → Bool) (n : Nat) (F' : Hp) (ρ' : Env), v = .ref D ∧ H' D = some (SetO X.w D S n) ∧ (∀ k, S k = true ↔ k ∈ ns) ∧ n ≤ ns.length ∧ Rel X.K T Z F' H' σ ρ' ∧ Stp F H σ ρ F' H' ρ' ∧
    Fin X T fld Z W σ F H ρ (ret? (ssetV (.list (ns.map .int))) ρ') fun r ρ' F' H' => ∀ v, Rv X.K Z H ρ F' H' σ ρ' v r → Q v H')
    hs hf tk calm nd I hi ok (hg σ) (ht σ) (he σ) hfold (sc_sem (Wb := W) ho ⟨F, ρ, R, Fin.mono (Fin.bind q) fun items ρ1 F1 H1 R1 S1 k => Fin.mono (Fin.bind k) fun r ρ2 F2 H2 R2 S2 k2 D ns S n er hD hS hn =>
      ⟨D, ns, S, n, F2, ρ2, rfl, hD, hS, hn, R2, S2, by rw [er] at k2; exact k2⟩⟩) fun D ce s' m H' I' q' hn f => ?_
  obtain ⟨D', ns, S, n, F', ρ', e1, hD, hS, hn2, R', S', k⟩ := q'
  cases e1
  refine ⟨m, hn, fun h'' sb => ?_⟩
  obtain ⟨f0, f1, f2, f3, f4, f5⟩ := f
  have I2 := I'.turned (t' := s'.toks) (fun b o hb e => (sb.2 b hb).trans e) f0 f1 f3 f4 f5
  refine PyProof.Rows.args_nil ?_
  by_cases h64 : ns.length < 64
  · have sv : ssetV (.list (ns.map .int)) = some (.fr ((sortU (nub ns)).map .int)) := by
      show (if (ns.map PyData.int).length < 64 then (intsD (ns.map PyData.int)).map _ else none) = _
      rw [if_pos (by simpa using h64), show intsD (ns.map PyData.int) = some ns from intsD_back ns]
      rfl
    rw [sv] at k
    refine L2.cr_sortedSet calm pins _ σ H' [V.ref D] [Value.ref D] Q I2 (.cons rfl .nil) ⟨D, S, n, rfl, hD, by omega, fun ns' p' pw mem len hp => ?_⟩
    have en : ns' = sortU (nub ns) := lt_eq pw (sortU_lt nub_nd) fun x => by rw [mem x, hS x, sortU_mem, nub_mem]
    subst en
    refine k F' _ (R'.alloc hp) (S'.trans R' (stp_alloc hp)) _ ⟨p', _, rfl, upd_same, R'.fnone hp, rps_ints_ _, R'.free0 hp, fun j hj => R'.notAt hp hj, S'.back (nt_none hp)⟩
  · have sv : ssetV (.list (ns.map .int)) = none := by
      show (if (ns.map PyData.int).length < 64 then _ else none) = _
      rw [if_neg (by simpa using h64)]
    rw [sv] at k
    exact k.elim
end
end Sw

end
section
set_option maxRecDepth 100000
set_option maxHeartbeats 4000000
namespace PySem
namespace SwE
open PySem.W PyProof.Rows
theorem meets_en {v : Value} {o : Obj} {H : Heap → Prop} (B : Begins v o H) :
    Meets (Builtin.«enumerate.__new__» ⟨[.type "enumerate", v], []⟩) (fun _ R s => H s.heap ∧
      R (.ok (.ret (.ref (s.heap.push o).objs.size))) { s with heap := (s.heap.push o).push { cls := .type "enumerate", data := .fields #[.none, .bool false, .ref s.heap.objs.size, rawInt 0, .none, .none] } }) :=
  .of_wp fun prog w A R s h => by
    obtain ⟨hp, g, dr, tk, os⟩ := s
    obtain ⟨h1, h⟩ := h
    have hsub := sub_enumerate
    have it1 : ∀ {A1 : Around} {E1 : Value → Shared → Prop} {Q1 : Value → Shared → Prop}, Q1 (.ref hp.objs.size) ⟨hp.push o, g, dr, tk, os⟩ → wpAny (model prog w) A1 (pyIter v) Q1 E1 ⟨hp, g, dr, tk, os⟩ := fun q => B.iter prog w _ _ ⟨hp, g, dr, tk, os⟩ _ h1 q
    wp_walk using it1
    refine wpAny_stack_any fun st => wpAny_pure ?_
    split
    · rename_i c _ _ _ _ _
      cases (c == Value.type "enumerate")
      · wp_walk using it1
        exact ⟨_, rfl, h⟩
      · wp_walk using it1
        exact ⟨_, rfl, h⟩
    · wp_walk using it1
      exact ⟨_, rfl, h⟩
theorem en_begins {prog : Program} {w : World} {A : Around} {E : Value → Shared → Prop} {s : Shared} {v : Value} {o : Obj} {H : Heap → Prop} {Q : Value → Shared → Prop} (B : Begins v o H) (h1 : H s.heap)
    (h : ∀ h', IsEnum h' (s.heap.objs.size + 1) s.heap.objs.size 0 .none → h'.get? s.heap.objs.size = some o → h'.objs.size = s.heap.objs.size + 2 → (∀ b u, s.heap.get? b = some u → h'.get? b = some u) → Q (.ref (s.heap.objs.size + 1)) { s with heap := h' }) :
    wpAny (model prog w) A (call (.type "enumerate") [v]) Q E s := by
  refine callType_new F.called_enumerate (by decide) (F.typeCall_enumerate_1 _) (F.newCall_enumerate_1 _) (fun ob => F.args_object_init_2 ob _) F.entry_enumerate_new (meets_en B) ⟨h1, ?_⟩
  have z : (s.heap.push o).objs.size = s.heap.objs.size + 1 := Heap.size_push ..
  show _ ∧ _
  rw [z]
  have g := Heap.get?_push_size (s.heap.push o) (o := { cls := .type "enumerate", data := .fields #[.none, .bool false, .ref s.heap.objs.size, rawInt 0, .none, .none] }) rfl
  rw [z] at g
  exact ⟨⟨_, g, rfl⟩, h _ g (Heap.get?_push_of_some _ (Heap.get?_push_size _ B.free)) (by rw [Heap.size_push, z]) fun b u x => Heap.get?_push_of_some _ (Heap.get?_push_of_some _ x)⟩
end SwE
end PySem
namespace Sw
open PySem PySem.Spec PyProof.Rows
open L2 (V Hp HO upd upd_same upd_ne SqL SqT Rd VK XK WX Cx Inv RelV Vals PE PT PW PA PI PS PSs EP TP AP SP TE TT TA TS TI It Takes thn Gl Vis Loc Room OpR CallR TyX PG PGs TG TGs PTs Ends Sp FnOk frs ObjOk Turn ld_blt)
/-- the tuple at a, each item in a new pair -/
def Iet (K : PySem.W.Frag) (a : Addr) : It :=
  ⟨fun i H => ∃ (xs : List V) (x : V), SqT K H a xs ∧ xs[i]? = some x, fun i H v H' => ∃ p x, v = .ref p ∧ H p = none ∧ H' = upd H p (.tup [.int (i : Nat), x]) ∧ ∀ xs, SqT K H a xs → xs[i]? = some x, fun i H => ∃ xs : List V, SqT K H a xs ∧ xs.length = i⟩
theorem turn_en {P : Program} {w : World} {K : PySem.W.Frag} {elts : List Expr} {kk : Nat} {tpos : Pos} (a e it : Addr) :
    Turn P w K (.Tuple elts kk tpos) (Iet K a) [e, it] e (fun i h => (∃ old, IsEnum h e it ((i : Nat) : Int) old) ∧ h.IsTupleIter it a i ∧ e ≠ it ∧ a ≠ e ∧ a ≠ it) where
  mem := by simp
  obj := fun i h st b hb => by
    obtain ⟨⟨old, he⟩, ⟨o, ho, hc, hd⟩, _⟩ := st
    rcases (show b = e ∨ b = it by simpa using hb) with z | z
    · rw [z]; exact ⟨_, he, fun v q => nomatch q⟩
    · rw [z]; exact ⟨o, ho, fun v q => by rw [hd] at q; cases q⟩
  keep := fun i h h' st k => let ⟨⟨old, he⟩, hi, hne⟩ := st; ⟨⟨old, k e (by simp) _ he⟩, hi.at fun o q => k it (by simp) o q, hne⟩
  item := by
    intro X hP hw hK hc i pins s σ H E I hf st hg
    subst hP hw hK
    obtain ⟨⟨old, he⟩, hit, hne, nae, nai⟩ := st
    obtain ⟨xs, x, hq, hx⟩ := hg
    obtain ⟨its, rv, p, hz⟩ := I.tuple hq
    obtain ⟨u, hu, ru⟩ := rv.get hx
    have hel : e < s.heap.objs.size := Heap.lt_size he
    have hil : it < s.heap.objs.size := by obtain ⟨_, q, _⟩ := hit; exact Heap.lt_size q
    have hi : i < its.toArray.size := by
      have := (List.getElem?_eq_some_iff.mp hu).1
      simpa using this
    refine wpAny_pyNext_enum_itemD (Draws.tuple (A := X.A.in1) (show X.A.in1.handled = none from I.ok.hd hc) it a nai its.toArray) he ⟨hit, p⟩ hi hne (by simp [hne, Ne.symm nae]) fun x' h' tk hx' ho ⟨hit', p'⟩ hT hsz hk => ?_
    have ex : x' = u := by
      have e1 : its.toArray[i]? = some u := by simpa using hu
      rw [e1] at hx'
      exact (Option.some.inj hx').symm
    subst ex
    refine ⟨_, rfl, wpAny_letOwnedTupleGo_enum (s := { s with heap := h', toks := tk + 1 }) ho fun h'' he' sb => ?_⟩
    have hT2 : h''.get? s.heap.objs.size = some { cls := .type "tuple", data := .seq #[.int i tk, x'] } := (sb.2 _ (Nat.ne_of_gt hel)).trans hT
    have new : ObjOk X.prog X.w (upd H s.heap.objs.size (.tup [.int (i : Nat), x])) h'' s.heap.objs.size (.tup [.int (i : Nat), x]) :=
      ⟨by show 2 ≤ sizeLine; decide, [.int i tk, x'], .cons ⟨_, rfl⟩ (.cons ru .nil), ⟨_, hT2, rfl, _, rfl⟩⟩
    have I1 : Inv X pins σ (upd H s.heap.objs.size (.tup [.int (i : Nat), x])) { s with heap := h'', toks := tk + 1 } :=
      I.turnedNew (ch := [e, it]) (fun b ob hb q => (sb.2 b (fun z => hb (by simp [z]))).trans (hk b ob (fun z => hb (by simp [z])) (fun z => hb (by simp [z])) q)) hf (Nat.le_refl _) new
    refine ⟨.ref s.heap.objs.size, _, I1, rfl, ⟨_, x, rfl, I.hok.fresh (Nat.le_refl _), rfl, fun ys hy => by rw [I.tuple_inj hy hq]; exact hx⟩, ⟨⟨x', ?_⟩, hit'.at fun o q => (sb.2 it (Ne.symm hne)).trans q, hne, nae, nai⟩, fun b hb => ?_⟩
    · have e1 : ((i + 1 : Nat) : Int) = (i : Int) + 1 := by omega
      rw [e1]; exact he'
    · have hb' : b < s.heap.objs.size := by
        rcases (show b = e ∨ b = it by simpa using hb) with z | z
        · rw [z]; exact hel
        · rw [z]; exact hil
      rw [upd_ne (Nat.ne_of_lt hb')]
      exact (hf b hb).1
  done := by
    intro X hP hw hK hc i pins s σ H E I hf st hg
    subst hP hw hK
    obtain ⟨⟨old, he⟩, hit, hne, nae, nai⟩ := st
    obtain ⟨xs, hq, hx⟩ := hg
    obtain ⟨its, rv, p, hz⟩ := I.tuple hq
    obtain ⟨f0, f1, f2, f3, f4, f5⟩ := hf it (by simp)
    have hl : its.toArray.size = i := by rw [List.size_toArray, ← rv.length]; exact hx
    subst hl
    exact wpAny_pyNext_enum_endD (Draws.tuple (A := X.A.in1) (show X.A.in1.handled = none from I.ok.hd hc) it a nai its.toArray) he ⟨hit, p⟩ fun h' eb => ⟨rfl, I.turned (t' := s.toks) (fun b o hb q => eb b o hb q) f0 f1 f3 f4 f5⟩
  self := fun A i s Q E st h => let ⟨⟨_, he⟩, _⟩ := st; wpAny_pyIter_enum he h
theorem pi_en {X : Cx} {e : Expr} {ta : TA} {p pos tpos : Pos} {elts : List Expr} {kk : Nat} (hg : Gl X "enumerate") (hm : X.mg "enumerate" = none) (ha : PA X [e] ta) (hs : starEach [e] X.env = [(false, eval e X.env)]) :
    PI X (.Tuple elts kk tpos) (.Call (.Name "enumerate" p) [e] [] pos) (fun σ H R => ta σ H fun vs H1 => ∃ a xs, vs = [.ref a] ∧ SqT X.K H1 a xs ∧ R (Iet X.K a) H1) := by
  refine ⟨fun pins s σ H R I h => ?_⟩
  refine Call_ (ld_blt I hg hm boot_enumerate (PyProof.Rows.callWith_type1 (thn (ha.run pos pins s σ H _ I h) fun us s1 ⟨vs, H1, I1, r1, q1⟩ => ?_) hs rfl))
  obtain ⟨a, xs, ex, hq, q⟩ := q1
  subst ex
  cases r1 with
  | cons r rr =>
    cases rr
    cases r
    obtain ⟨its, rv, p', hz⟩ := I1.tuple hq
    refine PySem.SwE.en_begins (begins_tuple a its.toArray) p' fun h' he hit hsz hk => wpAny_pyIter_enum he ?_
    have I2 : Inv X pins σ H1 { s1 with heap := h' } := I1.kept (t' := s1.toks) hk
    have la : a < s1.heap.objs.size := p'.lt
    refine ⟨s1.heap.objs.size + 1, [s1.heap.objs.size + 1, s1.heap.objs.size], _, _, H1, rfl, I2, turn_en a (s1.heap.objs.size + 1) s1.heap.objs.size, ⟨⟨.none, he⟩, ⟨_, hit, rfl, rfl⟩, Nat.succ_ne_self _, Nat.ne_of_lt (Nat.lt_succ_of_lt la), Nat.ne_of_lt la⟩, fun b hb => ?_, q⟩
    have hle : s1.heap.objs.size ≤ b := by
      rcases (show b = s1.heap.objs.size + 1 ∨ b = s1.heap.objs.size by simpa using hb) with z | z
      · rw [z]; exact Nat.le_add_right _ _
      · rw [z]; exact Nat.le_refl _
    exact I1.fpOk hle (I1.hok.fresh hle)
end Sw

end
section
set_option maxRecDepth 100000
set_option maxHeartbeats 4000000
namespace Sw
open PySem PySem.Spec PyProof.Rows
open L2 (V Hp HO upd upd_same upd_ne SqL SqT Rd VK XK WX Cx Inv RelV Vals PE PT PW PA PI PS PSs EP TP AP SP TE TT TA TS TI It Takes thn Gl Vis Loc Room OpR CallR TyX PG PGs TG TGs PTs Ends Sp FnOk frs ObjOk Turn ld_blt)
def sqK (b : Bool) (K : PySem.W.Frag) (H : Hp) (a : Addr) (xs : List V) : Prop := match b with
  | true => SqL K H a xs
  | false => SqT K H a xs
def itrK (b : Bool) (h : Heap) (it a : Addr) (i : Nat) : Prop := match b with
  | true => h.IsListIter it a i
  | false => h.IsTupleIter it a i
def stdK (b : Bool) (h : Heap) (a : Addr) (its : Array Value) : Prop := match b with
  | true => h.IsList a its
  | false => h.IsTuple a its
def bgO (b : Bool) (a : Addr) : Obj := { cls := .type (match b with | true => "list_iterator" | false => "tuple_iterator"), data := .fields #[.ref a, .int 0 0] }
theorem begK (b : Bool) (a : Addr) (its : Array Value) : Begins (.ref a) (bgO b a) fun h => stdK b h a its := by
  cases b
  · exact begins_tuple a its
  · exact begins_list a its
theorem drawK {prog : Program} {w : World} {A : Around} (b : Bool) (hh : A.handled = none) (it a : Addr) (ne : a ≠ it) (its : Array Value) : Draws prog w A it [it, a] its.size (fun i v => its[i]? = some v) (fun i h => itrK b h it a i ∧ stdK b h a its) := by
  cases b
  · exact Draws.tuple hh it a ne its
  · exact Draws.list hh it a ne its
theorem itrK_obj {b : Bool} {h : Heap} {it a : Addr} {i : Nat} (q : itrK b h it a i) : ∃ o, h.get? it = some o ∧ ∀ vs n, o.data ≠ .seq vs n := by
  cases b
  all_goals
    obtain ⟨o, e, _, d⟩ := q
    exact ⟨o, e, fun vs n z => by rw [d] at z; cases z⟩
theorem itrK_at {b : Bool} {h h' : Heap} {it a : Addr} {i : Nat} (q : itrK b h it a i) (k : ∀ o, h.get? it = some o → h'.get? it = some o) : itrK b h' it a i := by
  cases b
  · exact Heap.IsTupleIter.at q k
  · exact Heap.IsListIter.at q k
theorem itrK_new {b : Bool} {h : Heap} {it a : Addr} (q : h.get? it = some (bgO b a)) : itrK b h it a 0 := by
  cases b
  · exact ⟨_, q, rfl, rfl⟩
  · exact ⟨_, q, rfl, rfl⟩
section
variable {X : Cx} {pins : List (Addr × Obj)} {σ : L2.St} {H : Hp} {s : Shared}
theorem sqK_at {b : Bool} {a : Addr} {xs : List V} (I : Inv X pins σ H s) (q : sqK b X.K H a xs) : ∃ its : List Value, Vals xs its ∧ stdK b s.heap a its.toArray ∧ a < s.heap.objs.size := by
  cases b
  · obtain ⟨its, r, p, _⟩ := I.tuple q
    exact ⟨its, r, p, p.lt⟩
  · obtain ⟨its, r, p, _⟩ := I.list q
    exact ⟨its, r, p.isList, p.lt⟩
theorem sqK_inj {b : Bool} {a : Addr} {xs ys : List V} (I : Inv X pins σ H s) (q : sqK b X.K H a xs) (q2 : sqK b X.K H a ys) : xs = ys := by
  cases b
  · exact I.tuple_inj q q2
  · exact I.list_inj q q2
end
def Izp (b c : Bool) (K : PySem.W.Frag) (a d : Addr) : It :=
  ⟨fun i H => ∃ (xs ys : List V) (x y : V), sqK b K H a xs ∧ sqK c K H d ys ∧ xs[i]? = some x ∧ ys[i]? = some y,
    fun i H v H' => ∃ p x y, v = .ref p ∧ H p = none ∧ H' = upd H p (.tup [x, y]) ∧ (∀ xs, sqK b K H a xs → xs[i]? = some x) ∧ ∀ ys, sqK c K H d ys → ys[i]? = some y,
    fun i H => ∃ xs ys : List V, sqK b K H a xs ∧ sqK c K H d ys ∧ min xs.length ys.length = i⟩
theorem turn_zp {P : Program} {w : World} {K : PySem.W.Frag} {elts : List Expr} {kk : Nat} {tpos : Pos} {b c : Bool} {a d z TI TO i1 i2 : Addr} (S : ZipSep2 z TI TO i1 i2 [i1, a] [i2, d]) (n1 : a ≠ i1) (n2 : d ≠ i2) :
    Turn P w K (.Tuple elts kk tpos) (Izp b c K a d) [z, TI, TO, i1, i2] z (fun i h => IsZip h z TI TO .none ∧ IsTupOf2 h TI (.ref i1) (.ref i2) ∧ (∃ x y, IsTupOf2 h TO x y) ∧ itrK b h i1 a i ∧ itrK c h i2 d i) where
  mem := by simp
  obj := fun i h st e he => by
    obtain ⟨hz, hTI, ⟨x, y, hTO⟩, q1, q2⟩ := st
    obtain ⟨o1, e1, d1⟩ := itrK_obj q1
    obtain ⟨o2, e2, d2⟩ := itrK_obj q2
    have dd : ∀ {b : Bool} {it a : Addr} {o : Obj}, itrK b h it a i → h.get? it = some o → ∀ v, o.data ≠ .cell v := fun {b it a o} q e v z => by
      cases b
      all_goals
        obtain ⟨o', e', _, d'⟩ := q
        rw [e] at e'
        cases e'
        rw [d'] at z
        cases z
    rcases (show e = z ∨ e = TI ∨ e = TO ∨ e = i1 ∨ e = i2 by simpa using he) with q | q | q | q | q
    · rw [q]; exact ⟨_, hz, fun v q => nomatch q⟩
    · rw [q]; exact ⟨_, hTI, fun v q => nomatch q⟩
    · rw [q]; exact ⟨_, hTO, fun v q => nomatch q⟩
    · rw [q]; exact ⟨o1, e1, dd q1 e1⟩
    · rw [q]; exact ⟨o2, e2, dd q2 e2⟩
  keep := fun i h h' st k => by
    obtain ⟨hz, hTI, ⟨x, y, hTO⟩, h1, h2⟩ := st
    exact ⟨k z (by simp) _ hz, k TI (by simp) _ hTI, ⟨x, y, k TO (by simp) _ hTO⟩, itrK_at h1 fun o q => k i1 (by simp) o q, itrK_at h2 fun o q => k i2 (by simp) o q⟩
  item := by
    intro X hP hw hK hc i pins s σ H E I hf st hg
    subst hP hw hK
    obtain ⟨hz, hTI, ⟨x0, y0, hTO⟩, h1, h2⟩ := st
    obtain ⟨xs, ys, x, y, hqx, hqy, hx, hy⟩ := hg
    obtain ⟨its, rv, p, _⟩ := sqK_at I hqx
    obtain ⟨its2, rv2, p2, _⟩ := sqK_at I hqy
    obtain ⟨u, hu, ru⟩ := rv.get hx
    obtain ⟨u2, hu2, ru2⟩ := rv2.get hy
    have hh : X.A.in1.handled = none := I.ok.hd hc
    have hi1 : i < its.toArray.size := by simpa using (List.getElem?_eq_some_iff.mp hu).1
    have hi2 : i < its2.toArray.size := by simpa using (List.getElem?_eq_some_iff.mp hu2).1
    have hzl : z < s.heap.objs.size := Heap.lt_size hz
    refine wpAny_pyNext_zipD2_item S (drawK b hh i1 a n1 its.toArray) (drawK c hh i2 d n2 its2.toArray) hz hTI hTO ⟨h1, p⟩ ⟨h2, p2⟩ hi1 hi2 fun x1 x2 h' tk y1 y2 z' TO' st1 st2 hT hsz hk => ?_
    have ex1 : x1 = u := by
      have e1 : its.toArray[i]? = some u := by simpa using hu
      rw [e1] at y1
      exact (Option.some.inj y1).symm
    have ex2 : x2 = u2 := by
      have e1 : its2.toArray[i]? = some u2 := by simpa using hu2
      rw [e1] at y2
      exact (Option.some.inj y2).symm
    subst ex1 ex2
    refine ⟨_, rfl, wpAny_letOwnedTupleGo_zip (s := { s with heap := h', toks := tk }) z' fun h'' z'' sb => ?_⟩
    have hT2 : h''.get? s.heap.objs.size = some { cls := .type "tuple", data := .seq #[x1, x2] } := (sb.2 _ (Nat.ne_of_gt hzl)).trans hT
    have new : ObjOk X.prog X.w (upd H s.heap.objs.size (.tup [x, y])) h'' s.heap.objs.size (.tup [x, y]) :=
      ⟨by show 2 ≤ sizeLine; decide, [x1, x2], .cons ru (.cons ru2 .nil), ⟨_, hT2, rfl, _, rfl⟩⟩
    have I1 : Inv X pins σ (upd H s.heap.objs.size (.tup [x, y])) { s with heap := h'', toks := tk } :=
      I.turnedNew (t' := tk) (ch := [z, TI, TO, i1, i2]) (fun e o hb q => (sb.2 e (fun q' => hb (by simp [q']))).trans (hk e o (fun q' => hb (by simp [q'])) (fun q' => hb (by simp [q'])) (fun q' => hb (by simp [q'])) (fun q' => hb (by simp [q'])) q)) hf (Nat.le_refl _) new
    refine ⟨.ref s.heap.objs.size, _, I1, rfl, ⟨_, x, y, rfl, I.hok.fresh (Nat.le_refl _), rfl, fun l hl => by rw [sqK_inj I hl hqx]; exact hx, fun l hl => by rw [sqK_inj I hl hqy]; exact hy⟩, ⟨z'', ?_, ⟨x1, x2, ?_⟩, ?_, ?_⟩, fun e hcm => ?_⟩
    · exact (sb.2 _ S.TIz).trans (hk _ _ S.TIz S.TITO S.TIi1 S.TIi2 hTI)
    · exact (sb.2 _ S.TOz).trans TO'
    · exact itrK_at st1.1 fun o q => (sb.2 _ (Ne.symm S.zi1)).trans q
    · exact itrK_at st2.1 fun o q => (sb.2 _ (Ne.symm S.zi2)).trans q
    · have hlt : e < s.heap.objs.size := by
        rcases (show e = z ∨ e = TI ∨ e = TO ∨ e = i1 ∨ e = i2 by simpa using hcm) with q | q | q | q | q
        · rw [q]; exact hzl
        · rw [q]; exact Heap.lt_size hTI
        · rw [q]; exact Heap.lt_size hTO
        · rw [q]; obtain ⟨_, e1, _⟩ := itrK_obj h1; exact Heap.lt_size e1
        · rw [q]; obtain ⟨_, e2, _⟩ := itrK_obj h2; exact Heap.lt_size e2
      rw [upd_ne (Nat.ne_of_lt hlt)]
      exact (hf e hcm).1
  done := by
    intro X hP hw hK hc i pins s σ H E I hf st hg
    subst hP hw hK
    obtain ⟨hz, hTI, ⟨x0, y0, hTO⟩, h1, h2⟩ := st
    obtain ⟨xs, ys, hqx, hqy, hend⟩ := hg
    obtain ⟨its, rv, p, _⟩ := sqK_at I hqx
    obtain ⟨its2, rv2, p2, _⟩ := sqK_at I hqy
    have l1 := rv.length
    have l2 := rv2.length
    have hh : X.A.in1.handled = none := I.ok.hd hc
    exact wpAny_pyNext_zipD2_end S (drawK b hh i1 a n1 its.toArray) (drawK c hh i2 d n2 its2.toArray) hz hTI hTO ⟨h1, p⟩ ⟨h2, p2⟩ (by simp; omega) (by simp; omega) (by simp; omega) fun h' tk hk => ⟨rfl, I.turnedL (t' := tk) (ch := [z, TI, TO, i1, i2]) (fun e o hb q =>
      hk e o (fun q' => hb (by simp [q'])) (fun q' => hb (by simp [q'])) (fun q' => hb (by simp [q'])) (fun q' => hb (by simp [q'])) q) hf⟩
  self := fun A i s Q E st h => wpAny_pyIter_zip st.1 h
theorem pi_zp {X : Cx} {e e2 : Expr} {ta : TA} {p pos tpos : Pos} {elts : List Expr} {kk : Nat} (hg : Gl X "zip") (hm : X.mg "zip" = none) (ha : PA X [e, e2] ta)
    (hs : starEach [e, e2] X.env = (false, eval e X.env) :: starEach [e2] X.env) (hpl : (backTo pos (starEach [e2] X.env)).any (·.1) = false) :
    PI X (.Tuple elts kk tpos) (.Call (.Name "zip" p) [e, e2] [] pos) (fun σ H R => ta σ H fun vs H1 => ∃ (b c : Bool) (a d : Addr) (xs ys : List V), vs = [.ref a, .ref d] ∧ sqK b X.K H1 a xs ∧ sqK c X.K H1 d ys ∧ R (Izp b c X.K a d) H1) := by
  refine ⟨fun pins s σ H R I h => ?_⟩
  refine Call_ (ld_blt I hg hm PyProof.Rows.boot_zip (PyProof.Rows.callWith_type1 (thn (ha.run pos pins s σ H _ I h) fun us s1 ⟨vs, H1, I1, r1, q1⟩ => ?_) hs hpl))
  obtain ⟨b, c, a, d, xs, ys, ex, hqx, hqy, q⟩ := q1
  subst ex
  cases r1 with
  | cons r rr =>
    cases rr with
    | cons r' rr =>
      cases rr
      cases r
      cases r'
      obtain ⟨its, rv, p1, la⟩ := sqK_at I1 hqx
      obtain ⟨its2, rv2, p2, ld⟩ := sqK_at I1 hqy
      refine zip_begins2 (begK b a its.toArray) (begK c d its2.toArray) p1 p2 fun h' hz hTI hTO h1 h2 hsz hk => wpAny_pyIter_zip hz ?_
      have I2 : Inv X pins σ H1 { s1 with heap := h' } := I1.kept (t' := s1.toks) hk
      have S : ZipSep2 (s1.heap.objs.size + 4) (s1.heap.objs.size + 2) (s1.heap.objs.size + 3) s1.heap.objs.size (s1.heap.objs.size + 1) [s1.heap.objs.size, a] [s1.heap.objs.size + 1, d] := zip_sep2 (fp1 := [a]) (fp2 := [d]) (by simpa using la) (by simpa using ld)
      refine ⟨s1.heap.objs.size + 4, [s1.heap.objs.size + 4, s1.heap.objs.size + 2, s1.heap.objs.size + 3, s1.heap.objs.size, s1.heap.objs.size + 1], _, _, H1, rfl, I2, turn_zp S (Nat.ne_of_lt la) (Nat.ne_of_lt (Nat.lt_succ_of_lt ld)), ⟨hz, hTI, ⟨_, _, hTO⟩, itrK_new h1, itrK_new h2⟩, fun e he => ?_, q⟩
      have hle : s1.heap.objs.size ≤ e := by
        rcases (show e = s1.heap.objs.size + 4 ∨ e = s1.heap.objs.size + 2 ∨ e = s1.heap.objs.size + 3 ∨ e = s1.heap.objs.size ∨ e = s1.heap.objs.size + 1 by simpa using he) with z | z | z | z | z <;> (rw [z]; first | exact Nat.le_add_right _ _ | exact Nat.le_refl _)
      exact I1.fpOk hle (I1.hok.fresh hle)
end Sw

end
section
set_option maxRecDepth 100000
set_option maxHeartbeats 4000000
namespace Sw
open PySem PySem.Spec PyProof.Rows
open L2 (V Hp HO upd upd_same upd_ne SqL SqT Rd VK XK WX Cx Inv RelV Vals PE PT PW PA PI PS PSs EP TP AP SP TE TT TA TS TI It Takes thn Gl Vis Loc Room OpR CallR TyX PG PGs TG TGs PTs Ends Sp FnOk frs)
section
variable {M : Md} {T : List (Addr × Str)} {cl : Nat → List Ar → Ret} {k : Nat}
/-- an iterable: enumerate, zip -/
theorem enum_get : ∀ (ds : List D) (lo : Int) (i : Nat) (d : D), (enumFrom lo ds)[i]? = some d → ∃ e, ds[i]? = some e ∧ d = .tuple [.int (lo + i), e] := fun ds => by
    induction ds with
    | nil => intro lo i d e; simp [enumFrom] at e
    | cons x r ih =>
      intro lo i d e
      cases i with
      | zero => simp [enumFrom] at e; exact ⟨x, rfl, by rw [← e]; simp⟩
      | succ i =>
        obtain ⟨y, h1, h2⟩ := ih (lo + 1) i d (by simpa [enumFrom] using e)
        refine ⟨y, by simpa using h1, ?_⟩
        rw [h2]
        congr 2
        congr 1
        omega
theorem enum_len : ∀ (ds : List D) (lo : Int), (enumFrom lo ds).length = ds.length := fun ds => by
    induction ds with
    | nil => intro lo; rfl
    | cons x r ih => intro lo; exact congrArg Nat.succ (ih _)
theorem wk_enu {X : Cx} {Z : Gh} {F : Hp} {a : Addr} {vs : List V} {ds : List D} (h : SqL X.K F a vs) (r : Rps X.K F vs ds) : Wk X.K T Z (L2.Ite X.K a) F (enumFrom 0 ds) := by
  refine ⟨fun i F2 H σ ρ d e R up => ?_, fun F2 H σ ρ R up => ?_⟩
  · obtain ⟨y, e1, rfl⟩ := enum_get ds 0 i d e
    have q : SqL X.K H a vs := sql_mono (fun b o e => R.sub b o (up b o e)) h
    obtain ⟨v, e2, e3⟩ := dps_get r e1
    refine ⟨⟨vs, v, q, e2⟩, fun x H' ⟨p, v2, ex, hp, eH, y2⟩ => ?_⟩
    have := y2 vs q
    rw [e2] at this
    cases this
    subst ex eH
    obtain ⟨F3, R3, S3, w⟩ := k_tup R hp (.cons (.int (i : Nat)) (.cons (dp_mono up e3) .nil))
    exact ⟨F3, R3, S3, by rw [Int.zero_add]; exact w⟩
  · exact ⟨vs, sql_mono (fun b o e => R.sub b o (up b o e)) h, by rw [enum_len, dps_len r]; exact Nat.le_refl _⟩
theorem wk_enuT {X : Cx} {Z : Gh} {F : Hp} {a : Addr} {vs : List V} {ds : List D} (h : SqT X.K F a vs) (r : Rps X.K F vs ds) : Wk X.K T Z (Iet X.K a) F (enumFrom 0 ds) := by
  refine ⟨fun i F2 H σ ρ d e R up => ?_, fun F2 H σ ρ R up => ?_⟩
  · obtain ⟨y, e1, rfl⟩ := enum_get ds 0 i d e
    have q : SqT X.K H a vs := sqt_mono (fun b o e => R.sub b o (up b o e)) h
    obtain ⟨v, e2, e3⟩ := dps_get r e1
    refine ⟨⟨vs, v, q, e2⟩, fun x H' ⟨p, v2, ex, hp, eH, y2⟩ => ?_⟩
    have := y2 vs q
    rw [e2] at this
    cases this
    subst ex eH
    obtain ⟨F3, R3, S3, w⟩ := k_tup R hp (.cons (.int (i : Nat)) (.cons (dp_mono up e3) .nil))
    exact ⟨F3, R3, S3, by rw [Int.zero_add]; exact w⟩
  · exact ⟨vs, sqt_mono (fun b o e => R.sub b o (up b o e)) h, by rw [enum_len, dps_len r]⟩
theorem zip_get : ∀ (xs ys : List D) (i : Nat) (d : D), (zipD xs ys)[i]? = some d → ∃ e f, xs[i]? = some e ∧ ys[i]? = some f ∧ d = .tuple [e, f]
  | [], ys, i, d, h => by simp [zipD] at h
  | _ :: _, [], i, d, h => by simp [zipD] at h
  | x :: xs, y :: ys, 0, d, h => by
    simp [zipD] at h
    exact ⟨x, y, rfl, rfl, h.symm⟩
  | x :: xs, y :: ys, i + 1, d, h => by
    obtain ⟨e, f, h1, h2, h3⟩ := zip_get xs ys i d (by simpa [zipD] using h)
    exact ⟨e, f, by simpa using h1, by simpa using h2, h3⟩
theorem zip_len : ∀ (xs ys : List D), (zipD xs ys).length = min xs.length ys.length
  | [], ys => by simp [zipD]
  | _ :: _, [] => by simp [zipD]
  | x :: xs, y :: ys => by simp only [zipD, List.length_cons, zip_len xs ys]; omega
theorem sqK_mono {b : Bool} {K : PySem.W.Frag} {F F' : Hp} {a : Addr} {xs : List V} (h : ∀ b o, F b = some o → F' b = some o) (q : sqK b K F a xs) : sqK b K F' a xs := by
  cases b
  · exact sqt_mono h q
  · exact sql_mono h q
theorem wk_zp {X : Cx} {Z : Gh} {F : Hp} {b1 b2 : Bool} {a b : Addr} {vs us : List V} {ds es : List D} (h1 : sqK b1 X.K F a vs) (r1 : Rps X.K F vs ds) (h2 : sqK b2 X.K F b us) (r2 : Rps X.K F us es) : Wk X.K T Z (Izp b1 b2 X.K a b) F (zipD ds es) := by
  refine ⟨fun i F2 H σ ρ d e R up => ?_, fun F2 H σ ρ R up => ?_⟩
  · obtain ⟨x, y, e1, e2, rfl⟩ := zip_get ds es i d e
    have q1 : sqK b1 X.K H a vs := sqK_mono (fun b o e => R.sub b o (up b o e)) h1
    have q2 : sqK b2 X.K H b us := sqK_mono (fun b o e => R.sub b o (up b o e)) h2
    obtain ⟨v, f1, g1⟩ := dps_get r1 e1
    obtain ⟨u, f2, g2⟩ := dps_get r2 e2
    refine ⟨⟨vs, us, v, u, q1, q2, f1, f2⟩, fun z H' ⟨p, v2, u2, ez, hp, eH, y1, y2⟩ => ?_⟩
    have i1 := y1 vs q1
    have i2 := y2 us q2
    rw [f1] at i1
    rw [f2] at i2
    cases i1
    cases i2
    subst ez eH
    obtain ⟨F3, R3, S3, w⟩ := k_tup R hp (.cons (dp_mono up g1) (.cons (dp_mono up g2) .nil))
    exact ⟨F3, R3, S3, w⟩
  · have l1 := dps_len r1
    have l2 := dps_len r2
    exact ⟨vs, us, sqK_mono (fun b o e => R.sub b o (up b o e)) h1, sqK_mono (fun b o e => R.sub b o (up b o e)) h2, by rw [zip_len]; omega⟩
theorem rp_sq {K : PySem.W.Frag} {F : Hp} {v : V} {d : D} {l : List D} (q : Rp K F v d) (e : seqD d = some l) : ∃ (b : Bool) (a : Addr) (vs : List V), v = .ref a ∧ sqK b K F a vs ∧ Rps K F vs l := by
  cases q with
  | lst s r => cases e; exact ⟨true, _, _, rfl, s, r⟩
  | tup s r => cases e; exact ⟨false, _, _, rfl, s, r⟩
  | _ => cases e
section
variable {X : Cx} {W : WX} {c : Cf} {Z : Gh}
theorem t_enu {tg e : Expr} {f : Env → Out VT} {p pos : Pos} (ht : tupTg tg = true) (hg : Gl X "enumerate") (hm : X.mg "enumerate" = none) (h : PE X e (tE X T errFld Z f W)) (hs : starEach [e] X.env = [(false, eval e X.env)]) :
    PI X tg (.Call (.Name "enumerate" p) [e] [] pos) (tI X T errFld Z (fun ρ => (f ρ).bind fun v ρ => opt? ((seqD v.d).map (enumFrom 0)) ρ) W) := by
  cases tg <;> first | cases ht | skip
  refine pi_imp (pi_or (L2.pi_enum hg hm (L2.pa_cons h L2.pa_nil hs) hs) (pi_en hg hm (L2.pa_cons h L2.pa_nil hs) hs)) fun σ H R ⟨F, ρ, Rl, q⟩ => ?_
  have q : Fin X T errFld Z W σ F H ρ ((f ρ).bind fun x ρ => opt? ((seqD x.d).map (enumFrom 0)) ρ) _ := q
  cases e1 : f ρ with
  | no => rw [e1] at q; exact q.elim
  | er x ρ1 =>
    rw [e1] at q
    refine .inl ⟨F, ρ, Rl, ?_⟩
    rw [e1]
    exact q
  | ok r ρ1 =>
    rw [e1] at q
    have q : Fin X T errFld Z W σ F H ρ (opt? ((seqD r.d).map (enumFrom 0)) ρ1) _ := q
    cases e2 : r.d with
    | list l =>
      refine .inl ⟨F, ρ, Rl, ?_⟩
      rw [e1]
      intro F1 H1 R1 S1 v rv
      obtain ⟨F2, R2, S2, _, d⟩ := freeze R1 S1 rv
      rw [e2] at d q
      cases d with
      | lst s a => exact ⟨_, _, rfl, sql_mono R2.sub s, q F2 H1 R2 S2 _ (wk_enu s a)⟩
    | tuple l =>
      refine .inr ⟨F, ρ, Rl, ?_⟩
      rw [e1]
      intro F1 H1 R1 S1 v rv
      obtain ⟨F2, R2, S2, _, d⟩ := freeze R1 S1 rv
      rw [e2] at d q
      cases d with
      | tup s a => exact ⟨_, _, rfl, sqt_mono R2.sub s, q F2 H1 R2 S2 _ (wk_enuT s a)⟩
    | none => rw [e2] at q; exact q.elim
    | bool b => rw [e2] at q; exact q.elim
    | int b => rw [e2] at q; exact q.elim
    | str b => rw [e2] at q; exact q.elim
    | dict b => rw [e2] at q; exact q.elim
theorem t_zip {tg a b : Expr} {f g : Env → Out VT} {p pos : Pos} (ht : tupTg tg = true) (hg : Gl X "zip") (hm : X.mg "zip" = none) (ha : PE X a (tE X T errFld Z f W)) (hb : PE X b (tE X T errFld Z g W)) (h1 : notStar a = true) (h2 : notStar b = true) :
    PI X tg (.Call (.Name "zip" p) [a, b] [] pos) (tI X T errFld Z (fun ρ => (f ρ).bind fun v ρ => (g ρ).bind fun u ρ => opt? (zip2 v.d u.d) ρ) W) := by
  cases tg <;> first | cases ht | skip
  have st : starEach [a, b] X.env = (false, eval a X.env) :: starEach [b] X.env := star_cons h1
  have st2 : starEach [b] X.env = (false, eval b X.env) :: starEach [] X.env := star_cons h2
  refine pi_imp (pi_zp hg hm (L2.pa_cons ha (L2.pa_cons hb L2.pa_nil st2) st) st (star_all (by simp [h2]))) fun σ H R ⟨F, ρ, Rl, q⟩ => ⟨F, ρ, Rl, Fin.mono (Fin.bind q) fun r ρ1 F1 H1 R1 S1 k v rv => ?_⟩
  obtain ⟨F2, R2, S2, _, d1⟩ := freeze R1 S1 rv
  refine ⟨F2, ρ1, R2, Fin.mono (Fin.bind (Fin.base R2 S2 k)) fun r2 ρ3 F3 H3 R3 S3 k3 u ru => ?_⟩
  obtain ⟨F4, R4, S4, up4, d2⟩ := freeze R3 S3 ru
  have d1 := dp_mono S4.frz d1
  have k3 : Fin X T errFld Z W σ F2 H1 ρ1 (opt? (zip2 r.d r2.d) ρ3) _ := k3
  unfold zip2 at k3
  cases e1 : seqD r.d with
  | none => simp only [e1] at k3; exact k3.elim
  | some l =>
    cases e2 : seqD r2.d with
    | none => simp only [e1, e2] at k3; exact k3.elim
    | some m =>
      simp only [e1, e2] at k3
      obtain ⟨b1, a1, vs, rfl, s1, q1⟩ := rp_sq d1 e1
      obtain ⟨b2, a2, us, rfl, s2, q2⟩ := rp_sq d2 e2
      exact ⟨b1, b2, a1, a2, vs, us, rfl, sqK_mono R4.sub s1, sqK_mono R4.sub s2, k3 F4 H3 R4 S4 _ (wk_zp s1 q1 s2 q2)⟩
end
end
end Sw

end
section
set_option maxRecDepth 100000
set_option maxHeartbeats 4000000
namespace Sw
open PySem PySem.Spec PyProof.Rows
open L2 (V Hp HO upd upd_same upd_ne SqL SqT Rd VK XK WX Cx Inv RelV Vals PE PT PW PA PI PS PSs EP TP AP SP TE TT TA TS TI It Takes thn Gl Vis Loc Room OpR CallR TyX PG PGs TG TGs)
section
variable {X : Cx} {T : List (Addr × Str)} {fld : Fld} {Z : Gh} {W : WX} {σ : L2.St} {F F' H H' : Hp} {ρ ρ' : Env} {K : PySem.W.Frag}
theorem rev_at {vs : List V} {ds : List D} {i : Nat} {d : D} (r : Rps K F vs ds) (e : ds.reverse[i]? = some d) : i < vs.length ∧ ∃ v, vs[vs.length - 1 - i]? = some v ∧ Rp K F v d := by
  have hl := dps_len r
  have hi : i < ds.length := by
    have := (List.getElem?_eq_some_iff.mp e).1
    rwa [List.length_reverse] at this
  rw [List.getElem?_reverse hi] at e
  rw [hl]
  exact ⟨hi, dps_get r e⟩
theorem wk_rev {a : Addr} {vs : List V} {ds : List D} (h : SqL K F a vs) (r : Rps K F vs ds) : Wk K T Z (L2.Itv K a vs.length) F ds.reverse where
  go := fun i F2 H σ ρ d e R up => by
    have q : SqL K H a vs := sql_mono (fun b o e => R.sub b o (up b o e)) h
    obtain ⟨hi, v, e1, e2⟩ := rev_at r e
    refine ⟨⟨hi, vs, v, q, e1⟩, fun x H' ⟨eH, y⟩ => ?_⟩
    subst eH
    have z := y vs q
    rw [e1] at z
    cases z
    exact ⟨F2, R, Stp.refl, dp_mono up e2⟩
  stop := fun F2 H σ ρ R up => by
    show vs.length ≤ ds.reverse.length
    rw [List.length_reverse, dps_len r]
    exact Nat.le_refl _
theorem wk_revT {a : Addr} {vs : List V} {ds : List D} (h : SqT K F a vs) (r : Rps K F vs ds) : Wk K T Z (RT.ItvT K a vs.length) F ds.reverse where
  go := fun i F2 H σ ρ d e R up => by
    have q : SqT K H a vs := sqt_mono (fun b o e => R.sub b o (up b o e)) h
    obtain ⟨hi, v, e1, e2⟩ := rev_at r e
    refine ⟨⟨hi, vs, v, q, e1⟩, fun x H' ⟨eH, y⟩ => ?_⟩
    subst eH
    have z := y vs q
    rw [e1] at z
    cases z
    exact ⟨F2, R, Stp.refl, dp_mono up e2⟩
  stop := fun F2 H σ ρ R up => by
    show vs.length ≤ ds.reverse.length
    rw [List.length_reverse, dps_len r]
    exact Nat.le_refl _
theorem t_rev {tg e : Expr} {f : Env → Out VT} {p pos : Pos} (hg : Gl X "reversed") (hm : X.mg "reversed" = none) (h : PE X e (tE X T errFld Z f W)) (hs : starEach [e] X.env = [(false, eval e X.env)]) :
    PI X tg (.Call (.Name "reversed" p) [e] [] pos) (tI X T errFld Z (fun ρ => (f ρ).bind fun v ρ => opt? ((seqD v.d).map List.reverse) ρ) W) := by
  refine pi_imp (RT.pi_revA hg hm h hs) fun σ H R ⟨F, ρ, Rl, q⟩ => ⟨F, ρ, Rl, Fin.mono (Fin.bind q) fun r ρ1 F1 H1 R1 S1 k v rv => ?_⟩
  obtain ⟨F2, R2, S2, _, d⟩ := freeze R1 S1 rv
  cases e1 : seqD r.d with
  | none => simp only [e1] at k; exact k.elim
  | some l =>
    simp only [e1] at k
    obtain ⟨b, a, vs, rfl, s, rp⟩ := rp_sq d e1
    cases b with
    | true => exact ⟨a, vs, rfl, .inl ⟨sql_mono R2.sub s, k F2 H1 R2 S2 _ (wk_rev s rp)⟩⟩
    | false => exact ⟨a, vs, rfl, .inr ⟨sqt_mono R2.sub s, k F2 H1 R2 S2 _ (wk_revT s rp)⟩⟩
theorem int_of {v : V} {j : Int} (h : Rp K F v (.int j)) : v = .int j := by cases h; rfl
theorem rngN_int {d : D} {l : List D} (h : rngN d = some l) : ∃ j : Int, d = .int j ∧ -(2 ^ 62) ≤ j ∧ j < 2 ^ 62 ∧ j.toNat ≤ SZ ∧ l = intsFrom 0 j.toNat := by
  cases d with
  | int j =>
    have h : (if ok62 j && decide (j.toNat ≤ SZ) then some (intsFrom 0 j.toNat) else none) = some l := h
    split at h
    · rename_i c
      obtain ⟨c1, c2⟩ := Bool.and_eq_true_iff.mp c
      cases h
      exact ⟨j, rfl, (ok62_of c1).1, (ok62_of c1).2, of_decide_eq_true c2, rfl⟩
    · cases h
  | _ => cases h
theorem rev_ints : ∀ n : Nat, (intsFrom 0 n).reverse = intsDown ((n : Int) - 1) n
  | 0 => rfl
  | n + 1 => by
    have e : intsFrom 0 (n + 1) = intsFrom 0 n ++ [PyData.int n] := by
      have : ∀ (m : Nat) (lo : Int), intsFrom lo (m + 1) = intsFrom lo m ++ [PyData.int (lo + m)] := fun m => by
        induction m with
        | zero => intro lo; simp [intsFrom]
        | succ m ih =>
          intro lo
          rw [intsFrom, ih (lo + 1), intsFrom, List.cons_append]
          congr 4
          omega
      rw [this n 0]
      simp
    rw [e, List.reverse_append, rev_ints n]
    show PyData.int n :: intsDown ((n : Int) - 1) n = PyData.int (((n + 1 : Nat) : Int) - 1) :: intsDown (((n + 1 : Nat) : Int) - 1 - 1) n
    have : ((n + 1 : Nat) : Int) - 1 = n := by omega
    rw [this]
theorem t_revr {tg e : Expr} {f : Env → Out VT} {p p2 pos pos2 : Pos} (hg : Gl X "reversed") (hm : X.mg "reversed" = none) (hg2 : Gl X "range") (hm2 : X.mg "range" = none) (h : PE X e (tE X T errFld Z f W)) (hs : starEach [e] X.env = [(false, eval e X.env)])
    (hs2 : starEach [.Call (.Name "range" p2) [e] [] pos2] X.env = [(false, eval (.Call (.Name "range" p2) [e] [] pos2) X.env)]) :
    PI X tg (.Call (.Name "reversed" p) [.Call (.Name "range" p2) [e] [] pos2] [] pos) (tI X T errFld Z (fun ρ => (f ρ).bind fun v ρ => opt? ((rngN v.d).map List.reverse) ρ) W) := by
  refine pi_imp (L2.pi_revR hg hm (L2.prg_1 hg2 hm2 h hs) hs2) fun σ H R ⟨F, ρ, Rl, q⟩ => ⟨F, ρ, Rl, Fin.mono (Fin.bind q) fun r ρ1 F1 H1 R1 S1 k v rv => ?_⟩
  obtain ⟨F2, R2, S2, _, d⟩ := freeze R1 S1 rv
  cases e1 : rngN r.d with
  | none => simp only [e1] at k; exact k.elim
  | some l =>
    simp only [e1] at k
    obtain ⟨j, ej, b1, b2, b3, el⟩ := rngN_int e1
    rw [ej] at d
    subst el
    have k := k F2 H1 R2 S2
    rw [rev_ints] at k
    refine ⟨j, int_of d, by omega, by omega, b1, b2, ?_⟩
    rw [show (j - 0).toNat = j.toNat by omega, show (0 : Int) + ((j.toNat : Nat) : Int) - 1 = (j.toNat : Int) - 1 by omega]
    exact k _ wk_rngC
theorem rps_upto (K : PySem.W.Frag) (F : Hp) : ∀ (n : Nat) (lo : Int), Rps K F ((List.range n).map fun i => V.int (lo + (i : Nat))) (intsFrom lo n)
  | 0, _ => .nil
  | n + 1, lo => by
    rw [List.range_succ_eq_map, List.map_cons, List.map_map, intsFrom]
    have e : (List.map ((fun i : Nat => V.int (lo + (i : Nat))) ∘ Nat.succ) (List.range n)) = (List.range n).map fun i => V.int (lo + 1 + (i : Nat)) := by
      apply List.map_congr_left
      intro i _
      simp only [Function.comp]
      congr 1
      omega
    rw [e]
    refine .cons ?_ (rps_upto K F n (lo + 1))
    simpa using Rp.int (K := K) (F := F) lo
theorem t_lrng {e : Expr} {f : Env → Out VT} {p p2 pos pos2 : Pos} (hc : X.calm = true) (hg : Gl X "list") (hm : X.mg "list" = none) (hg2 : Gl X "range") (hm2 : X.mg "range" = none) (h : PE X e (tE X T fld Z f W)) (hs : starEach [e] X.env = [(false, eval e X.env)])
    (hs2 : starEach [.Call (.Name "range" p2) [e] [] pos2] X.env = [(false, eval (.Call (.Name "range" p2) [e] [] pos2) X.env)]) :
    PE X (.Call (.Name "list" p) [.Call (.Name "range" p2) [e] [] pos2] [] pos) (tE X T fld Z (fun ρ => (f ρ).bind fun v ρ => ret? ((rngN v.d).map .fr) ρ) W) := by
  refine PE.imp (L2.pe_listRg hc hg hm (L2.prg_1 hg2 hm2 h hs) hs2) fun σ H Q ⟨F, ρ, Rl, q⟩ => ⟨F, ρ, Rl, Fin.mono (Fin.bind q) fun r ρ1 F1 H1 R1 S1 k v rv => ?_⟩
  obtain ⟨F2, R2, S2, _, d⟩ := freeze R1 S1 rv
  cases e1 : rngN r.d with
  | none => simp only [e1] at k; exact k.elim
  | some l =>
    simp only [e1] at k
    obtain ⟨j, ej, b1, b2, b3, el⟩ := rngN_int e1
    rw [ej] at d
    subst el
    refine ⟨j, int_of d, ⟨by omega, by omega, b1, b2, by rw [show (j - 0).toNat = j.toNat by omega]; exact b3⟩, fun q hq => ?_⟩
    have rr := rps_upto X.K F2 j.toNat 0
    obtain ⟨R3, S3, w⟩ := k_lst R2 hq rr
    have k := Fin.base R2 S2 (show Fin X T fld Z W σ F H ρ (Out.ok (VT.fr (intsFrom 0 j.toNat)) ρ1) _ from k)
    have e2 : L2.rgV 0 j = (List.range j.toNat).map fun i => V.int (0 + (i : Nat)) := by unfold L2.rgV; rw [show (j - 0).toNat = j.toNat by omega]
    rw [e2]
    exact k F2 _ R3 S3 _ (rv_base R2 S2 w)
theorem t_trng {e : Expr} {f : Env → Out VT} {p p2 pos pos2 : Pos} (hc : X.calm = true) (hg : Gl X "tuple") (hm : X.mg "tuple" = none) (hg2 : Gl X "range") (hm2 : X.mg "range" = none) (h : PE X e (tE X T fld Z f W)) (hs : starEach [e] X.env = [(false, eval e X.env)])
    (hs2 : starEach [.Call (.Name "range" p2) [e] [] pos2] X.env = [(false, eval (.Call (.Name "range" p2) [e] [] pos2) X.env)]) :
    PE X (.Call (.Name "tuple" p) [.Call (.Name "range" p2) [e] [] pos2] [] pos) (tE X T fld Z (fun ρ => (f ρ).bind fun v ρ => ret? ((rngN v.d).map fun l => .pl (.tuple l)) ρ) W) := by
  refine PE.imp (L2.pe_tupRg hc hg hm (L2.prg_1 hg2 hm2 h hs) hs2) fun σ H Q ⟨F, ρ, Rl, q⟩ => ⟨F, ρ, Rl, Fin.mono (Fin.bind q) fun r ρ1 F1 H1 R1 S1 k v rv => ?_⟩
  obtain ⟨F2, R2, S2, _, d⟩ := freeze R1 S1 rv
  cases e1 : rngN r.d with
  | none => simp only [e1] at k; exact k.elim
  | some l =>
    simp only [e1] at k
    obtain ⟨j, ej, b1, b2, b3, el⟩ := rngN_int e1
    rw [ej] at d
    subst el
    refine ⟨j, int_of d, ⟨by omega, by omega, b1, b2, by rw [show (j - 0).toNat = j.toNat by omega]; exact b3⟩, fun q hq => ?_⟩
    have rr := rps_upto X.K F2 j.toNat 0
    obtain ⟨F3, R3, S3, w⟩ := k_tup R2 hq rr
    have k := Fin.base R2 S2 (show Fin X T fld Z W σ F H ρ (Out.ok (VT.pl (PyData.tuple (intsFrom 0 j.toNat))) ρ1) _ from k)
    have e2 : L2.rgV 0 j = (List.range j.toNat).map fun i => V.int (0 + (i : Nat)) := by unfold L2.rgV; rw [show (j - 0).toNat = j.toNat by omega]
    rw [e2]
    exact k F3 _ R3 S3 _ (rv_base R2 S2 w)
theorem dps_rev : ∀ {vs : List V} {ds : List D}, Rps K F vs ds → Rps K F vs.reverse ds.reverse
  | _, _, .nil => .nil
  | _, _, .cons r t => by
    rw [List.reverse_cons, List.reverse_cons]
    exact dps_app (dps_rev t) (.cons r .nil)
theorem t_rvl {e : Expr} {f : Env → Out VT} {k : Nat} {p1 p2 p3 pos : Pos} (h : PE X e (tE X T fld Z f W)) :
    PE X (.Subscript e (.Slice none none (some (.UnaryOp .USub (.Constant (.int 1) k p1) p2)) p3) pos) (tE X T fld Z (fun ρ => (f ρ).bind fun v ρ => ret? ((lisD v.d).map fun l => .fr l.reverse) ρ) W) := by
  refine PE.imp (L2.pe_revL h) fun σ H Q ⟨F, ρ, Rl, q⟩ => ⟨F, ρ, Rl, Fin.mono (Fin.bind q) fun r ρ1 F1 H1 R1 S1 k v rv => ?_⟩
  obtain ⟨F2, R2, S2, _, d⟩ := freeze R1 S1 rv
  cases e1 : lisD r.d with
  | none => simp only [e1] at k; exact k.elim
  | some l =>
    simp only [e1] at k
    have e2 : r.d = .list l := by
      cases e3 : r.d with
      | list m => rw [e3] at e1; cases e1; rfl
      | _ => rw [e3] at e1; cases e1
    rw [e2] at d
    cases d with
    | lst s a =>
      refine ⟨_, _, rfl, sql_mono R2.sub s, fun q hq => ?_⟩
      obtain ⟨R3, S3, w⟩ := k_lst R2 hq (dps_rev a)
      have k := Fin.base R2 S2 (show Fin X T fld Z W σ F H ρ (Out.ok (VT.fr l.reverse) ρ1) _ from k)
      exact k F2 _ R3 S3 _ (rv_base R2 S2 w)
theorem t_mnd {e : Expr} {f : Env → Out VT} {k : Nat} {p p1 p2 pos : Pos} (hc : X.calm = true) (hu : X.A.units + 64 < cLine) (hg : Gl X "min") (hm : X.mg "min" = none) (h : PE X e (tE X T fld Z f W)) (hs : notStar e = true) :
    PE X (.Call (.Name "min" p) [e] [⟨some "default", .Constant .none k p1, p2⟩] pos) (tE X T fld Z (fun ρ => (f ρ).bind fun v ρ => ret? (mndV v.d) ρ) W) := by
  have st : starEach [e] X.env = (false, eval e X.env) :: starEach [] X.env := star_cons hs
  refine PE.imp (L2.pe_callBK (cr_minOr hc hu) hg hm PyProof.Rows.boot_min (L2.pa_cons h L2.pa_nil st) (L2.pk_cons L2.pe_non L2.pk_nil) (by decide) (by decide) (by rw [st]; rfl) (by rw [st]; rfl)) fun σ H Q ⟨F, ρ, Rl, q⟩ => ⟨F, ρ, Rl, Fin.mono (Fin.bind q) fun r ρ1 F1 H1 R1 S1 k v rv => ?_⟩
  obtain ⟨F2, R2, S2, _, d⟩ := freeze R1 S1 rv
  cases e3 : r.d with
  | list l =>
    rw [e3] at d k
    cases d with
    | lst s a =>
      cases l with
      | nil =>
        have k := k F2 H1 R2 S2 .non .non
        refine ⟨_, _, [], rfl, rfl, sql_mono R2.sub s, Rps.dp (dps_mono R2.sub a), ⟨fun x hx => (by cases hx), fun x hx => (by cases hx)⟩, Nat.zero_le _, fun _ => k, fun y ys e => by cases e⟩
      | cons x xs =>
        have k : Fin X T fld Z W σ F H ρ (ret? (if cmpL (x :: xs) then some (VT.pl (PySem.W.minD x xs)) else none) ρ1) _ := k
        split at k
        · rename_i c
          obtain ⟨c1, c2⟩ := cmpL_ok c
          refine ⟨_, _, x :: xs, rfl, rfl, sql_mono R2.sub s, Rps.dp (dps_mono R2.sub a), c1, c2, fun e => (by cases e), fun y ys e i v e1 e2 => ?_⟩
          cases e
          obtain ⟨v2, e4, e5⟩ := dps_get a e2
          rw [e1] at e4
          cases e4
          exact k F2 H1 R2 S2 _ e5
        · exact k.elim
  | _ => rw [e3] at k; exact k.elim
theorem stp_chg (R : Rel X.K T Z F H σ ρ) {i : Nat} {g : List D → Option (List D)} {p : Addr} {o : HO} (h : chg i g ρ = some ρ') (hp : σ[i]? = some (some (.ref p))) : Stp F H σ ρ F (upd H p o) ρ' := by
  have oi : isOwn ρ i := by
    unfold chg at h
    cases e : ρ[i]? with
    | none => rw [e] at h; cases h
    | some t =>
      cases t with
      | ow ds => exact ⟨ds, .inl e⟩
      | io ds => exact ⟨ds, .inr e⟩
      | em => rw [e] at h; cases h
      | pl d => rw [e] at h; cases h
  have back : ∀ j, isOwn ρ' j → isOwn ρ j := fun j hj => by
    by_cases hji : j = i
    · rw [hji]; exact oi
    · have e : ρ'[j]? = ρ[j]? := by
        unfold chg at h
        cases e : ρ[i]? with
        | none => rw [e] at h; cases h
        | some t =>
          cases t with
          | ow ds =>
            rw [e] at h
            cases q : g ds with
            | none => simp only [q] at h; cases h
            | some es => simp only [q, Option.map_some] at h; cases h; exact List.getElem?_set_ne (Ne.symm hji)
          | io ds =>
            rw [e] at h
            cases q : g ds with
            | none => simp only [q] at h; cases h
            | some es => simp only [q, Option.map_some] at h; cases h; exact List.getElem?_set_ne (Ne.symm hji)
          | em => rw [e] at h; cases h
          | pl d => rw [e] at h; cases h
      obtain ⟨ds, hj⟩ := hj
      rw [e] at hj
      exact ⟨ds, hj⟩
  refine ⟨fun _ _ e => e, fun b u e n _ => ?_, fun b u e => .inl e, back⟩
  rw [upd_ne fun z => n i oi (by rw [z]; exact hp)]
  exact e
def popG (ds : List D) : Option (List D) := if ds = [] then none else some ds.dropLast
theorem popV_inv {i : Nat} {d : VT} (h : popV i ρ = .ok d ρ') : ∃ ds y, chg i popG ρ = some ρ' ∧ d = .pl y ∧ (ρ[i]? = some (.ow ds) ∨ ρ[i]? = some (.io ds)) ∧ ds[ds.length - 1]? = some y := by
  unfold popV at h
  cases e : ρ[i]? with
  | none => rw [e] at h; cases h
  | some t =>
    rw [e] at h
    cases t with
    | ow ds =>
      cases q : ds.getLast? with
      | none => simp only [q] at h; cases h
      | some y =>
        simp only [q] at h
        cases h
        have ne : ds ≠ [] := by intro z; rw [z] at q; cases q
        refine ⟨ds, y, ?_, rfl, .inl rfl, by rw [← List.getLast?_eq_getElem?]; exact q⟩
        unfold chg popG
        rw [e]
        simp [ne]
    | io ds =>
      cases q : ds.getLast? with
      | none => simp only [q] at h; cases h
      | some y =>
        simp only [q] at h
        cases h
        have ne : ds ≠ [] := by intro z; rw [z] at q; cases q
        refine ⟨ds, y, ?_, rfl, .inr rfl, by rw [← List.getLast?_eq_getElem?]; exact q⟩
        unfold chg popG
        rw [e]
        simp [ne]
    | em => cases h
    | pl d => cases h
theorem dps_dropLast : ∀ {vs : List V} {ds : List D}, Rps K F vs ds → Rps K F vs.dropLast ds.dropLast
  | _, _, .nil => .nil
  | _, _, .cons r .nil => .nil
  | _, _, .cons r (.cons s t) => .cons r (dps_dropLast (.cons s t))
theorem t_pop {i : Nat} {o : Expr} {apos cpos : Pos} (ho : PE X o (L2.tVar i))
    (hbase : attributeBase o "pop" X.env (eval o X.env) = eval o X.env) (hline : (apos.endLine == cpos.line) = true) :
    PE X (.Call (.Attribute o "pop" apos) [] [] cpos) (tE X T fld Z (popV i) W) := by
  refine PE.imp (L2.pe_bm0 PySem.F.plainAttrs_list PySem.F.slot_list_pop PySem.F.type_list_pop L2.mt_pop ho hbase hline) fun σ H Q ⟨F, ρ, R, q⟩ => ?_
  cases e : popV i ρ with
  | no => rw [e] at q; exact q.elim
  | er x ρ1 =>
    exfalso
    unfold popV at e
    split at e
    · split at e <;> cases e
    · split at e <;> cases e
    · cases e
  | ok v ρ1 =>
    rw [e] at q
    obtain ⟨ds, y, hc, rfl, hs, hy⟩ := popV_inv e
    obtain ⟨p, vs, ds2, es, e1, h1, r1, eg, k⟩ := R.change hc
    have own : ∃ vs2, H p = some (.lst vs2) ∧ Rps X.K F vs2 ds := by
      rcases hs with hs | hs
      · obtain ⟨a, o2, _⟩ := R.ow i ds hs
        have := o2.at_
        rw [e1] at this
        cases this
        exact o2.ob
      · obtain ⟨a, o2, _⟩ := R.io i ds hs
        have := o2.at_
        rw [e1] at this
        cases this
        exact o2.ob
    obtain ⟨vs2, h2, r2⟩ := own
    rw [h1] at h2
    cases h2
    have e5 : es = ds2.dropLast := by
      unfold popG at eg
      split at eg
      · cases eg
      · cases eg; rfl
    subst e5
    have R3 := k vs.dropLast (dps_dropLast r1)
    have S3 : Stp F H σ ρ F (upd H p (.lst vs.dropLast)) ρ1 := stp_chg R hc e1
    obtain ⟨v, g1, g2⟩ := dps_get r2 hy
    refine ⟨_, e1, .inl ⟨rfl, vs, .inl (.inl h1)⟩, p, vs, v, rfl, rfl, h1, ?_, q F _ R3 S3 v g2⟩
    rw [dps_len r2]
    exact g1
theorem s_ext {i : Nat} {o e : Expr} {f : Env → Out VT} {apos cpos pos : Pos} (ho : PE X o (L2.tVar i)) (he : PE X e (tE X T fld Z f W))
    (hbase : attributeBase o "extend" X.env (eval o X.env) = eval o X.env)
    (hfew : ((backTo cpos (starEach [e] X.env)).all (fun x => !x.1) && (backToKw cpos (keywordEach [] X.env)).all (fun x => x.1.isSome)
      && decide ([e].length + ([] : List Keyword).length + (if ([] : List Keyword).isEmpty then 0 else 1) < 30)) = true)
    (hline : (apos.endLine == cpos.line) = true) (hs : starEach [e] X.env = (false, eval e X.env) :: starEach [] X.env) :
    PS X (.Expr (.Call (.Attribute o "extend" apos) [e] [] cpos) pos) (tS X T fld Z (fun ρ => if ownQ i ρ then (f ρ).fl fun v ρ => nx? (chg i (extF v) ρ) else .no) W) := by
  refine PS.imp (L2.ps_expr (L2.pe_bm PySem.F.plainAttrs_list PySem.F.slot_list_extend PySem.F.type_list_extend L2.mt_extend ho (L2.pa_cons he L2.pa_nil hs) hbase hfew hline hs rfl) rfl) fun D σ H ⟨F, ρ, R, q⟩ => ?_
  obtain ⟨ow, q⟩ := FlFin.ite q
  obtain ⟨p, ds0, o0⟩ := R.ownAt (ownQ_is ow)
  obtain ⟨vs0, h0, _⟩ := o0.ob
  refine ⟨_, o0.at_, .inl ⟨rfl, vs0, .inl (.inl h0)⟩, F, ρ, R, Fin.mono (FlFin.fl q) fun r ρ1 F1 H1 R1 S1 k v rv => ?_⟩
  obtain ⟨ρ2, e2, k2⟩ := FlFin.nx? k
  cases r with
  | pl d =>
    exfalso
    have : ∀ ds, extF (.pl d) ds = none := fun ds => rfl
    unfold chg at e2
    split at e2
    · rw [this] at e2; cases e2
    · rw [this] at e2; cases e2
    · cases e2
  | fr zs =>
    obtain ⟨b, us, rfl, hb, fb, ru, nb, no_, _⟩ := rv
    obtain ⟨p2, vs, ds, es, e3, h3, r3, eg, k3⟩ := R1.change e2
    rw [o0.at_] at e3
    cases e3
    have eg : (if ds.length + zs.length ≤ SZ then some (ds ++ zs) else none) = some es := eg
    by_cases hz : ds.length + zs.length ≤ SZ
    · rw [if_pos hz] at eg
      cases eg
      refine ⟨p, b, vs, us, rfl, rfl, h3, hb, by rw [dps_len r3, dps_len ru, ← SZ_line]; exact hz, ?_⟩
      exact k2 σ F1 _ (k3 _ (dps_app r3 ru)) fun _ _ h => h
    · rw [if_neg hz] at eg
      cases eg
theorem s_rvs {i : Nat} {o : Expr} {apos cpos pos : Pos} (ho : PE X o (L2.tVar i))
    (hbase : attributeBase o "reverse" X.env (eval o X.env) = eval o X.env) (hline : (apos.endLine == cpos.line) = true) :
    PS X (.Expr (.Call (.Attribute o "reverse" apos) [] [] cpos) pos) (tS X T fld Z (fun ρ => nx? (chg i (fun ds => some ds.reverse) ρ)) W) := by
  refine PS.imp (L2.ps_expr (L2.pe_bm0 PySem.F.plainAttrs_list PySem.F.slot_list_reverse PySem.F.type_list_reverse L2.mt_reverse ho hbase hline) rfl) fun D σ H ⟨F, ρ, R, q⟩ => ?_
  obtain ⟨ρ2, e2, k2⟩ := FlFin.nx? q
  obtain ⟨p2, vs, ds, es, e3, h3, r3, eg, k3⟩ := R.change e2
  cases eg
  exact ⟨_, e3, .inl ⟨rfl, vs, .inl (.inl h3)⟩, p2, vs, rfl, rfl, h3, k2 σ F _ (k3 _ (dps_rev r3)) fun _ _ h => h⟩
end
end Sw

end
section
set_option maxRecDepth 100000
set_option maxHeartbeats 4000000
namespace Sw
open PySem PySem.Spec PyProof.Rows
section
variable {prog : Program} {w : World} {A : Around} {E : Value → Shared → Prop} {s : Shared}
theorem ext_rv {R : Result → Shared → Prop} {it l S : Addr} {xs : Array Value} {c0 : Nat} {res : Value} (hd : A.handled = none) (ri : s.heap.IsRevIter it l ((xs.size : Int) - 1)) (il : s.heap.IsList l xs) (hne : l ≠ it) (hz : xs.size ≤ sizeLine)
    (n1 : S ≠ it) (n2 : S ≠ l) (os : s.heap.get? S = some { cls := .type "list", data := .seq #[] c0 })
    (q : ∀ h' tk acc c, (∀ b o, b ≠ S → b ≠ it → s.heap.get? b = some o → h'.get? b = some o) → h'.get? S = some { cls := .type "list", dict := none, data := .seq acc c, slots := #[] } → ItemsOf (fun i v => xs[xs.size - 1 - i]? = some v) acc xs.size → R (.ok (.ret res)) { s with heap := h', toks := tk }) :
    wpAny (model prog w) A.in1 (Builtin.List.listExtendWith (.ref S) (.ref it) res)
      (fun fin s' => match fin with | .done f => R (.ok f) s' | .again c' => c'.quiet = true ∧ codeAny (model prog w) A c' R s') (fun e s' => R (.error e) s') s := by
  have walk := (Walks.listRev (prog := prog) (w := w) (A := A.in1) hd it l hne xs).toS
  have notIn : S ∉ [it, l] := by
    intro z
    rcases List.mem_cons.mp z with e | z
    · exact n1 e
    · exact n2 (List.mem_singleton.mp z)
  have ty : s.TypeIs (.ref it) "list_reverseiterator" := Heap.IsRevIter.typeIs ri
  have sr : Builtin.List.listSameRef (.ref S) (.ref it) = false := by simp [Builtin.List.listSameRef, n1]
  have e0 : ((xs.size : Nat) : Int) - 1 - ((0 : Nat) : Int) = (xs.size : Int) - 1 := by omega
  unfold Builtin.List.listExtendWith
  refine wpAny_bind (wpAny_typeOf ty ?_)
  rw [if_neg (by rw [sr]; decide)]
  refine wpAny_bind (wpAny_pyIter_revIter ri (wpAny_bind (wpAny_holding ?_)))
  unfold Builtin.List.listLengthHint
  refine wpAny_bind (wpAny_specialOf ty RT.nolen_lri ?_)
  show wpAny _ A.in1 (specialOf (Value.ref it) (Str.ofString "__length_hint__") >>= _) _ _ s
  refine wpAny_bind (wpAny_specialOf ty RT.hint_lri ?_)
  generalize gid : ("list_reverseiterator.__length_hint__" : String) = hid
  wp_delta
  rw [show splitId hid = some ("list_reverseiterator", "__length_hint__") from by rw [← gid]; decide +kernel, ← gid]
  refine wpAny_bind (wpAny_isInstance (b := true) ty (by rw [isSubtype_type]; kernel_rfl) (wpAny_pure ?_))
  rw [if_neg (by decide)]
  refine wpAny_pure ⟨plainId_quiet F.plain_extend_loop _, codeAny_extend_loopS walk hz S notIn res xs.size 0 s #[] c0 rfl (Nat.zero_le _) ⟨Nat.zero_le _, by rw [e0]; exact ri, il⟩ os (ItemsOf.nil _) fun s2 acc c mv oS it2 => ?_⟩
  rw [Moved.eq_with mv]
  refine q s2.heap s2.toks acc c (fun b o b1 b2 e => mv.heap b o (fun z => ?_) e) oS it2
  rcases List.mem_cons.mp z with z | z
  · exact b1 z
  · exact b2 (List.mem_singleton.mp z)
theorem call_list_rv {it l : Addr} {xs : Array Value} {Q : Value → Shared → Prop} (hd : A.handled = none) (ri : s.heap.IsRevIter it l ((xs.size : Int) - 1)) (il : s.heap.IsList l xs) (hne : l ≠ it) (hz : xs.size ≤ sizeLine)
    (q : ∀ h' tk acc c, (∀ b o, b ≠ it → s.heap.get? b = some o → h'.get? b = some o) → h'.get? s.heap.objs.size = some { cls := .type "list", dict := none, data := .seq acc c, slots := #[] } → ItemsOf (fun i v => xs[xs.size - 1 - i]? = some v) acc xs.size → Q (.ref s.heap.objs.size) { s with heap := h', toks := tk }) :
    wpAny (model prog w) A (PySem.call (.type "list") [.ref it]) Q E s := by
  refine callType_codes (Q₁ := fun ob s2 => ob = .ref s.heap.objs.size ∧ s2 = { s with heap := s.heap.push { cls := .type "list", data := .seq #[] } }) F.called_list (F.typeCall_list_1 _) F.entry_list_init (code_list_new _ ⟨rfl, rfl⟩) fun ob s2 h2 => ?_
  obtain ⟨rfl, rfl⟩ := h2
  obtain ⟨oi, ei, _⟩ := id ri
  obtain ⟨ol, el, _⟩ := id il
  have ni : s.heap.objs.size ≠ it := Nat.ne_of_gt (Heap.lt_size ei)
  have nl : s.heap.objs.size ≠ l := Nat.ne_of_gt (Heap.lt_size el)
  have o1 : (s.heap.push { cls := .type "list", data := .seq #[] }).get? s.heap.objs.size = some { cls := .type "list", data := .seq #[] } := Heap.get?_push_size _ rfl
  refine ⟨⟨_, o1, rfl⟩, F.args_list_init_2 _ _, ?_⟩
  show wpAny _ _ (do let old ← Builtin.List.listItems (.ref s.heap.objs.size); Builtin.List.listUpdate (.ref s.heap.objs.size) (fun _ => #[]); letGo old.toList.reverse; Builtin.List.listExtendWith (.ref s.heap.objs.size) (.ref it) .none) _ _ _
  refine wpAny_bind ?_
  unfold Builtin.List.listItems
  refine wpAny_bind (wpAny_seqItems o1 rfl (wpAny_pure ?_))
  show wpAny _ _ (updateSeq s.heap.objs.size (fun _ => #[]) >>= fun _ => letGo (#[] : Array Value).toList.reverse >>= fun _ => Builtin.List.listExtendWith (.ref s.heap.objs.size) (.ref it) .none) _ _ _
  refine wpAny_bind (wpAny_updateSeq o1 rfl (wpAny_bind (wpAny_letGo ?_)))
  have o2 := Heap.get?_update_self (Obj.mapSeq (fun _ => (#[] : Array Value))) o1 rfl
  have far : ∀ b o, b ≠ s.heap.objs.size → s.heap.get? b = some o → ((s.heap.push { cls := .type "list", data := .seq #[] }).update s.heap.objs.size (Obj.mapSeq (fun _ => (#[] : Array Value)))).get? b = some o := fun b o hb e =>
    (Heap.get?_update_other _ _ (Ne.symm hb)).trans (Heap.get?_push_of_some _ e)
  refine ext_rv (A := A.in1) hd (l := l) (xs := xs) (Heap.IsRevIter.at ri fun o e => far _ o ni.symm e) ?_ hne hz ni nl o2 fun h' tk acc c k oS its => ?_
  · obtain ⟨oo, k1, k2⟩ := il
    exact ⟨oo, far _ _ nl.symm k1, k2⟩
  · exact ⟨rfl, q h' tk acc c (fun b o hb e => k b o (Nat.ne_of_lt (Heap.lt_size e)) hb (far b o (Nat.ne_of_lt (Heap.lt_size e)) e)) oS its⟩
end
open L2 (V Hp HO upd upd_same upd_ne SqL SqT Rd VK XK WX Cx Inv RelV Vals PE PT PW PA PI PS PSs EP TP AP SP TE TT TA TS TI It Takes thn Gl Vis Loc Room OpR CallR TyX PG PGs TG TGs)
section
variable {X : Cx} {T : List (Addr × Str)} {fld : Fld} {Z : Gh} {W : WX} {σ : L2.St} {F F' H H' : Hp} {ρ ρ' : Env} {K : PySem.W.Frag}
def tListRev (K : PySem.W.Frag) (te : TE) : TE := fun σ H Q => te σ H fun v H1 => ∃ (a : Addr) (xs : List V), v = .ref a ∧ SqL K H1 a xs ∧ ∀ q, H1 q = none → Q (.ref q) (upd H1 q (.lst xs.reverse))
theorem pe_listRev {e : Expr} {te : TE} {p p2 pos pos2 : Pos} (hc : X.calm = true) (hg : Gl X "list") (hm : X.mg "list" = none) (hg2 : Gl X "reversed") (hm2 : X.mg "reversed" = none) (he : PE X e te)
    (hs : starEach [e] X.env = (false, eval e X.env) :: starEach [] X.env)
    (hs2 : starEach [.Call (.Name "reversed" p2) [e] [] pos2] X.env = (false, eval (.Call (.Name "reversed" p2) [e] [] pos2) X.env) :: starEach [] X.env) :
    PE X (.Call (.Name "list" p) [.Call (.Name "reversed" p2) [e] [] pos2] [] pos) (tListRev X.K te) := by
  refine ⟨fun pins s σ H Q I h => ?_⟩
  refine Call_ (L2.ld_blt I hg hm PyProof.Rows.boot_list (PyProof.Rows.callWith_type1 (args_cons (Call_ (L2.ld_blt I hg2 hm2 PyProof.Rows.boot_reversed (PyProof.Rows.callWith_type1 (args_cons (thn (he.run pins s σ H _ I h) fun u s1 ⟨v, H1, I1, r1, a, xs, ev, hq, q⟩ => args_nil ?_) hs) hs rfl))) hs2) hs2 rfl))
  subst ev
  obtain rfl : u = Value.ref a := r1
  obtain ⟨its, rv, pl, hz⟩ := I1.list hq
  have il := pl.isList
  obtain ⟨ol, el, _⟩ := id il
  have hne : a ≠ s1.heap.objs.size := Nat.ne_of_lt (Heap.lt_size el)
  have sz : its.toArray.size ≤ sizeLine := by rw [List.size_toArray, ← rv.length]; exact hz
  refine call_reversed_list il (args_nil ?_)
  have I2 : Inv X pins σ H1 { s1 with heap := s1.heap.push (revObj a ((its.toArray.size : Int) - 1)) } := I1.kept (t' := s1.toks) fun b o e => Heap.get?_push_of_some _ e
  refine call_list_rv (s := { s1 with heap := s1.heap.push (revObj a ((its.toArray.size : Int) - 1)) }) (I1.ok.hd hc) ⟨_, Heap.get?_push_size _ rfl, rfl, rfl⟩ (il.push _) hne sz fun h' tk acc c k ob items => ?_
  have I3 := I2.turnedNew (h' := h') (t' := tk) (ch := [s1.heap.objs.size]) (ob := .lst xs.reverse) (fun b o hb e => k b o (fun z => hb (by rw [z]; exact List.mem_cons_self)) e) (fun b hb => by
    obtain rfl := List.mem_singleton.mp hb
    exact I1.fpOk (H' := H1) (b := s1.heap.objs.size) (Nat.le_refl _) (I1.hok.fresh (Nat.le_refl _))) (Nat.le_refl _) (show L2.ObjOk X.prog X.w _ _ _ (.lst xs.reverse) from ⟨by rw [List.length_reverse]; exact hz, acc.toList, c, RT.vals_rev rv items, by rw [Array.toArray_toList]; exact ob⟩)
  exact ⟨.ref _, _, I3, rfl, q _ (I2.hok.fresh (Nat.le_refl _))⟩
theorem t_lrev {e : Expr} {f : Env → Out VT} {p p2 pos pos2 : Pos} (hc : X.calm = true) (hg : Gl X "list") (hm : X.mg "list" = none) (hg2 : Gl X "reversed") (hm2 : X.mg "reversed" = none) (h : PE X e (tE X T fld Z f W)) (hs : starEach [e] X.env = [(false, eval e X.env)])
    (hs2 : starEach [.Call (.Name "reversed" p2) [e] [] pos2] X.env = [(false, eval (.Call (.Name "reversed" p2) [e] [] pos2) X.env)]) :
    PE X (.Call (.Name "list" p) [.Call (.Name "reversed" p2) [e] [] pos2] [] pos) (tE X T fld Z (fun ρ => (f ρ).bind fun v ρ => ret? ((lisD v.d).map fun l => .fr l.reverse) ρ) W) := by
  refine PE.imp (pe_listRev hc hg hm hg2 hm2 h hs hs2) fun σ H Q ⟨F, ρ, Rl, q⟩ => ⟨F, ρ, Rl, Fin.mono (Fin.bind q) fun r ρ1 F1 H1 R1 S1 k v rv => ?_⟩
  obtain ⟨F2, R2, S2, _, d⟩ := freeze R1 S1 rv
  cases e1 : lisD r.d with
  | none => simp only [e1] at k; exact k.elim
  | some l =>
    simp only [e1] at k
    have e2 : r.d = .list l := by
      cases e3 : r.d with
      | list m => rw [e3] at e1; cases e1; rfl
      | _ => rw [e3] at e1; cases e1
    rw [e2] at d
    cases d with
    | lst s a =>
      refine ⟨_, _, rfl, sql_mono R2.sub s, fun q hq => ?_⟩
      obtain ⟨R3, S3, w⟩ := k_lst R2 hq (dps_rev a)
      have k := Fin.base R2 S2 (show Fin X T fld Z W σ F H ρ (Out.ok (VT.fr l.reverse) ρ1) _ from k)
      exact k F2 _ R3 S3 _ (rv_base R2 S2 w)
end
end Sw

end
section
set_option maxRecDepth 100000
set_option maxHeartbeats 8000000
namespace Sw
open PySem PySem.Spec PyProof.Rows
open L2 (V Hp HO upd upd_same upd_ne SqL SqT Rd VK XK WX Cx Inv RelV Vals PE PT PW PA PI PS PSs EP TP AP SP TE TT TA TS TI It Takes thn Gl Vis Loc Room OpR CallR TyX PG PGs TG TGs PTs Ends Sp FnOk frs)
section
variable {M : Md} {T : List (Addr × Str)} {cl : Nat → List Ar → Ret} {k : Nat}
abbrev TermOk (M : Md) (T : List (Addr × Str)) (cl : Nat → List Ar → Ret) (k : Nat) (t : Tm) : Prop := ∀ (X : Cx) (W : WX) (c : Cf) (Z : Gh), Gd M T cl k X W c → Four M T cl Z X W c (ob M t) (ev cl t)
theorem four_of {X : Cx} {W : WX} {c : Cf} {Z : Gh} {o : Ob} {b : Bn} (he : ∀ e, o.e c e = true → PE X e (tE X T errFld Z b.v W)) (ht : ∀ e, o.t c e = true → PT X e (tT X T errFld Z b.t W)) (hs : o.s = noOb.s := by rfl) (hi : o.i = noOb.i := by rfl) : Four M T cl Z X W c o b :=
  ⟨he, ht, fun es q => (by rw [hs] at q; cases q), fun tg e q => (by rw [hi] at q; cases q)⟩
theorem four_s {X : Cx} {W : WX} {c : Cf} {Z : Gh} {p : Cf → List Expr → Bool} {b : Bn} (h : ∀ es, p c es = true → PA X es (tAs X T errFld Z b.s W)) : Four M T cl Z X W c (lst p) b :=
  ⟨fun e q => (by cases q), fun e q => (by cases q), h, fun tg e q => (by cases q)⟩
theorem four_i {X : Cx} {W : WX} {c : Cf} {Z : Gh} {p : Cf → Expr → Expr → Bool} {b : Bn} (h : ∀ tg e, p c tg e = true → PI X tg e (tI X T errFld Z b.i W)) : Four M T cl Z X W c (itr p) b :=
  ⟨fun e q => (by cases q), fun e q => (by cases q), fun e q => (by cases q), h⟩
theorem ok_bin {o : Bo} {a b : Tm} (ia : TermOk M T cl k a) (ib : TermOk M T cl k b) : TermOk M T cl k (.bin o a b) := fun X W c Z G => four_val fun e h => by
  split at h
  · simp only [Bool.and_eq_true, decide_eq_true_eq] at h
    obtain ⟨⟨rfl, h1⟩, h2⟩ := h
    exact t_bin (opB_pe G (ia X W c Z G) h1) (opB_pe G (ib X W c Z G) h2)
  · cases h
theorem ok_neg {a : Tm} (ia : TermOk M T cl k a) : TermOk M T cl k (.neg a) := fun X W c Z G => four_val fun e h => by
  split at h
  · exact t_neg ((ia X W c Z G).e _ h)
  · cases h
theorem ok_not {a : Tm} (ia : TermOk M T cl k a) : TermOk M T cl k (.not a) := fun X W c Z G => four_of (fun e h => by
    have h : notP (opB M a (ob M a) c) e = true := h
    unfold notP at h
    split at h
    · exact t_not (opB_pe G (ia X W c Z G) h)
    · cases h) fun e h => by
    have h : notP ((ob M a).t c) e = true := h
    unfold notP at h
    split at h
    · exact t_notT ((ia X W c Z G).t _ h)
    · cases h
theorem ok_cmp {o : Co} {a b : Tm} (ia : TermOk M T cl k a) (ib : TermOk M T cl k b) : TermOk M T cl k (.cmp o a b) := fun X W c Z G => by
  have hu : X.A.units + 128 < cLine := by have := G.room.un; omega
  refine four_of (fun e h => ?_) fun e h => ?_
  · have h : cmpP o (opB M a (ob M a) c) (opB M b (ob M b) c) e = true := h
    unfold cmpP at h
    split at h
    · simp only [Bool.and_eq_true, decide_eq_true_eq, Bool.not_eq_true'] at h
      obtain ⟨⟨⟨rfl, h0⟩, h1⟩, h2⟩ := h
      exact t_cmp hu (opB_pe G (ia X W c Z G) h1) (opB_pe G (ib X W c Z G) h2) h0
    · cases h
  · have h : cmpP o (opB M a (ob M a) c) (opB M b (ob M b) c) e = true := h
    unfold cmpP at h
    split at h
    · simp only [Bool.and_eq_true, decide_eq_true_eq, Bool.not_eq_true'] at h
      obtain ⟨⟨⟨rfl, h0⟩, h1⟩, h2⟩ := h
      exact t_cmpT hu (opB_pe G (ia X W c Z G) h1) (opB_pe G (ib X W c Z G) h2) h0
    · cases h
theorem ok_and {a b : Tm} (ia : TermOk M T cl k a) (ib : TermOk M T cl k b) : TermOk M T cl k (.and a b) := fun X W c Z G => four_of (fun e h => by
    have h : andP .And ((ob M a).e c) ((ob M b).e c) e = true := h
    unfold andP at h
    split at h
    · simp only [Bool.and_eq_true, decide_eq_true_eq] at h
      obtain ⟨⟨rfl, h1⟩, h2⟩ := h
      exact t_and ((ia X W c Z G).e _ h1) (L2.pe_one ((ib X W c Z G).e _ h2))
    · simp only [Bool.and_eq_true, decide_eq_true_eq] at h
      obtain ⟨⟨rfl, h1⟩, h2⟩ := h
      exact t_and ((ia X W c Z G).e _ h1) ((ib X W c Z G).e _ h2)
    · cases h) fun e h => by
    have h : andP .And ((ob M a).t c) ((ob M b).t c) e = true := h
    unfold andP at h
    split at h
    · simp only [Bool.and_eq_true, decide_eq_true_eq] at h
      obtain ⟨⟨rfl, h1⟩, h2⟩ := h
      exact (t_andT ((ia X W c Z G).t _ h1) (L2.pw_and1 ((ib X W c Z G).t _ h2))).pt
    · simp only [Bool.and_eq_true, decide_eq_true_eq] at h
      obtain ⟨⟨rfl, h1⟩, h2⟩ := h
      exact (t_andT ((ia X W c Z G).t _ h1) (pw_of ((ib X W c Z G).t _ h2))).pt
    · cases h
theorem ok_or {a b : Tm} (ia : TermOk M T cl k a) (ib : TermOk M T cl k b) : TermOk M T cl k (.or a b) := fun X W c Z G => four_of (fun e h => by
    have h : andP .Or ((ob M a).e c) ((ob M b).e c) e = true := h
    unfold andP at h
    split at h
    · simp only [Bool.and_eq_true, decide_eq_true_eq] at h
      obtain ⟨⟨rfl, h1⟩, h2⟩ := h
      exact t_or ((ia X W c Z G).e _ h1) (L2.pe_one ((ib X W c Z G).e _ h2))
    · simp only [Bool.and_eq_true, decide_eq_true_eq] at h
      obtain ⟨⟨rfl, h1⟩, h2⟩ := h
      exact t_or ((ia X W c Z G).e _ h1) ((ib X W c Z G).e _ h2)
    · cases h) fun e h => by
    have h : andP .Or ((ob M a).t c) ((ob M b).t c) e = true := h
    unfold andP at h
    split at h
    · simp only [Bool.and_eq_true, decide_eq_true_eq] at h
      obtain ⟨⟨rfl, h1⟩, h2⟩ := h
      exact (t_orT ((ia X W c Z G).t _ h1) (L2.pw_or1 ((ib X W c Z G).t _ h2))).pt
    · simp only [Bool.and_eq_true, decide_eq_true_eq] at h
      obtain ⟨⟨rfl, h1⟩, h2⟩ := h
      exact (t_orT ((ia X W c Z G).t _ h1) (pw_of ((ib X W c Z G).t _ h2))).pt
    · cases h
theorem nl_of {es : Tm} {c : Cf} (h : (ob M es).s c [] = true) : es = .nl := by
  cases es <;> first | rfl | cases h
theorem one_of {es : Tm} {c : Cf} {y : Expr} {ys : List Expr} (hp : plainArgs es = true) (h : (ob M es).s c (y :: ys) = true) : ∃ a r, es = .cs a r ∧ notStar y = true ∧ opB M a (ob M a) c y = true ∧ plainArgs r = true ∧ (ob M r).s c ys = true := by
  cases es <;> first | cases h | cases hp | skip
  rename_i a r
  have h : (notStar y && opB M a (ob M a) c y && (ob M r).s c ys) = true := h
  simp only [Bool.and_eq_true] at h
  obtain ⟨⟨h1, h2⟩, h3⟩ := h
  exact ⟨a, r, rfl, h1, h2, hp, h3⟩
theorem ok_ite {c a b : Tm} (ic : TermOk M T cl k c) (ia : TermOk M T cl k a) (ib : TermOk M T cl k b) : TermOk M T cl k (.ite c a b) := fun X W cf Z G => by
  have he : ∀ e, (match e with | .IfExp x y z _ => (ob M c).t cf x && (ob M a).e cf y && (ob M b).e cf z | _ => false) = true → PE X e (tE X T errFld Z (ev cl (.ite c a b)).v W) := fun e h => by
    split at h
    · simp only [Bool.and_eq_true] at h
      obtain ⟨⟨h1, h2⟩, h3⟩ := h
      exact t_ite ((ic X W cf Z G).t _ h1) ((ia X W cf Z G).e _ h2) ((ib X W cf Z G).e _ h3)
    · cases h
  have F := four_val (M := M) (cl := cl) (c := cf) (p := fun k e => match e with | .IfExp x y z _ => (ob M c).t k x && (ob M a).e k y && (ob M b).e k z | _ => false) he
  exact ⟨F.e, fun e q => (by cases q), F.s, F.i⟩
theorem ok_idx {a b : Tm} (ia : TermOk M T cl k a) (ib : TermOk M T cl k b) : TermOk M T cl k (.idx a b) := fun X W c Z G => four_val fun e h => by
  split at h
  · simp only [Bool.and_eq_true] at h
    obtain ⟨⟨h0, h1⟩, h2⟩ := h
    exact t_idx (plainIx_is h0) (opB_pe G (ia X W c Z G) h1) (opB_pe G (ib X W c Z G) h2)
  · cases h
theorem part_ok {X : Cx} {W : WX} {c : Cf} {Z : Gh} {t : Tm} (F : Four M T cl Z X W c (ob M t) (ev cl t)) {o : Option Expr} (h : partB t (ob M t) c o = true) :
    L2.PO X o (fun σ H Q => ∃ F ρ, Rel X.K T Z F H σ ρ ∧ Fin X T errFld Z W σ F H ρ (part t (ev cl t).v ρ) fun o _ _ H' => Q o H') := by
  cases o with
  | none =>
    cases t <;> first | exact t_noPart | cases h
  | some e =>
    have hn : t ≠ .nl := fun z => by subst z; cases h
    have h : (ob M t).e c e = true := by cases t <;> first | exact h | exact absurd rfl hn
    exact t_part hn (F.e _ h)
theorem ok_sli {a lo hi : Tm} (ia : TermOk M T cl k a) (il : TermOk M T cl k lo) (ih : TermOk M T cl k hi) : TermOk M T cl k (.sli a lo hi) := fun X W c Z G => four_val fun e h => by
  split at h
  · simp only [Bool.and_eq_true] at h
    obtain ⟨⟨h0, h1⟩, h2⟩ := h
    exact t_sli (opB_pe G (ia X W c Z G) h0) (part_ok (il X W c Z G) h1) (part_ok (ih X W c Z G) h2)
  · cases h
theorem chn_sem {X : Cx} {W : WX} {Z : Gh} {a b d : Expr} {f g h : Env → Out VT} {o o' : Co} (hu : X.A.units + 128 < cLine) (ha : PE X a (tE X T errFld Z f W)) (hb : PE X b (tE X T errFld Z g W)) (hd : PE X d (tE X T errFld Z h W))
    {pins : List (Addr × Obj)} {s : Shared} {σ : L2.St} {H : Hp} {Q : Bool → Hp → Prop} (I : Inv X pins σ H s)
    (q : ∃ F ρ, Rel X.K T Z F H σ ρ ∧ Fin X T errFld Z W σ F H ρ (chnO o o' f g h ρ) fun r _ _ H' => Q r H') :
    wpAny (model X.prog X.w) X.A (eval a X.env) (fun v s1 => wpAny (model X.prog X.w) X.A (eval b X.env) (fun u s2 => wpAny (model X.prog X.w) X.A (compareOp (coOf o) v u) (fun e s3 => ∃ kb, e = .bool kb ∧ (kb = true → wpAny (model X.prog X.w) X.A (eval d X.env) (fun w' s4 => wpAny (model X.prog X.w) X.A (compareOp (coOf o') u w') (EP X pins σ fun x H' => ∃ kk, x = .bl kk ∧ Q kk H') X.xe s4) X.xe s3) ∧
      (kb = false → ∃ H', Inv X pins σ H' s3 ∧ Q false H')) X.xe s2) X.xe s1) X.xe s := by
  obtain ⟨F, ρ, R, q⟩ := q
  refine thn (ha.run pins s σ H _ I ⟨F, ρ, R, Fin.mono (Fin.bind q) fun r ρ1 F1 H1 R1 S1 k v rv => (⟨r, F1, ρ1, R1, S1, rv, k⟩ : ∃ r F1 ρ1, Rel X.K T Z F1 H1 σ ρ1 ∧ Stp F H σ ρ F1 H1 ρ1 ∧ Rv X.K Z H ρ F1 H1 σ ρ1 v r ∧ Fin X T errFld Z W σ F H ρ ((g ρ1).bind fun y ρ => (opt? (cop o r.d y.d) ρ).bind fun k ρ => if k then (h ρ).bind fun z ρ => opt? (cop o' y.d z.d) ρ else .ok false ρ) fun r _ _ H' => Q r H')⟩) fun v s1 ⟨x, H1, I1, rx, r, F1, ρ1, R1, S1, rv, k⟩ => ?_
  obtain ⟨F2, R2, S2, _, d1⟩ := freeze R1 S1 rv
  refine thn (hb.run pins s1 σ H1 _ I1 ⟨F2, ρ1, R2, Fin.mono (Fin.bind (Fin.base R2 S2 k)) fun r2 ρ3 F3 H3 R3 S3 k3 u ru => (⟨r2, F3, ρ3, R3, S3, ru, k3⟩ : ∃ r2 F3 ρ3, Rel X.K T Z F3 H3 σ ρ3 ∧ Stp F2 H1 σ ρ1 F3 H3 ρ3 ∧ Rv X.K Z H1 ρ1 F3 H3 σ ρ3 u r2 ∧ Fin X T errFld Z W σ F2 H1 ρ1 ((opt? (cop o r.d r2.d) ρ3).bind fun k ρ => if k then (h ρ).bind fun z ρ => opt? (cop o' r2.d z.d) ρ else .ok false ρ) fun r _ _ H' => Q r H')⟩) fun u s2 ⟨y, H3, I3, ry, r2, F3, ρ3, R3, S3, ru, k3⟩ => ?_
  obtain ⟨F4, R4, S4, _, d2⟩ := freeze R3 S3 ru
  have d1 := dp_mono S4.frz d1
  cases e1 : cop o r.d r2.d with
  | none => simp only [e1, opt?] at k3; exact k3.elim
  | some kb =>
    have ec : cval o r.d r2.d = some (.pl (.bool kb)) := by unfold cval; rw [e1]; rfl
    refine thn (ops_cop (T := T) (Z := Z) o hu pins s2 σ H3 x y v u (fun w H' => ∃ F5, w = .bl kb ∧ Rel X.K T Z F5 H' σ ρ3 ∧ Stp F4 H3 σ ρ3 F5 H' ρ3) F4 ρ3 r.d r2.d _ I3 rx ry R4 (.inl d1) (.inl d2) ec fun w F' H' R' S' rw_ => ⟨F', by cases rw_; rfl, R', S'⟩) fun e s3 ⟨w, H5, I5, r5, F5, ew, R5, S5⟩ => ?_
    subst ew
    cases r5
    refine ⟨kb, rfl, fun z => ?_, fun z => ?_⟩
    · subst z
      simp only [e1, opt?] at k3
      have k3 : Fin X T errFld Z W σ F2 H1 ρ1 ((h ρ3).bind fun z ρ => opt? (cop o' r2.d z.d) ρ) _ := k3
      have d2 := dp_mono S5.frz d2
      have S25 : Stp F2 H1 σ ρ1 F5 H5 ρ3 := S4.trans R4 S5
      refine thn (hd.run pins s3 σ H5 _ I5 ⟨F5, ρ3, R5, Fin.mono (Fin.bind (Fin.base R5 S25 k3)) fun r3 ρ6 F6 H6 R6 S6 k6 t rt => (⟨r3, F6, ρ6, R6, S6, rt, k6⟩ : ∃ r3 F6 ρ6, Rel X.K T Z F6 H6 σ ρ6 ∧ Stp F5 H5 σ ρ3 F6 H6 ρ6 ∧ Rv X.K Z H5 ρ3 F6 H6 σ ρ6 t r3 ∧ Fin X T errFld Z W σ F5 H5 ρ3 (opt? (cop o' r2.d r3.d) ρ6) fun r _ _ H' => Q r H')⟩) fun t s4 ⟨tv, H6, I6, rtv, r3, F6, ρ6, R6, S6, rt, k6⟩ => ?_
      obtain ⟨F7, R7, S7, _, d3⟩ := freeze R6 S6 rt
      have d2 := dp_mono S7.frz d2
      cases e3 : cop o' r2.d r3.d with
      | none => simp only [e3, opt?] at k6; exact k6.elim
      | some kk =>
        simp only [e3, opt?] at k6
        have e4 : cval o' r2.d r3.d = some (.pl (.bool kk)) := by unfold cval; rw [e3]; rfl
        exact ops_cop (T := T) (Z := Z) o' hu pins s4 σ H6 y tv u t _ F7 ρ6 r2.d r3.d _ I6 ry rtv R7 (.inl d2) (.inl d3) e4 fun w F' H' R' S' rw_ => ⟨kk, by cases rw_; rfl, k6 F' H' R' (S7.trans R7 S')⟩
    · subst z
      simp only [e1, opt?] at k3
      have k3 : Fin X T errFld Z W σ F2 H1 ρ1 (Out.ok false ρ3) _ := k3
      exact ⟨H5, I5, k3 F5 H5 R5 (S4.trans R4 S5)⟩
theorem ok_chn {o o' : Co} {a b d : Tm} (ia : TermOk M T cl k a) (ib : TermOk M T cl k b) (id_ : TermOk M T cl k d) : TermOk M T cl k (.chn o o' a b d) := fun X W c Z G => by
  have hu : X.A.units + 128 < cLine := by have := G.room.un; omega
  refine four_of (fun e h => ?_) fun e h => ?_
  · have h : chnP o o' ((ob M a).e c) ((ob M b).e c) ((ob M d).e c) e = true := h
    unfold chnP at h
    split at h
    · simp only [Bool.and_eq_true, decide_eq_true_eq, Bool.not_eq_true'] at h
      obtain ⟨⟨⟨⟨⟨rfl, rfl⟩, h0⟩, h1⟩, h2⟩, h3⟩ := h
      refine ⟨fun pins s σ H Q I ⟨F, ρ, R, q⟩ => ?_⟩
      refine Compare_chain (thn (chn_sem (o := o) (o' := o') (Q := fun kk H' => Q (.bl kk) H') hu ((ia X W c Z G).e _ h1) ((ib X W c Z G).e _ h2) ((id_ X W c Z G).e _ h3) I ⟨F, ρ, R, Fin.mono (Fin.bind q) fun r ρ1 F1 H1 R1 S1 k => k F1 H1 R1 S1 _ (.bl r)⟩) fun v s1 q1 => chain_link (thn q1 fun u s2 q2 => thn q2 fun e s3 ⟨kb, ek, yes, no⟩ => ?_)) h0
      subst ek
      refine wpAny_truthy_bool ?_
      cases kb with
      | true => exact ite_tt (chain_last (thn (yes rfl) fun w' s4 q4 => thn q4 fun z s5 ⟨x, H', I', r', kk, ex, q'⟩ => ⟨.bl kk, H', I', by subst ex; exact r', q'⟩))
      | false =>
        obtain ⟨H', I', q'⟩ := no rfl
        exact ite_ff ⟨.bl false, H', I', rfl, q'⟩
    · cases h
  · have h : chnP o o' ((ob M a).e c) ((ob M b).e c) ((ob M d).e c) e = true := h
    unfold chnP at h
    split at h
    · simp only [Bool.and_eq_true, decide_eq_true_eq, Bool.not_eq_true'] at h
      obtain ⟨⟨⟨⟨⟨rfl, rfl⟩, h0⟩, h1⟩, h2⟩, h3⟩ := h
      refine ⟨fun pins s σ H Q I q => ?_⟩
      refine isTrue_chain (thn (chn_sem (o := o) (o' := o') (Q := Q) hu ((ia X W c Z G).e _ h1) ((ib X W c Z G).e _ h2) ((id_ X W c Z G).e _ h3) I q) fun v s1 q1 => test_link (thn q1 fun u s2 q2 => thn q2 fun e s3 ⟨kb, ek, yes, no⟩ => ?_)) h0
      subst ek
      refine wpAny_truthy_bool ?_
      cases kb with
      | true => exact ite_tt (test_last (thn (yes rfl) fun w' s4 q4 => thn q4 fun z s5 ⟨x, H', I', r', kk, ex, q'⟩ => by
          subst ex
          cases r'
          exact wpAny_truthy_bool ⟨H', I', q'⟩))
      | false =>
        obtain ⟨H', I', q'⟩ := no rfl
        exact ite_ff ⟨H', I', q'⟩
    · cases h
theorem ok_cal {f : Nat} {es : Tm} (ie : TermOk M T cl k es) : TermOk M T cl k (.cal f es) := fun X W c Z G => four_val fun e h => by
  split at h
  · rename_i x p xs pos
    simp only [Bool.and_eq_true] at h
    obtain ⟨⟨⟨h1, h2⟩, h3⟩, h4⟩ := h
    cases hf : M.Γ[f]? with
    | none => rw [hf] at h1; cases h1
    | some df =>
      rw [hf] at h1
      simp only [Bool.and_eq_true, decide_eq_true_eq, Bool.not_eq_true', beq_eq_false_iff_ne] at h1
      obtain ⟨rfl, hn⟩ := h1
      obtain ⟨a, fd, m1, m2, m3, m4⟩ := G.mod.fn f df hf hn
      have io := G.mod.io f df hf
      have hr : Room k X.A := G.room.mono (by omega)
      split at h4
      · exact t_cal0 m4 hr G.pass io (G.gl h2) m1 m2 m3 (plain_is h3).1
      · rename_i y ys
        obtain ⟨s1, s2⟩ := Bool.and_eq_true_iff.mp h4
        have s1' : notStar y = true ∧ ys.all notStar = true := Bool.and_eq_true_iff.mp s1
        exact t_cal m4 hr G.pass io (G.gl h2) m1 m2 m3 ((ie X W c Z G).s _ s2) (plain_is h3).1 (star_cons s1'.1) (star_all s1'.2)
      · cases h4
  · cases h
theorem ok_blt {f : Bf} {es : Tm} (ie : TermOk M T cl k es) (ia : ∀ a, es = .cs a .nl → TermOk M T cl k a) : TermOk M T cl k (.blt f es) := fun X W c Z G => four_val fun e h => by
  split at h
  · rename_i x p xs pos
    simp only [Bool.and_eq_true, Bool.or_eq_true, decide_eq_true_eq] at h
    obtain ⟨⟨h1, h2⟩, h3⟩ := h
    rcases h3 with ⟨h3, h4⟩ | ⟨⟨⟨rfl, h3⟩, hpl⟩, h4⟩
    · obtain ⟨b1, b2, b3⟩ := G.bf (Z := Z) (T := T) h3 h1 h2
      split at h4
      · rename_i y ys
        obtain ⟨s1, s2⟩ := Bool.and_eq_true_iff.mp h4
        have s1' : notStar y = true ∧ ys.all notStar = true := Bool.and_eq_true_iff.mp s1
        exact t_blt b2 b3 b1 ((ie X W c Z G).s _ s2) (star_cons s1'.1) (star_all s1'.2)
      · cases h4
    · split at h4
      · rename_i y z
        obtain ⟨s0, s3⟩ := Bool.and_eq_true_iff.mp h4
        have gi : Gl X "isinstance" := G.gl h1
        have mi : X.mg "isinstance" = none := G.mod.bl _ (by simpa using h3)
        obtain ⟨a, r, rfl, s1, s2, _, s4⟩ := one_of hpl s0
        obtain rfl := nl_of s4
        have pa := opB_pe G (ia a rfl X W c Z G) s2
        unfold isiB at s3
        split at s3
        · obtain ⟨y', p2, rfl, q⟩ := G.ty s3
          exact t_isi gi mi q pa (star_cons s1)
        · split at s3
          · obtain ⟨q1, q2⟩ := Bool.and_eq_true_iff.mp s3
            exact t_isis gi mi (G.tys q1) (by simpa using q2) pa (star_cons s1)
          · cases s3
        · cases s3
      · cases h4
  · cases h
theorem ok_rng {es : Tm} (ia : ∀ a r, es = .cs a r → TermOk M T cl k a) (ib : ∀ a b r, es = .cs a (.cs b r) → TermOk M T cl k b) (ic : ∀ a b d r, es = .cs a (.cs b (.cs d r)) → TermOk M T cl k d) : TermOk M T cl k (.rng es) := fun X W c Z G => four_i fun tg e h => by
  split at h
  · simp only [Bool.and_eq_true, decide_eq_true_eq] at h
    obtain ⟨⟨⟨⟨rfl, h1⟩, h2⟩, hpl⟩, h3⟩ := h
    have gr : Gl X "range" := G.gl h1
    have mr : X.mg "range" = none := G.mod.bl _ (by simpa using h2)
    split at h3
    · obtain ⟨a, r, rfl, s1, s2, _, s4⟩ := one_of hpl h3
      obtain rfl := nl_of s4
      exact t_rng1 gr mr (opB_pe G (ia a _ rfl X W c Z G) s2) (star_cons s1)
    · obtain ⟨a, r, rfl, s1, s2, hp2, s4⟩ := one_of hpl h3
      obtain ⟨b, r2, rfl, u1, u2, _, u4⟩ := one_of hp2 s4
      obtain rfl := nl_of u4
      exact t_rng2 gr mr (opB_pe G (ia a _ rfl X W c Z G) s2) (opB_pe G (ib a b _ rfl X W c Z G) u2) (by rw [star_cons s1, star_cons u1]; rfl) (star_cons u1)
    · obtain ⟨a, r, rfl, s1, s2, hp2, s4⟩ := one_of hpl h3
      obtain ⟨b, r2, rfl, u1, u2, hp3, u4⟩ := one_of hp2 s4
      obtain ⟨d, r3, rfl, v1, v2, _, v4⟩ := one_of hp3 u4
      obtain rfl := nl_of v4
      exact t_rng3 gr mr (opB_pe G (ia a _ rfl X W c Z G) s2) (opB_pe G (ib a b _ rfl X W c Z G) u2) (opB_pe G (ic a b d _ rfl X W c Z G) v2) (star_cons s1) (star_cons u1) (star_cons v1)
    · cases h3
  · cases h
theorem ok_lcp {own : List Nat} {tgt : Tg} {it tc te : Tm} (ii : TermOk M T cl k it) (ic : TermOk M T cl k tc) (ie : TermOk M T cl k te) : TermOk M T cl k (.lcp own tgt it tc te) := fun X W c Z G => four_val fun e h => by
  split at h
  · rename_i elt g scope pos
    obtain ⟨ht, h⟩ := Bool.and_eq_true_iff.mp h
    obtain ⟨tg, iter, ifs, rfl, h1, h2, h3, h4, h5, h6, h7⟩ := in_parts h
    obtain ⟨t1, t2, t3⟩ := G.top ht
    have q := t_lcp (Z := Z) (T := T) (fld := errFld) (pos := pos) (tgt := tgt) t1 t2 t3 G.calm G.nd ((ii X W c Z G).i tg iter h1) (by rw [G.hN, G.hsc]; exact h2) h3
      (fun σ s H C cells fp xe hp => tg_ok (M := M) (G.blk h2.kind hp).hN (G.blk h2.kind hp).nd (G.blk h2.kind hp).calm (G.blk h2.kind hp).hsc (fun x hx => hx) h4)
      (fun σ s H C cells fp xe hp => ifs_ok (ic _ _ _ Z (G.blk h2.kind hp)) h5)
      (fun σ s H C cells fp xe hp => (ie _ _ _ Z (G.blk h2.kind hp)).e elt h6) (notSet_is h7)
    rw [own_ix] at q
    exact q
  · cases h
theorem ok_lcn {own : List Nat} {tgt : Tg} {it tc te : Tm} (ii : TermOk M T cl k it) (ic : TermOk M T cl k tc) (ie : TermOk M T cl k te) : TermOk M T cl k (.lcn own tgt it tc te) := fun X W c Z G => four_val fun e h => by
  split at h
  · rename_i elt g scope pos
    obtain ⟨tg, iter, ifs, rfl, h1, h2, h3, h4, h5, h6, h7⟩ := in_parts h
    have q := t_lcn (Z := Z) (T := T) (fld := errFld) (pos := pos) (tgt := tgt) (W := W) G.calm G.nd ((ii X W c Z G).i tg iter h1) (by rw [G.hN, G.hsc]; exact h2) h3
      (fun s H C cells fp => tg_ok (M := M) (G.blkN h2.kind).hN (G.blkN h2.kind).nd (G.blkN h2.kind).calm (G.blkN h2.kind).hsc (fun x hx => hx) h4)
      (fun s H C cells fp => ifs_ok (ic _ _ _ Z (G.blkN h2.kind)) h5)
      (fun s H C cells fp => (ie _ _ _ Z (G.blkN h2.kind)).e elt h6) (notSet_is h7)
    rw [own_ix] at q
    exact q
  · cases h
theorem noParams_is {a : Arguments} (h : noParams a = true) : a = ⟨[], [], none, [], [], none, []⟩ := by
  unfold noParams at h
  split at h
  · rfl
  · cases h
theorem ok_tol {b : Tm} (ib : TermOk M T cl k b) : TermOk M T cl k (.tol b) := fun X W c Z G => four_val fun e h => by
  split at h
  · rename_i x p params body scope lp pos
    simp only [Bool.and_eq_true, decide_eq_true_eq] at h
    obtain ⟨⟨⟨⟨⟨rfl, h1⟩, h2⟩, h3⟩, h4⟩, h5⟩ := h
    have h3 := noParams_is h3
    subst h3
    obtain ⟨C, fI, E⟩ := G.mod.er
    obtain ⟨g, pg, bg, sg, dV, kV, doc, pm, cdv, ct, oc, an, od, osl, m1, m2, m3, m4, m5, m6, m7, m8, m9, m10⟩ := G.mod.told
    obtain ⟨r, cc, P, l1, l2, l3, l4⟩ := G.lam h1
    have L : LamX.LamS X.env.scope scope := by rw [G.hsc]; exact LamX.lamS_by h4
    refine t_tol E (G.gl h2) m1 m2 m3 m4 m5 m6 m7 m8 m9 m10 l1 l2 l3 l4 (k := k + 2) r L rfl (fun _ _ _ _ _ => by first | rfl | with_unfolding_all rfl) (fun A outer s H E' f' c' hr' => ?_) (by decide)
    have tk : Takes (LamX.lamCx X A outer s H E' scope f' c') (fun c d _ H => E' c d H) := L2.takes_of rfl rfl rfl rfl
    have G2 : Gd M T cl k (LamX.lamCx X A outer s H E' scope f' c') (fun c d _ H => E' c d H) ⟨scope, true, false⟩ :=
      ⟨G.mod, rfl, G.nd, G.hN, rfl, L.kind, hr', fun σ => L2.passAt tk σ, fun _ => ⟨rfl, rfl, tk⟩, (fun z => by cases z), G.kp⟩
    exact (ib _ _ _ Z G2).e body h5
  · cases h
theorem ok_sset {own : List Nat} {tgt : Tg} {it tc te : Tm} (ii : TermOk M T cl k it) (ic : TermOk M T cl k tc) (ie : TermOk M T cl k te) : TermOk M T cl k (.sset own tgt it tc te) := fun X W c Z G => four_val fun e h => by
  split at h
  · rename_i x px elt g scope pos0 pos
    simp only [Bool.and_eq_true, decide_eq_true_eq] at h
    obtain ⟨⟨⟨rfl, g1⟩, g2⟩, ht, h⟩ := h
    obtain ⟨tg, iter, ifs, rfl, h1, h2, h3, h4, h5, h6, h7⟩ := in_parts h
    obtain ⟨t1, t2, t3⟩ := G.top ht
    have q := t_sset (Z := Z) (T := T) (fld := errFld) (p := px) (pos0 := pos0) (pos := pos) (tgt := tgt) t1 t2 t3 G.calm G.nd (G.gl g1) (G.mod.bl _ (by simpa using g2)) ((ii X W c Z G).i tg iter h1) (by rw [G.hN, G.hsc]; exact h2) h3
      (fun σ s H C cells fp xe hp => tg_ok (M := M) (G.blk h2.kind hp).hN (G.blk h2.kind hp).nd (G.blk h2.kind hp).calm (G.blk h2.kind hp).hsc (fun x hx => hx) h4)
      (fun σ s H C cells fp xe hp => ifs_ok (ic _ _ _ Z (G.blk h2.kind hp)) h5)
      (fun σ s H C cells fp xe hp => int_elt ((ie _ _ _ Z (G.blk h2.kind hp)).e elt h6)) (notSet_is h7) rfl
    rw [own_ix] at q
    exact q
  · cases h
theorem ok_lset {a : Tm} (ia : TermOk M T cl k a) : TermOk M T cl k (.lset a) := fun X W c Z G => four_val fun e h => by
  split at h
  · simp only [Bool.and_eq_true, decide_eq_true_eq] at h
    obtain ⟨⟨⟨⟨⟨⟨⟨rfl, rfl⟩, h1⟩, h2⟩, h3⟩, h4⟩, h5⟩, h6⟩ := h
    exact t_lset G.calm G.room.units (G.gl h1) (G.mod.bl _ (by simpa using h3)) (G.gl h2) (G.mod.bl _ (by simpa using h4)) ((ia X W c Z G).e _ h6) (star_cons h5)
  · cases h
theorem ok_idn {a b : Tm} (ia : TermOk M T cl k a) (ib : TermOk M T cl k b) : TermOk M T cl k (.idn a b) := fun X W c Z G => four_val fun e h => by
  split at h
  · simp only [Bool.and_eq_true, decide_eq_true_eq] at h
    obtain ⟨⟨⟨⟨rfl, h1⟩, h2⟩, h3⟩, h4⟩ := h
    refine t_idn ((ia X W c Z G).e _ h3) ((ib X W c Z G).e _ h4) rfl ?_ h1 (star_cons h2)
    rw [star_cons h2]
    rfl
  · cases h
theorem ok_rev {a : Tm} (ia : TermOk M T cl k a) : TermOk M T cl k (.rev a) := fun X W c Z G => four_i fun tg e h => by
  split at h
  · simp only [Bool.and_eq_true, decide_eq_true_eq] at h
    obtain ⟨⟨⟨⟨rfl, h1⟩, h2⟩, h3⟩, h4⟩ := h
    exact t_rev (G.gl h1) (G.mod.bl _ (by simpa using h2)) ((ia X W c Z G).e _ h4) (star_cons h3)
  · cases h
theorem ok_revr {a : Tm} (ia : TermOk M T cl k a) : TermOk M T cl k (.revr a) := fun X W c Z G => four_i fun tg e h => by
  split at h
  · simp only [Bool.and_eq_true, decide_eq_true_eq] at h
    obtain ⟨⟨⟨⟨⟨⟨⟨rfl, rfl⟩, h1⟩, h2⟩, h3⟩, h4⟩, h5⟩, h6⟩ := h
    exact t_revr (G.gl h1) (G.mod.bl _ (by simpa using h3)) (G.gl h2) (G.mod.bl _ (by simpa using h4)) ((ia X W c Z G).e _ h6) (star_cons h5) rfl
  · cases h
theorem ok_lrev {a : Tm} (ia : TermOk M T cl k a) : TermOk M T cl k (.lrev a) := fun X W c Z G => four_val fun e h => by
  split at h
  · simp only [Bool.and_eq_true, decide_eq_true_eq] at h
    obtain ⟨⟨⟨⟨⟨⟨⟨rfl, rfl⟩, h1⟩, h2⟩, h3⟩, h4⟩, h5⟩, h6⟩ := h
    exact t_lrev G.calm (G.gl h1) (G.mod.bl _ (by simpa using h3)) (G.gl h2) (G.mod.bl _ (by simpa using h4)) ((ia X W c Z G).e _ h6) (star_cons h5) rfl
  · cases h
theorem ok_lrng {a : Tm} (ia : TermOk M T cl k a) : TermOk M T cl k (.lrng a) := fun X W c Z G => four_val fun e h => by
  split at h
  · simp only [Bool.and_eq_true, decide_eq_true_eq] at h
    obtain ⟨⟨⟨⟨⟨⟨⟨rfl, rfl⟩, h1⟩, h2⟩, h3⟩, h4⟩, h5⟩, h6⟩ := h
    exact t_lrng G.calm (G.gl h1) (G.mod.bl _ (by simpa using h3)) (G.gl h2) (G.mod.bl _ (by simpa using h4)) ((ia X W c Z G).e _ h6) (star_cons h5) rfl
  · cases h
theorem ok_trng {a : Tm} (ia : TermOk M T cl k a) : TermOk M T cl k (.trng a) := fun X W c Z G => four_val fun e h => by
  split at h
  · simp only [Bool.and_eq_true, decide_eq_true_eq] at h
    obtain ⟨⟨⟨⟨⟨⟨⟨rfl, rfl⟩, h1⟩, h2⟩, h3⟩, h4⟩, h5⟩, h6⟩ := h
    exact t_trng G.calm (G.gl h1) (G.mod.bl _ (by simpa using h3)) (G.gl h2) (G.mod.bl _ (by simpa using h4)) ((ia X W c Z G).e _ h6) (star_cons h5) rfl
  · cases h
theorem ok_mnd {a : Tm} (ia : TermOk M T cl k a) : TermOk M T cl k (.mnd a) := fun X W c Z G => four_val fun e h => by
  split at h
  · simp only [Bool.and_eq_true, decide_eq_true_eq] at h
    obtain ⟨⟨⟨⟨⟨rfl, rfl⟩, h1⟩, h2⟩, h3⟩, h4⟩ := h
    exact t_mnd G.calm G.room.units (G.gl h1) (G.mod.bl _ (by simpa using h2)) ((ia X W c Z G).e _ h4) h3
  · cases h
theorem ok_pop {i : Nat} : TermOk M T cl k (.pop i) := fun X W c Z G => four_val fun e h => by
  split at h
  · simp only [Bool.and_eq_true, decide_eq_true_eq] at h
    obtain ⟨⟨rfl, h1⟩, h2⟩ := h
    exact t_pop (G.slot h2) rfl h1
  · cases h
theorem ok_rvl {a : Tm} (ia : TermOk M T cl k a) : TermOk M T cl k (.rvl a) := fun X W c Z G => four_val fun e h => by
  split at h
  · simp only [Bool.and_eq_true, decide_eq_true_eq] at h
    obtain ⟨rfl, h1⟩ := h
    exact t_rvl ((ia X W c Z G).e _ h1)
  · cases h
theorem term_ok : ∀ t : Tm, TermOk M T cl k t
  | .var i => fun X W c Z G => four_val fun e h => t_var (G.slot h)
  | .mov i => fun X W c Z G => four_val fun e h => t_mov (G.slot h)
  | .bor i => fun X W c Z G => four_of (fun e h => by cases h) fun e h => by
      have h : slotB M c.sc i e = true := h
      have pl : plainT e = true := by unfold slotB at h; split at h <;> first | rfl | cases h
      exact t_truthB (G.slot h) (plainT_is pl)
  | .cst d => fun X W c Z G => four_val fun e h => t_cst (cst_is h)
  | .glb x d => fun X W c Z G => four_val fun e h => by
      split at h
      · simp only [Bool.and_eq_true, decide_eq_true_eq] at h
        obtain ⟨⟨⟨rfl, h1⟩, h2⟩, h3⟩ := h
        obtain ⟨p, hp, h4⟩ := List.any_eq_true.mp h3
        obtain ⟨h4, h5⟩ := Bool.and_eq_true_iff.mp h4
        have := G.mod.glb p hp
        rw [sameD_eq h5, of_decide_eq_true h4] at this
        exact t_glb (G.gl h1) (plain_is h2).1 this
      · cases h
  | .bin o a b => ok_bin (term_ok a) (term_ok b)
  | .sset own tgt it tc te => ok_sset (term_ok it) (term_ok tc) (term_ok te)
  | .lset a => ok_lset (term_ok a)
  | .idn a b => ok_idn (term_ok a) (term_ok b)
  | .rev a => ok_rev (term_ok a)
  | .revr a => ok_revr (term_ok a)
  | .lrev a => ok_lrev (term_ok a)
  | .lrng a => ok_lrng (term_ok a)
  | .trng a => ok_trng (term_ok a)
  | .mnd a => ok_mnd (term_ok a)
  | .pop i => ok_pop
  | .rvl a => ok_rvl (term_ok a)
  | .neg a => ok_neg (term_ok a)
  | .not a => ok_not (term_ok a)
  | .cmp o a b => ok_cmp (term_ok a) (term_ok b)
  | .chn o o' a b d => ok_chn (term_ok a) (term_ok b) (term_ok d)
  | .and a b => ok_and (term_ok a) (term_ok b)
  | .or a b => ok_or (term_ok a) (term_ok b)
  | .ite c a b => ok_ite (term_ok c) (term_ok a) (term_ok b)
  | .tup es => fun X W c Z G => four_val fun e h => by
      split at h
      · exact t_tup ((term_ok es X W c Z G).s _ h)
      · cases h
  | .lst es => fun X W c Z G => four_val fun e h => by
      split at h
      · exact t_lst ((term_ok es X W c Z G).s _ h)
      · cases h
  | .nl => fun X W c Z G => four_s fun es h => by
      split at h
      · exact t_nil
      · cases h
  | .cs a es => fun X W c Z G => four_s fun xs h => by
      split at h
      · simp only [Bool.and_eq_true] at h
        obtain ⟨⟨h1, h2⟩, h3⟩ := h
        exact t_cs (opB_pe G (term_ok a X W c Z G) h2) ((term_ok es X W c Z G).s _ h3) (star_cons h1)
      · cases h
  | .io i es => fun X W c Z G => four_s fun xs h => by
      split at h
      · simp only [Bool.and_eq_true] at h
        obtain ⟨⟨h1, h2⟩, h3⟩ := h
        exact t_io (G.slot h2) ((term_ok es X W c Z G).s _ h3) (star_cons h1)
      · cases h
  | .idx a b => ok_idx (term_ok a) (term_ok b)
  | .sli a lo hi => ok_sli (term_ok a) (term_ok lo) (term_ok hi)
  | .cal f es => ok_cal (term_ok es)
  | .blt f (.cs a .nl) => ok_blt (term_ok _) fun b q => by cases q; exact term_ok a
  | .blt f es => ok_blt (term_ok es) fun b q => by subst q; exact term_ok b
  | .lcp own tgt it tc te => ok_lcp (term_ok it) (term_ok tc) (term_ok te)
  | .lcn own tgt it tc te => ok_lcn (term_ok it) (term_ok tc) (term_ok te)
  | .rng (.cs a (.cs b (.cs d r))) => ok_rng (fun a' r' q => by cases q; exact term_ok a) (fun a' b' r' q => by cases q; exact term_ok b) fun a' b' d' r' q => by cases q; exact term_ok d
  | .rng (.cs a (.cs b r)) => ok_rng (fun a' r' q => by cases q; exact term_ok a) (fun a' b' r' q => by cases q; exact term_ok b) fun a' b' d' r' q => by cases q; exact term_ok d'
  | .rng (.cs a r) => ok_rng (fun a' r' q => by cases q; exact term_ok a) (fun a' b' r' q => by cases q; exact term_ok b') fun a' b' d' r' q => by cases q; exact term_ok d'
  | .rng es => ok_rng (fun a' r' q => by subst q; exact term_ok a') (fun a' b' r' q => by subst q; exact term_ok b') fun a' b' d' r' q => by subst q; exact term_ok d'
  | .enu a => fun X W c Z G => four_i fun tg e h => by
      split at h
      · simp only [Bool.and_eq_true, decide_eq_true_eq] at h
        obtain ⟨⟨⟨⟨⟨rfl, h1⟩, h2⟩, h3⟩, h4⟩, h5⟩ := h
        exact t_enu h3 (G.gl h1) (G.mod.bl _ (by simpa using h2)) ((term_ok a X W c Z G).e _ h5) (star_cons h4)
      · cases h
  | .zip a b => fun X W c Z G => four_i fun tg e h => by
      split at h
      · simp only [Bool.and_eq_true, decide_eq_true_eq] at h
        obtain ⟨⟨⟨⟨⟨⟨⟨rfl, h1⟩, h2⟩, h3⟩, h4⟩, h5⟩, h6⟩, h7⟩ := h
        exact t_zip h3 (G.gl h1) (G.mod.bl _ (by simpa using h2)) ((term_ok a X W c Z G).e _ h6) ((term_ok b X W c Z G).e _ h7) h4 h5
      · cases h
  | .tol b => ok_tol (term_ok b)
end
end Sw

end
section
set_option maxRecDepth 100000
set_option maxHeartbeats 8000000
namespace Sw
open PySem PySem.Spec PyProof.Rows
open L2 (V Hp HO upd upd_same upd_ne SqL SqT Rd VK XK WX Cx Inv RelV Vals PE PT PW PA PI PS PSs EP TP AP SP TE TT TA TS TI It Takes thn Gl Vis Loc Room OpR CallR TyX PG PGs TG TGs PTs Ends Sp FnOk frs)
structure So where
  one : Cf → Stmt → Bool
  many : Cf → List Stmt → Bool
def oneP (p : Stmt → Bool) : List Stmt → Bool
  | [s] => p s
  | _ => false
def single (p : Cf → Stmt → Bool) : So := ⟨p, fun c l => oneP (p c) l⟩
def locB (M : Md) (sc : Scope) (i : Nat) (x : Str) : Bool := decide (M.N[i]? = some x) && (match sc.names.lookup x with | some .local => true | some .cell => true | _ => false)
/-- does the store come ahead of the comprehension's end -/
def swB (sc : Scope) (x : Str) (p : Pos) : Expr → Bool
  | .ListComp _ _ scope pos => decide (sc.names.lookup x = some .local) && (p.line == pos.line) && !(scope.names.any fun (n, k) => n == x && (k == .local || k == .cell))
  | _ => false
def noComp : Expr → Bool
  | .ListComp _ _ _ _ => false
  | .SetComp _ _ _ _ => false
  | .DictComp _ _ _ _ _ => false
  | _ => true
def isTup : Expr → Bool
  | .Tuple _ _ _ => true
  | _ => false
def isLcp : Tm → Bool
  | .lcp _ _ _ _ _ => true
  | _ => false
def setP (M : Md) (i : Nat) (t : Tm) (c : Cf) : Stmt → Bool
  | .Assign [.Name x p] e _ => locB M c.sc i x && ((noComp e || decide (c.sc.names.lookup x = some .cell)) || (swB c.sc x p e && isLcp t)) && (ob M t).e c e
  | _ => false
/-- constants side by side -/
def tupFold : Expr → Bool
  | .Tuple vs _ _ => vs.all (foldedForSure 8)
  | _ => false
def unpP (M : Md) (tg : Tg) (t : Tm) (c : Cf) : Stmt → Bool
  | .Assign [g] e _ => isTup g && (!isTup e || tupFold e) && tgB M c.sc (fun _ => true) tg g && (ob M t).e c e
  | _ => false
/-- a, b = e1, e2 -/
def parP (M : Md) (tg : Tg) (t : Tm) (c : Cf) (s : Stmt) : Bool := match tg, t, s with
  | .tp (.cs (.nm i) (.cs (.nm j) .nl)), .tup es, .Assign [.Tuple [.Name x px, .Name y py] _ _] (.Tuple [a, b] _ _) _ =>
    decide (py.line = px.line) && (!(foldedForSure 8 a && foldedForSure 8 b) && (!(constantsAlone 8 a && constantsAlone 8 b) && (decide (i ≠ j) && (decide (x ≠ y) && (decide (M.N[i]? = some x) && (decide (M.N[j]? = some y) && (decide (c.sc.names.lookup x = some .local) && (decide (c.sc.names.lookup y = some .local) && (notStar a && (notStar b && (ob M es).s c [a, b]))))))))))
  | _, _, _ => false
def expP (M : Md) (t : Tm) (c : Cf) : Stmt → Bool
  | .Expr e _ => noComp e && (ob M t).e c e
  | _ => false
def appP (M : Md) (i : Nat) (t : Tm) (c : Cf) : Stmt → Bool
  | .Expr (.Call (.Attribute o m p) [e] [] q) _ => decide (m = ("append" : Str)) && slotB M c.sc i o && notStar e && (p.endLine == q.line) && (ob M t).e c e
  | _ => false
def extP (M : Md) (i : Nat) (t : Tm) (c : Cf) : Stmt → Bool
  | .Expr (.Call (.Attribute o m p) [e] [] q) _ => decide (m = ("extend" : Str)) && slotB M c.sc i o && notStar e && (p.endLine == q.line) && (ob M t).e c e
  | _ => false
def rvsP (M : Md) (i : Nat) (c : Cf) : Stmt → Bool
  | .Expr (.Call (.Attribute o m p) [] [] q) _ => decide (m = ("reverse" : Str)) && slotB M c.sc i o && (p.endLine == q.line)
  | _ => false
def stiP (M : Md) (i : Nat) (k t : Tm) (c : Cf) : Stmt → Bool
  | .Assign [.Subscript o ke _] e _ => slotB M c.sc i o && plainIxB ke && !isTup e && (ob M k).e c ke && (ob M t).e c e
  | _ => false
def augP (M : Md) (i : Nat) (o : Bo) (t : Tm) (c : Cf) : Stmt → Bool
  | .AugAssign (.Name x _) op e _ => decide (op = opOf o) && locB M c.sc i x && (ob M t).e c e
  | _ => false
def agiP (M : Md) (i : Nat) (k : Tm) (o : Bo) (t : Tm) (c : Cf) : Stmt → Bool
  | .AugAssign (.Subscript x ke _) op e _ => decide (op = opOf o) && slotB M c.sc i x && plainIxB ke && (ob M k).e c ke && (ob M t).e c e
  | _ => false
def retP (M : Md) (t : Tm) (c : Cf) : Stmt → Bool
  | .Return (some e) _ => (ob M t).e c e
  | _ => false
def iteP (M : Md) (t : Tm) (a b : So) (c : Cf) : Stmt → Bool
  | .If e x y _ => (ob M t).t c e && a.many c x && b.many c y
  | _ => false
def forP (M : Md) (tg : Tg) (it : Tm) (b : So) (c : Cf) : Stmt → Bool
  | .For g e x [] _ => tgB M c.sc (fun _ => true) tg g && (ob M it).i c g e && notSet e && b.many c x
  | _ => false
def whlP (M : Md) (t : Tm) (b : So) (c : Cf) : Stmt → Bool
  | .While e x [] _ => (ob M t).t c e && b.many c x
  | _ => false
def raiP (M : Md) (nm : Str) (t : Tm) (c : Cf) : Stmt → Bool
  | .Raise (some (.Call (.Name x _) [e] [] _)) none _ => decide (x = nm) && (errFld nm).isSome && glB c.sc x && notStar e && (ob M t).e c e
  | _ => false
def passP : Stmt → Bool
  | .Pass _ => true
  | _ => false
def passesP : List Stmt → Bool
  | [] => true
  | [s] => passP s
  | _ => false
def so (M : Md) : Sm → So
  | .nop => ⟨fun _ s => passP s, fun _ l => passesP l⟩
  | .seq a b => ⟨fun _ _ => false, fun c l => match l with
      | s :: r => (so M a).one c s && (so M b).many c r
      | [] => false⟩
  | .set i e => single (setP M i e)
  | .own i e => single (setP M i e)
  | .unp tg e => single fun c s => unpP M tg e c s || parP M tg e c s
  | .exp e => single (expP M e)
  | .app i e => single (appP M i e)
  | .agi i k o e => single (agiP M i k o e)
  | .ext i e => single (extP M i e)
  | .rvs i => single (rvsP M i)
  | .sti i k e => single (stiP M i k e)
  | .aug i o e => single (augP M i o e)
  | .ret e => single (retP M e)
  | .retn => single fun _ s => match s with
      | .Return none _ => true
      | _ => false
  | .ite t a b => single (iteP M t (so M a) (so M b))
  | .forr tg it b => single (forP M tg it (so M b))
  | .whl t b => single (whlP M t (so M b))
  | .brk => single fun _ s => match s with
      | .Break _ => true
      | _ => false
  | .cnt => single fun _ s => match s with
      | .Continue _ => true
      | _ => false
  | .rais nm e => single (raiP M nm e)
section
variable {M : Md} {T : List (Addr × Str)} {cl : Nat → List Ar → Ret} {k : Nat}
/-- at a def's own level -/
structure Gs (M : Md) (T : List (Addr × Str)) (cl : Nat → List Ar → Ret) (k : Nat) (X : Cx) (W : WX) (c : Cf) : Prop where
  g : Gd M T cl k X W c
  top : c.top = true
  po : PassesOwn (model X.prog X.w) X.A X.env X.xe
  fn : ∀ x, X.fn x = true
structure Two (M : Md) (T : List (Addr × Str)) (cl : Nat → List Ar → Ret) (Z : Gh) (X : Cx) (W : WX) (c : Cf) (o : So) (f : Env → Fl) : Prop where
  one : ∀ s, o.one c s = true → PS X s (tS X T errFld Z f W)
  many : ∀ l, o.many c l = true → PSs X l (tS X T errFld Z f W)
abbrev StmtOk (M : Md) (T : List (Addr × Str)) (cl : Nat → List Ar → Ret) (k : Nat) (s : Sm) : Prop := ∀ (X : Cx) (W : WX) (c : Cf) (Z : Gh), Gs M T cl k X W c → Two M T cl Z X W c (so M s) (ex cl s)
theorem two_single {X : Cx} {W : WX} {c : Cf} {Z : Gh} {p : Cf → Stmt → Bool} {f : Env → Fl} (h : ∀ s, p c s = true → PS X s (tS X T errFld Z f W)) : Two M T cl Z X W c (single p) f :=
  ⟨h, fun l q => by
    have q : oneP (p c) l = true := q
    unfold oneP at q
    split at q
    · exact s_one (h _ q)
    · cases q⟩
theorem noComp_sw {e : Expr} {tg : Option Expr} {l : Nat} {env : PySem.Env} (h : noComp e = true) : swapsWith e tg l env = pure false := by
  cases e <;> first | rfl | cases h
theorem cell_sw {e : Expr} {x : Str} {py : Pos} {l : Nat} {env : PySem.Env} (h : env.scope.names.lookup x = some .cell) : swapsWith e (some (.Name x py)) l env = pure false := by
  have ky : env.kindOf x = some .cell := h
  cases e <;> first
    | rfl
    | (unfold swapsWith
       simp only [ky]
       cases env.blockKind <;> rfl)
theorem locB_is {X : Cx} {W : WX} {c : Cf} {i : Nat} {x : Str} (G : Gs M T cl k X W c) (h : locB M c.sc i x = true) : X.N[i]? = some x ∧ Loc X.env.scope x := by
  unfold locB at h
  obtain ⟨h1, h2⟩ := Bool.and_eq_true_iff.mp h
  refine ⟨by rw [G.g.hN]; exact of_decide_eq_true h1, ?_⟩
  rw [G.g.hsc]
  split at h2
  · exact .inl (by assumption)
  · exact .inr (by assumption)
  · cases h2
/-- name = e, whatever is made of the value -/
theorem set_ok {X : Cx} {W : WX} {c : Cf} {Z : Gh} {i : Nat} {e : Tm} {g : VT → Slot} (hg : ∀ (D : Ends) (σ : L2.St) (H : Hp), (∃ F ρ, Rel X.K T Z F H σ ρ ∧ FlFin X T errFld Z F D W (((ev cl e).v ρ).fl fun v ρ => nx? (set1 i (g v) ρ))) → tE X T errFld Z (ev cl e).v W σ H fun x H1 => D.nx (σ.set i (some x)) H1)
    (G : Gs M T cl k X W c) {s : Stmt} (h : setP M i e c s = true) : PS X s (tS X T errFld Z (fun ρ => ((ev cl e).v ρ).fl fun v ρ => nx? (set1 i (g v) ρ)) W) := by
  unfold setP at h
  split at h
  · rename_i x p v pos
    simp only [Bool.and_eq_true, Bool.or_eq_true] at h
    obtain ⟨⟨h1, h2⟩, h3⟩ := h
    obtain ⟨n1, n2⟩ := locB_is G h1
    have F := term_ok e X W c Z G.g
    rcases h2 with h2 | h2
    · have hsw : ∀ l, swapsWith v (some (.Name x p)) l X.env = pure false := fun l => by
        rcases h2 with h2 | h2
        · exact noComp_sw h2
        · exact cell_sw (by rw [G.g.hsc]; simpa using h2)
      exact PS.imp (L2.ps_set G.g.nd n1 n2 (F.e _ h3) (hsw _) (.inl (G.fn x))) fun D σ H q => hg D σ H q
    · -- a comprehension
      obtain ⟨h2, h4⟩ := h2
      cases v <;> first | cases h2 | skip
      rename_i elt gs scope cpos
      simp only [swB, Bool.and_eq_true, decide_eq_true_eq, Bool.not_eq_true'] at h2
      obtain ⟨⟨l1, l2⟩, l3⟩ := h2
      have hk : X.env.scope.kind = .function := by rw [G.g.hsc]; exact G.g.kind
      have hy : X.env.scope.names.lookup x = some .local := by rw [G.g.hsc]; exact l1
      cases e <;> first | cases h4 | skip
      rename_i own tgt it tc te
      have h3 : (match (Expr.ListComp elt gs scope cpos) with | .ListComp elt [g] scope _ => c.top && inB M c own tgt tc (ob M it) (ob M tc) (ob M te) elt g scope | _ => false) = true := h3
      cases gs with
      | nil => cases h3
      | cons g0 gr =>
        cases gr with
        | cons _ _ => cases h3
        | nil =>
          obtain ⟨ht, h3⟩ := Bool.and_eq_true_iff.mp h3
          obtain ⟨tg, iter, ifs, rfl, q1, q2, q3, q4, q5, q6, q7⟩ := in_parts h3
          obtain ⟨t1, t2, t3⟩ := G.g.top ht
          refine s_lcp (Z := Z) (T := T) (fld := errFld) (tgt := tgt) (g := gT X.K T Z tgt) (wi := tI X T errFld Z (ev cl it).i W) (tt := tT X T errFld Z (ev cl tc).t W) (te := fun _ => tE X T errFld Z (ev cl te).v W) t1 t2 t3 G.g.calm G.g.nd n1 hy (L2.sw_true hk hy l2 l3) ((term_ok it X W c Z G.g).i tg iter q1) (by rw [G.g.hN, G.g.hsc]; exact q2) q3
            (fun σ s H C cells fp xe hp => tg_ok (M := M) (G.g.blk q2.kind hp).hN (G.g.blk q2.kind hp).nd (G.g.blk q2.kind hp).calm (G.g.blk q2.kind hp).hsc (fun x hx => hx) q4)
            (fun σ s H C cells fp xe hp => ifs_ok (term_ok tc _ _ _ Z (G.g.blk q2.kind hp)) q5)
            (fun σ s H C cells fp xe hp => (term_ok te _ _ _ Z (G.g.blk q2.kind hp)).e elt q6) (notSet_is q7) fun D σ H q => ?_
          have r := hg D σ H q
          rw [own_ix]
          exact r
  · cases h
theorem ok_set {i : Nat} {e : Tm} : StmtOk M T cl k (.set i e) := fun X W c Z G => two_single fun s h => set_ok (g := fun v => .pl v.d) (fun D σ H q => set_sem q) G h
theorem ok_own {i : Nat} {e : Tm} : StmtOk M T cl k (.own i e) := fun X W c Z G => two_single fun s h => set_ok (g := fun v => v.slot) (fun D σ H q => own_sem q) G h
theorem sw_par {env : PySem.Env} {x y : Str} {a b : Expr} {px py pt : Pos} {kt k2 pt2} (hk : env.blockKind = .function) (hx : env.kindOf x = some .local) (hy : env.kindOf y = some .local) (hl : py.line = px.line) (hn : x ≠ y)
    (sa : notStar a = true) (sb : notStar b = true) (f : (foldedForSure 8 a && foldedForSure 8 b) = false) (g : (constantsAlone 8 a && constantsAlone 8 b) = false) :
    swappedStores [.Tuple [.Name x px, .Name y py] kt pt] (.Tuple [a, b] k2 pt2) env = pure (some [x, y]) := by
  have hn2 : ¬ y = x := fun h => hn h.symm
  have ed : ([x, y] : List Str).eraseDups = [x, y] := by
    have hb : (y == x) = false := by simp [hn2]
    simp [List.eraseDups, List.eraseDupsBy, List.eraseDupsBy.loop, hb]
  have f2 : ([a, b] : List Expr).all (foldedForSure 8) = false := by simpa using f
  have g2 : ([a, b] : List Expr).all (constantsAlone 8) = false := by simpa using g
  unfold swappedStores
  have st : ∀ (p : Expr → Bool), (∀ e, notStar e = true → p e = false) → ([a, b] : List Expr).any p = false := fun p hp => by simp [hp a sa, hp b sb]
  dsimp only
  rw [st]
  · simp [hk, hx, hy, hl, f2, g2, ed, Expr.pos]
  · intro e he
    cases e <;> first | rfl | cases he
theorem par_ok {X : Cx} {W : WX} {c : Cf} {Z : Gh} {tg : Tg} {e : Tm} (G : Gs M T cl k X W c) {s : Stmt} (h : parP M tg e c s = true) : PS X s (tS X T errFld Z (ex cl (.unp tg e)) W) := by
  unfold parP at h
  split at h
  · rename_i i j es x px y py kt pt a b k2 pt2 pos
    simp only [Bool.and_eq_true, decide_eq_true_eq, Bool.not_eq_true'] at h
    obtain ⟨hl, hf, hc, h1, h2, h3, h4, h5, h6, h7, h8, h9⟩ := h
    have hk : X.env.blockKind = .function := by unfold Env.blockKind; rw [G.g.hsc, G.g.kind]; rfl
    have hx : X.env.scope.names.lookup x = some .local := by rw [G.g.hsc]; exact h5
    have hy : X.env.scope.names.lookup y = some .local := by rw [G.g.hsc]; exact h6
    exact s_par G.g.calm G.g.nd (by rw [G.g.hN]; exact h3) (by rw [G.g.hN]; exact h4) h1 hx hy ((term_ok es X W c Z G.g).s _ h9) (sw_par hk hx hy hl h2 h7 h8 hf hc)
  · cases h
theorem ss_fold {g v : Expr} {env : PySem.Env} (h : tupFold v = true) : swappedStores [g] v env = pure none := by
  cases v <;> first | cases h | skip
  rename_i vs k p
  have h : vs.all (foldedForSure 8) = true := h
  unfold swappedStores
  cases g <;> dsimp only <;> (repeat' split) <;> first | rfl | simp_all
theorem ok_unp {tg : Tg} {e : Tm} : StmtOk M T cl k (.unp tg e) := fun X W c Z G => two_single fun s h => by
  rcases Bool.or_eq_true_iff.mp h with h' | h'
  rotate_left
  · exact par_ok G h'
  clear h
  have h := h'
  clear h'
  unfold unpP at h
  split at h
  · rename_i g v pos
    simp only [Bool.and_eq_true, Bool.or_eq_true, Bool.not_eq_true'] at h
    obtain ⟨⟨⟨h1, h2⟩, h3⟩, h4⟩ := h
    have sw : swapsWithSole [g] v pos.line X.env = pure false := by
      cases g <;> first | cases h1 | skip
      cases v <;> rfl
    have ss : swappedStores [g] v X.env = pure none := by
      rcases h2 with h2 | h2
      · cases g <;> first | cases h1 | skip
        cases v <;> first | rfl | cases h2
      · exact ss_fold h2
    have ae : (assignEach [g] X.env).map (·.2) = [assign g X.env] := by
      cases g <;> first | rfl | cases h1
    exact s_unp ((term_ok e X W c Z G.g).e _ h4) (tg_ok (M := M) G.g.hN G.g.nd G.g.calm G.g.hsc (fun x _ => G.fn x) h3) sw ss ae
  · cases h
theorem ok_exp {e : Tm} : StmtOk M T cl k (.exp e) := fun X W c Z G => two_single fun s h => by
  unfold expP at h
  split at h
  · obtain ⟨h1, h2⟩ := Bool.and_eq_true_iff.mp h
    exact s_exp ((term_ok e X W c Z G.g).e _ h2) (noComp_sw h1)
  · cases h
theorem plainName_of_slot {sc : Scope} {i : Nat} {o : Expr} (h : slotB M sc i o = true) : ∃ x p, o = .Name x p := by
  unfold slotB at h
  split at h
  · exact ⟨_, _, rfl⟩
  · cases h
theorem ok_app {i : Nat} {e : Tm} : StmtOk M T cl k (.app i e) := fun X W c Z G => two_single fun s h => by
  unfold appP at h
  split at h
  · simp only [Bool.and_eq_true, decide_eq_true_eq] at h
    obtain ⟨⟨⟨⟨rfl, h1⟩, h2⟩, h3⟩, h4⟩ := h
    have po := G.g.slot h1
    obtain ⟨x, p, rfl⟩ := plainName_of_slot h1
    refine s_app po ((term_ok e X W c Z G.g).e _ h4) rfl ?_ h3 (star_cons h2)
    rw [star_cons h2]
    rfl
  · cases h
theorem ok_ext {i : Nat} {e : Tm} : StmtOk M T cl k (.ext i e) := fun X W c Z G => two_single fun s h => by
  unfold extP at h
  split at h
  · simp only [Bool.and_eq_true, decide_eq_true_eq] at h
    obtain ⟨⟨⟨⟨rfl, h1⟩, h2⟩, h3⟩, h4⟩ := h
    have po := G.g.slot h1
    obtain ⟨x, p, rfl⟩ := plainName_of_slot h1
    refine s_ext po ((term_ok e X W c Z G.g).e _ h4) rfl ?_ h3 (star_cons h2)
    rw [star_cons h2]
    rfl
  · cases h
theorem ok_rvs {i : Nat} : StmtOk M T cl k (.rvs i) := fun X W c Z G => two_single fun s h => by
  unfold rvsP at h
  split at h
  · simp only [Bool.and_eq_true, decide_eq_true_eq] at h
    obtain ⟨⟨rfl, h1⟩, h3⟩ := h
    have po := G.g.slot h1
    obtain ⟨x, p, rfl⟩ := plainName_of_slot h1
    exact s_rvs po rfl h3
  · cases h
theorem ok_sti {i : Nat} {kt e : Tm} : StmtOk M T cl k (.sti i kt e) := fun X W c Z G => two_single fun s h => by
  unfold stiP at h
  split at h
  · rename_i o ke p v pos
    simp only [Bool.and_eq_true, Bool.not_eq_true'] at h
    obtain ⟨⟨⟨⟨h1, h2⟩, h3⟩, h4⟩, h5⟩ := h
    have po := G.g.slot h1
    obtain ⟨x, p, rfl⟩ := plainName_of_slot h1
    refine s_sti po ((term_ok e X W c Z G.g).e _ h5) ((term_ok kt X W c Z G.g).e _ h4) (fun v => ?_) (by cases v <;> rfl) (by cases v <;> first | rfl | cases h3) rfl
    cases ke <;> first | rfl | cases h2
  · cases h
theorem ok_agi {i : Nat} {kt : Tm} {o : Bo} {e : Tm} : StmtOk M T cl k (.agi i kt o e) := fun X W c Z G => two_single fun s h => by
  unfold agiP at h
  split at h
  · rename_i x ke p op v pos
    simp only [Bool.and_eq_true, decide_eq_true_eq] at h
    obtain ⟨⟨⟨⟨rfl, h1⟩, h2⟩, h3⟩, h4⟩ := h
    have po := G.g.slot h1
    obtain ⟨x, p, rfl⟩ := plainName_of_slot h1
    refine s_agi po ((term_ok e X W c Z G.g).e _ h4) ((term_ok kt X W c Z G.g).e _ h3) fun ov iv new => ?_
    cases ke <;> first | rfl | cases h2
  · cases h
theorem ok_aug {i : Nat} {o : Bo} {e : Tm} : StmtOk M T cl k (.aug i o e) := fun X W c Z G => two_single fun s h => by
  unfold augP at h
  split at h
  · rename_i x p op v pos
    simp only [Bool.and_eq_true, decide_eq_true_eq] at h
    obtain ⟨⟨rfl, h1⟩, h2⟩ := h
    obtain ⟨n1, n2⟩ := locB_is G h1
    exact s_aug G.g.nd n1 n2 ((term_ok e X W c Z G.g).e _ h2) (.inl (G.fn x))
  · cases h
theorem ok_ret {e : Tm} : StmtOk M T cl k (.ret e) := fun X W c Z G => two_single fun s h => by
  unfold retP at h
  split at h
  · exact s_ret ((term_ok e X W c Z G.g).e _ h)
  · cases h
theorem ok_rais {nm : Str} {e : Tm} : StmtOk M T cl k (.rais nm e) := fun X W c Z G => two_single fun s h => by
  unfold raiP at h
  split at h
  · simp only [Bool.and_eq_true, decide_eq_true_eq] at h
    obtain ⟨⟨⟨⟨hx, h1⟩, h2⟩, h3⟩, h4⟩ := h
    subst hx
    obtain ⟨C, fI, E⟩ := G.g.mod.er
    rename_i y _ _ _ _
    cases hf : errFld y with
    | none => rw [hf] at h1; cases h1
    | some fl =>
      obtain ⟨i, hi⟩ := List.getElem?_of_mem (PySem.mem_of_lookup hf)
      obtain ⟨_, _, tk⟩ := G.g.top G.top
      exact s_rais G.g.calm (E.one i y fl hi) hf G.g.room tk ((term_ok e X W c Z G.g).e _ h4) (G.g.gl h2) (star_cons h3)
  · cases h
theorem pass_ok {X : Cx} {W : WX} {Z : Gh} {s : Stmt} (h : passP s = true) : PS X s (tS X T errFld Z (fun ρ => .nx ρ) W) := by
  unfold passP at h
  split at h
  · exact s_pass
  · cases h
theorem stmt_ok : ∀ s : Sm, StmtOk M T cl k s
  | .nop => fun X W c Z G => ⟨fun s h => pass_ok h, fun l h => by
      have h : passesP l = true := h
      unfold passesP at h
      split at h
      · exact s_nil
      · exact s_one (pass_ok h)
      · cases h⟩
  | .seq a b => fun X W c Z G => ⟨fun s h => (by cases h), fun l h => by
      cases l with
      | nil => cases h
      | cons s r =>
        obtain ⟨h1, h2⟩ := Bool.and_eq_true_iff.mp (show ((so M a).one c s && (so M b).many c r) = true from h)
        exact s_cons ((stmt_ok a X W c Z G).one s h1) ((stmt_ok b X W c Z G).many r h2)⟩
  | .set i e => ok_set
  | .own i e => ok_own
  | .unp tg e => ok_unp
  | .exp e => ok_exp
  | .app i e => ok_app
  | .ext i e => ok_ext
  | .rvs i => ok_rvs
  | .sti i kt e => ok_sti
  | .aug i o e => ok_aug
  | .agi i kt o e => ok_agi
  | .ret e => ok_ret
  | .retn => fun X W c Z G => two_single fun s h => by
      split at h
      · exact s_retn
      · cases h
  | .ite t a b => fun X W c Z G => two_single fun s h => by
      unfold iteP at h
      split at h
      · simp only [Bool.and_eq_true] at h
        obtain ⟨⟨h1, h2⟩, h3⟩ := h
        exact s_if ((term_ok t X W c Z G.g).t _ h1) ((stmt_ok a X W c Z G).many _ h2) ((stmt_ok b X W c Z G).many _ h3)
      · cases h
  | .forr tg it b => fun X W c Z G => two_single fun s h => by
      unfold forP at h
      split at h
      · simp only [Bool.and_eq_true] at h
        obtain ⟨⟨⟨h1, h2⟩, h3⟩, h4⟩ := h
        exact s_for G.po G.g.calm ((term_ok it X W c Z G.g).i _ _ h2) (tg_ok (M := M) G.g.hN G.g.nd G.g.calm G.g.hsc (fun x _ => G.fn x) h1) ((stmt_ok b X W c Z G).many _ h4) (notSet_is h3)
      · cases h
  | .whl t b => fun X W c Z G => two_single fun s h => by
      unfold whlP at h
      split at h
      · obtain ⟨h1, h2⟩ := Bool.and_eq_true_iff.mp h
        exact s_whl G.po ((term_ok t X W c Z G.g).t _ h1) ((stmt_ok b X W c Z G).many _ h2)
      · cases h
  | .brk => fun X W c Z G => two_single fun s h => by
      split at h
      · exact s_brk
      · cases h
  | .cnt => fun X W c Z G => two_single fun s h => by
      split at h
      · exact s_cnt
      · cases h
  | .rais nm e => ok_rais
end
end Sw

end
section
set_option maxRecDepth 100000
set_option maxHeartbeats 4000000
namespace Sw
open PySem PySem.Spec PyProof.Rows
def plainPs (a : Arguments) (ps : List Str) : Bool := match a with
  | ⟨[], as, none, [], [], none, []⟩ => decide (as.map (·.arg) = ps)
  | _ => false
theorem zip_lookup : ∀ {ps : List Str} {us : List Value} {n : Str}, us.length = ps.length → n ∈ ps → ∃ u, (ps.zip us).lookup n = some u
  | [], _, _, _, h => by cases h
  | p :: ps, [], _, hl, _ => by simp at hl
  | p :: ps, u :: us, n, hl, h => by
    by_cases e : n = p
    · exact ⟨u, by simp [List.lookup, e]⟩
    · obtain ⟨w, q⟩ := zip_lookup (ps := ps) (us := us) (n := n) (by simpa using hl) ((List.mem_cons.mp h).resolve_left e)
      refine ⟨w, ?_⟩
      have : (n == p) = false := by simpa using e
      simp [List.lookup, this, q]
theorem zip_fm : ∀ {ps : List Str} {us : List Value} (pre : List (Str × Value)), us.length = ps.length → ps.Nodup → (∀ n ∈ ps, pre.lookup n = none) →
    ps.filterMap (fun n => ((pre ++ ps.zip us).lookup n).map fun v => (n, v)) = ps.zip us
  | [], us, _, hl, _, _ => by
    cases us with
    | nil => rfl
    | cons _ _ => simp at hl
  | p :: ps, [], _, hl, _, _ => by simp at hl
  | p :: ps, u :: us, pre, hl, nd, h => by
    have n1 : ∀ {l : List (Str × Value)} {r : List (Str × Value)} {x : Str}, l.lookup x = none → (l ++ r).lookup x = r.lookup x := by
      intro l r x q
      induction l with
      | nil => rfl
      | cons a l ih =>
        obtain ⟨a1, a2⟩ := a
        by_cases e : x = a1
        · subst e
          simp [List.lookup] at q
        · have e' : (x == a1) = false := by simpa using e
          simp only [List.lookup, e', List.cons_append] at q ⊢
          exact ih q
    obtain ⟨np, nd'⟩ := List.nodup_cons.mp nd
    have e1 : ((pre ++ (p, u) :: ps.zip us).lookup p) = some u := by
      rw [n1 (h p List.mem_cons_self)]
      simp [List.lookup]
    rw [List.zip_cons_cons, List.filterMap_cons, e1]
    simp only [Option.map_some]
    congr 1
    have e2 : pre ++ (p, u) :: ps.zip us = (pre ++ [(p, u)]) ++ ps.zip us := by simp
    rw [e2]
    refine zip_fm (pre ++ [(p, u)]) (by simpa using hl) nd' fun n hn => ?_
    have np' : n ≠ p := fun q => np (by rw [← q]; exact hn)
    rw [n1 (h n (List.mem_cons_of_mem _ hn))]
    have e' : (n == p) = false := by simpa using np'
    simp [List.lookup, e']
theorem bind_plain {fd : FuncData} {ps : List Str} {us : List Value} (h : plainPs fd.params ps = true) (hd : fd.defaults = .none) (nd : ps.Nodup) (hl : us.length = ps.length) : bindArgs fd ⟨us, []⟩ = pure (ps.zip us) := by
  obtain ⟨n1, n2, n3, n4, n5, n6, n7, n8, n9, n10, n11, n12, n13, n14, n15⟩ := fd
  simp only at h hd
  subst hd
  unfold plainPs at h
  split at h
  · rename_i as
    have h := of_decide_eq_true h
    subst h
    have m : ((as.map (·.arg)).filter fun n => (((as.map (·.arg)).zip us).lookup n).isNone) = [] := by
      rw [List.filter_eq_nil_iff]
      intro n hn
      obtain ⟨u, q⟩ := zip_lookup hl hn
      rw [q]
      simp
    have f := zip_fm (ps := as.map (·.arg)) (us := us) [] hl nd fun _ _ => rfl
    have lt : ¬ us.length > (as.map (·.arg)).length := by omega
    have sq : seqItems? Value.none = pure none := by rfl
    unfold bindArgs
    simp only [List.map_nil, List.nil_append, List.append_nil, sq, pure_bind, Option.getD_none, List.drop_nil, List.length_nil, Nat.sub_zero, List.take_length, m, List.isEmpty_nil, List.drop_length, List.zip_nil_left, List.zip_nil_right]
    simp only [List.nil_append] at f
    rw [List.filterMap_map] at f
    simp [hl, m]
    exact congrArg pure f
  · cases h
end Sw

end
section
set_option maxRecDepth 100000
set_option maxHeartbeats 4000000
namespace Sw
open PySem PySem.Spec PyProof.Rows
open L2 (V Hp HO upd upd_same upd_ne SqL SqT Rd VK XK WX Cx Inv RelV Vals PE PT PW PA PI PS PSs EP TP AP SP TE TT TA TS TI It Takes thn Gl Vis Loc Room OpR CallR TyX PG PGs TG TGs PTs Ends Sp FnOk frs)
open PySem.W (Frag)
theorem b2 {a b : Bool} (h : (a && b) = true) : a = true ∧ b = true := Bool.and_eq_true_iff.mp h
def bodyOk (M : Md) (df : Df) (la : Bool) (sc : Scope) (b : List Stmt) : Bool := C8.scC df.N df.ps sc && (so { M with N := df.N } df.body).many ⟨sc, true, la⟩ b
/-- a def under the module's name nm, its parts as ck wants them -/
def fnB (K : Frag) (nm : Str) (ck : Arguments → List Stmt → Scope → Bool) : Bool := He.Fa.ok K (.glo nm) && (PySem.W.keepIn K (.ref (He.ga K nm)) && (match K.lookup (He.ga K nm) with
  | some ⟨_, _, .func ⟨n1, n2, pa, .stmts b, sc, gl, [], .none, _, _, _, _, cdv, _, bl⟩, _⟩ => decide (n1 = nm) && (decide (n2 = nm) && (decide (gl = mainGlobals) && (decide (bl = builtinsNs) && (PySem.W.codeIn K cdv nm && ck pa b sc))))
  | _ => false))
structure FnK (K : Frag) (nm : Str) (ck : Arguments → List Stmt → Scope → Bool) (pa : Arguments) (b : List Stmt) (sc : Scope) (cdv : Value) (fd : FuncData) : Prop where
  lk : ∃ (oc : Value) (od : Option Addr) (osl : Array (Option Value)) (kV doc pm : Value) (an : Option Addr) (ct : Value), fd = PySem.W.fnOf nm nm pa b sc .none kV doc pm an cdv ct ∧ K.lookup (He.ga K nm) = some ⟨oc, od, .func fd, osl⟩
  cd : PySem.W.codeIn K cdv nm = true
  ck : ck pa b sc = true
  kp : PySem.W.keepIn K (.ref (He.ga K nm)) = true
  gl : He.Fa.ok K (.glo nm) = true
theorem fnB_ok {K : Frag} {nm : Str} {ck : Arguments → List Stmt → Scope → Bool} (h : fnB K nm ck = true) : ∃ pa b sc cdv fd, FnK K nm ck pa b sc cdv fd := by
  obtain ⟨h1, h2⟩ := b2 h
  obtain ⟨h2, h3⟩ := b2 h2
  split at h3
  · rename_i oc od n1 n2 pa b sc gl kV doc pm an cdv ct bl osl e
    simp only [Bool.and_eq_true, decide_eq_true_eq] at h3
    obtain ⟨q1, q2, q3, q4, q5, q6⟩ := h3
    subst q1 q3 q4
    subst q2
    exact ⟨pa, b, sc, cdv, _, ⟨oc, od, osl, kV, doc, pm, an, ct, rfl, e⟩, q5, q6, h2, h1⟩
  · cases h3
section
variable {P : Program} {w : World} {T : List (Addr × Str)} {K : Frag} {mg : Str → Option Value} {base : Heap} {M : Md} {df : Df} {la : Bool} {k : Nat} {cl : Nat → List Ar → Ret}
/-- a def of the text -/
def dfB (M : Md) (df : Df) (la : Bool) (pa : Arguments) (b : List Stmt) (sc : Scope) : Bool := plainPs pa df.ps && bodyOk M df la sc b
theorem FnK.binds {pa : Arguments} {b : List Stmt} {sc : Scope} {cdv : Value} {fd : FuncData} (F : FnK K df.nm (dfB M df la) pa b sc cdv fd) : L2.Binds K fd df.ps [] := by
  obtain ⟨oc, od, osl, kV, doc, pm, an, ct, rfl, lk⟩ := F.lk
  obtain ⟨h1, h2⟩ := b2 (show (plainPs pa df.ps && bodyOk M df la sc b) = true from F.ck)
  have S := C8.fnScope_by (b2 h2).1
  have ndp : df.ps.Nodup := by
    have := S.pre
    rw [← this]
    exact S.nd.sublist (List.take_sublist _ _)
  exact .all fun us hl => bind_plain h1 rfl ndp hl
theorem ModOk.md {N : List Str} (h : ModOk M T cl k P w K mg base) : ModOk { M with N := N } T cl k P w K mg base := ⟨h.fn, h.io, h.glb, h.bl, h.mt, h.er, h.told⟩
theorem def_ok (Mo : ModOk M T cl k P w K mg base) (hk : 2 ≤ k) {pa : Arguments} {b : List Stmt} {sc : Scope} {cdv : Value} {fd : FuncData} (F : FnK K df.nm (dfB M df la) pa b sc cdv fd)
    (hl : la = true → ∃ cc Pt, LamX.TabB base mg cc Pt ∧ cdv = .ref cc ∧ (Pt, df.nm ++ ".<locals>." ++ "<lambda>") ∈ T ∧ ∀ p ∈ T, p.1 = Pt → p.2 = df.nm ++ ".<locals>." ++ "<lambda>") :
    L2.Binds K fd df.ps [] ∧ FnOk P w K mg base (L2.CX P w) (k + 5) (He.ga K df.nm) fd df.ps (spRun K T mg errFld df.io df.ps.length (runDef df cl)) := by
  obtain ⟨oc, od, osl, kV, doc, pm, an, ct, rfl, lk⟩ := F.lk
  obtain ⟨h1, h2⟩ := b2 (show (plainPs pa df.ps && bodyOk M df la sc b) = true from F.ck)
  obtain ⟨h3, h4⟩ := b2 h2
  have S := C8.fnScope_by h3
  have ndp : df.ps.Nodup := by
    have := S.pre
    rw [← this]
    exact S.nd.sublist (List.take_sublist _ _)
  refine ⟨.all fun us hl => bind_plain h1 rfl ndp hl, ?_⟩
  refine L2.fn_of lk F.cd S (fun vs H Q E h => ?_) fun A outer s H vs Q E hr hsp => ?_
  · obtain ⟨F, as, hl, _⟩ := h
    exact hl
  · obtain ⟨F1, as, hl1, f1, f2, f3, ha, hd, h⟩ := hsp
    let X := L2.cxOf (L2.CX P w) P w K mg base df.N df.nm sc (He.ga K df.nm) cdv A outer s H E
    have tk : Takes X (fun c d _ H => E c d H) := L2.takes_of rfl rfl rfl rfl
    have G : Gd { M with N := df.N } T cl k X (fun c d _ H => E c d H) ⟨sc, true, la⟩ := {
      mod := Mo.md
      calm := rfl
      nd := S.nd
      hN := rfl
      hsc := rfl
      kind := S.kind
      room := Room.mono hr (by omega)
      pass := fun σ => L2.passAt tk σ
      top := fun _ => ⟨rfl, rfl, tk⟩
      lam := fun z => by
        obtain ⟨cc, Pt, q1, q2, q3, q4⟩ := hl z
        exact ⟨hr, cc, Pt, q1, q2, q3, q4⟩
      kp := hk }
    have B := ((stmt_ok df.body) X (fun c d _ H => E c d H) ⟨sc, true, la⟩ ⟨F1, H, ioAd vs as⟩ ⟨G, rfl, L2.passes_of rfl, fun _ => rfl⟩).many b h4
    refine ⟨_, B, F1, _, rel_start f1 f2 f3 ha hd, ?_⟩
    unfold runDef at h
    by_cases hc : as.length = df.ps.length ∧ df.io = ioPos 0 as
    · rw [if_pos hc] at h
      generalize ex cl df.body (as.map Ar.slot ++ List.replicate (df.N.length - as.length) .em) = fl at h ⊢
      cases fl with
      | nx ρ =>
        cases e : outs ρ df.io with
        | none => simp only [Fl.done, e] at h; exact h.elim
        | some o =>
          simp only [Fl.done, e] at h
          exact fun σ F' H' R up => h _ F' H' (end_of R e) .non
      | rt v ρ =>
        cases e : outs ρ df.io with
        | none => simp only [Fl.done, e] at h; exact h.elim
        | some o =>
          simp only [Fl.done, e] at h
          refine fun σ F' H' H₀ ρ₀ y R up rv => h y F' H' (end_of R e) ?_
          cases v with
          | pl d => exact rv
          | fr ds =>
            obtain ⟨a, us, q1, q2, q3, q4, q5, _⟩ := rv
            exact ⟨a, us, q1, q2, q3, q4, q5⟩
      | er y ρ =>
        cases e : outs ρ df.io with
        | none => simp only [Fl.done, e] at h; exact h.elim
        | some o =>
          simp only [Fl.done, e] at h
          exact fun c d σ F' H' R xv => h c d F' H' (end_of R e) xv
      | bk ρ => exact h.elim
      | ct ρ => exact h.elim
      | no => exact h.elim
    · rw [if_neg hc] at h
      exact h.elim
end
end Sw

end
section
set_option maxRecDepth 100000
set_option maxHeartbeats 4000000
namespace Sw
open PySem PySem.Spec PyProof.Rows
open L2 (V Hp HO upd upd_same upd_ne SqL SqT Rd VK XK WX Cx Inv RelV Vals PE PT PW PA PI PS PSs EP TP AP SP TE TT TA TS TI It Takes thn Gl Vis Loc Room OpR CallR TyX PG PGs TG TGs PTs Ends Sp FnOk frs)
open PySem.W (Frag)
def toldB (pa : Arguments) (b : List Stmt) (sc : Scope) : Bool := plainPs pa ["deed"] && (C8.scC ["deed", "why"] ["deed"] sc && (errs.all (fun p => decide (sc.names.lookup p.1 = some .globalImplicit)) && (decide (sc.names.lookup ("why" : Str) = some NameKind.local) && (decide (sc.names.lookup ("deed" : Str) = some NameKind.local) && okTold b))))
theorem told_ok {K : Frag} {mg : Str → Option Value} {base : Heap} (X : K.In base) (G : base.Ns mainGlobals mg) (h : fnB K "_law_told" toldB = true) : ToldOk K mg := by
  obtain ⟨pa, b, sc, cdv, fd, F⟩ := fnB_ok h
  obtain ⟨oc, od, osl, kV, doc, pm, an, ct, rfl, lk⟩ := F.lk
  obtain ⟨h1, h2⟩ := b2 (show (plainPs pa ["deed"] && _) = true from F.ck)
  obtain ⟨h2, h3⟩ := b2 h2
  obtain ⟨h3, h4⟩ := b2 h3
  obtain ⟨h4, h5⟩ := b2 h4
  obtain ⟨h5, h6⟩ := b2 h5
  exact ⟨_, pa, b, sc, _, kV, doc, pm, cdv, ct, oc, an, od, osl, He.glo_ok X G F.gl, F.kp, lk, F.cd, .all fun us hl => bind_plain h1 rfl (by decide) hl, C8.fnScope_by h2,
    fun p hp => of_decide_eq_true (List.all_eq_true.mp h3 p hp), of_decide_eq_true h4, of_decide_eq_true h5, h6⟩
def clsB (K : Frag) (C : Addr) : Bool := match K.lookup C with
  | some ⟨.type "type", _, .cls cd, sl⟩ => (match cd.mro, sl.toList with
    | .ref C' :: bm, [_, _, _, _, some (.builtin n), _] => decide (C' = C) && (decide (n = "Exception.__new__") && (!cd.hasDel && (cd.hasDict && toExB bm)))
    | _, _ => false)
  | _ => false
where toExB (l : List Value) : Bool := PySem.SwX.toEx l
def ini (fl : Str) (nm : Str) (pa : Arguments) (b : FuncBody) (sc : Scope) : Bool := match pa, b, sc with
  | ⟨[], [⟨a1, none, _⟩, ⟨a2, none, _⟩], none, [], [], none, []⟩, .stmts [.Assign [.Attribute (.Name x _) f _] (.Name y _) _], ⟨.function, [(s1, .local), (s2, .local)], false, false, []⟩ =>
    decide (nm = "__init__") && (decide (a1 = "self") && (decide (a2 = fl) && (decide (x = "self") && (decide (f = fl) && (decide (y = fl) && (decide (s1 = PySem.Str.ofString "self") && decide (s2 = fl)))))))
  | _, _, _ => false
def iniB (K : Frag) (fl : Str) (f : Addr) : Bool := match K.lookup f with
  | some ⟨_, _, .func ⟨n1, n2, pa, b, sc, gl, [], .none, .none, _, _, _, cdv, _, bl⟩, _⟩ => ini fl n1 pa b sc && (decide (gl = mainGlobals) && (decide (bl = builtinsNs) && PySem.W.codeIn K cdv n2))
  | _ => false
def oneB (K : Frag) (nm fl : Str) (C fI : Addr) : Bool := He.Fa.ok K (.glo nm) && (clsB K C && (He.eqO (PySem.W.findIn K (.ref C) "__setattr__") (some (some (.builtin "object.__setattr__"))) && (He.eqO (PySem.W.findIn K (.ref C) "__getattribute__") (some (some (.builtin "BaseException.__getattribute__"))) &&
  (He.eqO (PySem.W.findIn K (.ref C) "__getattr__") (some none) && (He.eqO (PySem.W.findIn K (.ref C) fl) (some none) && (He.eqO (PySem.W.findIn K (.ref C) "__init__") (some (some (.ref fI))) && (decide (PySem.W.typeIn K (.ref fI) = some (.type "function")) &&
  (PySem.W.keepIn K (.ref C) && (decide (PySem.W.subIn K (.ref C) (.type "BaseException") = some true) && (decide (PySem.W.typeIn K (.ref C) = some (.type "type")) && (PySem.W.hasDictIn K C && iniB K fl fI)))))))))))
theorem cls_is {K : Frag} {C : Addr} (h : clsB K C = true) : ∃ n2 q N bs bm sn sub ab col dd k0 k1 k2 k3 k5, K.lookup C = some (excClassObj n2 q C N bs bm true sn sub ab col dd k0 k1 k2 k3 k5 "Exception.__new__") ∧ PySem.SwX.toEx bm = true := by
  unfold clsB at h
  split at h
  · rename_i dd cd sl ho
    split at h
    · rename_i C' bm k0 k1 k2 k3 n k5 hm hs
      simp only [Bool.and_eq_true, decide_eq_true_eq, Bool.not_eq_true'] at h
      obtain ⟨rfl, rfl, h1, h2, h3⟩ := h
      obtain ⟨nm, bs, mro, ns, qn, hd, sn, sub, ab, col, del⟩ := cd
      dsimp only at hm h1 h2
      subst hm h1 h2
      have hsl : sl = #[k0, k1, k2, k3, some (.builtin "Exception.__new__"), k5] := by
        obtain ⟨l⟩ := sl
        simp only at hs
        rw [hs]
      subst hsl
      exact ⟨nm, qn, ns, bs, bm, sn, sub, ab, col, dd, k0, k1, k2, k3, k5, ho, h3⟩
    · cases h
  · cases h
theorem ini_is {K : Frag} {fl : Str} {f : Addr} (h : iniB K fl f = true) : ∃ (qn : Str) (oc : Value) (od : Option Addr) (doc pm : Value) (an : Option Addr) (cdv ct : Value) (osl : Array (Option Value)) (p1 p2 q1 q2 q3 q4 : Pos),
    K.lookup f = some ⟨oc, od, .func (PySem.W.fnOf "__init__" qn (PySem.SwX.iA fl p1 p2) (PySem.SwX.iB fl q1 q2 q3 q4) (PySem.SwX.iS fl) .none .none doc pm an cdv ct), osl⟩ ∧ PySem.W.codeIn K cdv qn = true := by
  unfold iniB at h
  split at h
  · rename_i oc od n1 n2 pa b sc gl doc pm an cdv ct bl osl e
    obtain ⟨h1, h2⟩ := b2 h
    simp only [Bool.and_eq_true, decide_eq_true_eq] at h2
    obtain ⟨rfl, rfl, h2⟩ := h2
    unfold ini at h1
    split at h1
    · rename_i a1 p1 a2 p2 x q1 f' q2 y q3 q4 s1 s2
      simp only [Bool.and_eq_true, decide_eq_true_eq] at h1
      obtain ⟨rfl, rfl, rfl, rfl, rfl, rfl, rfl, rfl⟩ := h1
      exact ⟨n2, oc, od, doc, pm, an, cdv, ct, osl, _, _, _, _, _, _, e, h2⟩
    · cases h1
  · cases h
def errB (K : Frag) : Bool := errs.all (fun p => oneB K p.1 p.2 (He.ga K p.1) (He.ma K (He.ga K p.1) "__init__")) &&
  (List.range 8).all fun i => (List.range 8).all fun j => decide (PySem.W.exmOne K (.ref (He.ga K (errs.getD i ("", "")).1)) (.ref (He.ga K (errs.getD j ("", "")).1)) = some (decide (i = j)))
theorem kn_is : ∀ p ∈ errs, (p.1 == ("__debug__" : Str)) = false ∧ (p.2 = "at" ∨ p.2 = "name" ∨ p.2 = "day" ∨ p.2 = "pence" ∨ p.2 = "number") := by decide +kernel
theorem err_ok {K : Frag} {mg : Str → Option Value} {base : Heap} (X : K.In base) (G : base.Ns mainGlobals mg) (h : errB K = true) : ∃ C fI, ErrsOk K mg C fI := by
  obtain ⟨h1, h2⟩ := b2 h
  refine ⟨fun i => He.ga K (errs.getD i ("", "")).1, fun i => He.ma K (He.ga K (errs.getD i ("", "")).1) "__init__", fun i nm fl e => ?_, fun i j hi hj => ?_⟩
  · have hm : (nm, fl) ∈ errs := List.mem_of_getElem? e
    have eg : errs.getD i ("", "") = (nm, fl) := by rw [List.getD_eq_getElem?_getD, e]; rfl
    rw [eg]
    have q := List.all_eq_true.mp h1 _ hm
    obtain ⟨a1, q⟩ := b2 q
    obtain ⟨a2, q⟩ := b2 q
    obtain ⟨a3, q⟩ := b2 q
    obtain ⟨a4, q⟩ := b2 q
    obtain ⟨a5, q⟩ := b2 q
    obtain ⟨a6, q⟩ := b2 q
    obtain ⟨a7, q⟩ := b2 q
    obtain ⟨a8, q⟩ := b2 q
    obtain ⟨a9, q⟩ := b2 q
    obtain ⟨a10, q⟩ := b2 q
    obtain ⟨a11, q⟩ := b2 q
    obtain ⟨a12, a13⟩ := b2 q
    obtain ⟨k1, k2⟩ := kn_is _ hm
    exact ⟨He.glo_ok X G a1, cls_is a2, He.eqO_ok a3, He.eqO_ok a4, He.eqO_ok a5, He.eqO_ok a6, He.eqO_ok a7, of_decide_eq_true a8, a9, of_decide_eq_true a10, of_decide_eq_true a11, a12, k1, k2, ini_is a13⟩
  · have q := List.all_eq_true.mp (List.all_eq_true.mp h2 i (List.mem_range.mpr hi)) j (List.mem_range.mpr hj)
    exact of_decide_eq_true q
mutual
def datB (K : Frag) : Value → D → Bool
  | .none, .none => true
  | .bool a, .bool b => decide (a = b)
  | .int a _, .int b => decide (a = b)
  | .str a _, .str b => decide (a = b)
  | .ref a, .tuple ds => (match K.lookup a with
    | some ⟨.type "tuple", _, .seq its _, _⟩ => decide (its.size ≤ 40000) && datsB K its.toList ds
    | _ => false)
  | .ref a, .list ds => (match K.lookup a with
    | some ⟨.type "list", none, .seq its _, _⟩ => decide (its.size ≤ 40000) && datsB K its.toList ds
    | _ => false)
  | _, _ => false
def datsB (K : Frag) : List Value → List D → Bool
  | [], [] => true
  | u :: us, d :: ds => datB K u d && datsB K us ds
  | _, _ => false
end
mutual
theorem dat_is {K : Frag} : ∀ (d : D) {u : Value}, datB K u d = true → ∃ v, RelV v u ∧ ∀ F, Rp K F v d
  | .none, u, h => by
    cases u <;> first | exact ⟨.non, rfl, fun _ => .non⟩ | simp [datB] at h
  | .bool b, u, h => by
    cases u <;> try (simp [datB] at h; done)
    rename_i a
    have : a = b := by simpa [datB] using h
    subst this
    exact ⟨.bl a, rfl, fun _ => .bl a⟩
  | .int b, u, h => by
    cases u <;> try (simp [datB] at h; done)
    rename_i a t
    have : a = b := by simpa [datB] using h
    subst this
    exact ⟨.int a, ⟨t, rfl⟩, fun _ => .int a⟩
  | .str b, u, h => by
    cases u <;> try (simp [datB] at h; done)
    rename_i a t
    have : a = b := by simpa [datB] using h
    subst this
    exact ⟨.str a, ⟨t, rfl⟩, fun _ => .str a⟩
  | .tuple ds, u, h => by
    cases u <;> try (simp [datB] at h; done)
    rename_i a
    unfold datB at h
    split at h
    · rename_i dd its n sl e
      obtain ⟨h1, h2⟩ := b2 h
      obtain ⟨vs, q1, q2⟩ := dats_is ds h2
      exact ⟨.ref a, rfl, fun F => .tup (.inr ⟨_, its, n, e, rfl, rfl, Nat.le_trans (of_decide_eq_true h1) (by rw [sizeLine_eq]; decide), q1⟩) (q2 F)⟩
    · cases h
  | .list ds, u, h => by
    cases u <;> try (simp [datB] at h; done)
    rename_i a
    unfold datB at h
    split at h
    · rename_i its n sl e
      obtain ⟨h1, h2⟩ := b2 h
      obtain ⟨vs, q1, q2⟩ := dats_is ds h2
      exact ⟨.ref a, rfl, fun F => .lst (.inr ⟨_, its, n, e, rfl, rfl, rfl, Nat.le_trans (of_decide_eq_true h1) (by rw [sizeLine_eq]; decide), q1⟩) (q2 F)⟩
    · cases h
  | .dict _, u, h => by
    cases u <;> simp [datB] at h
theorem dats_is {K : Frag} : ∀ (ds : List D) {us : List Value}, datsB K us ds = true → ∃ vs, Vals vs us ∧ ∀ F, Rps K F vs ds
  | [], us, h => by
    cases us with
    | nil => exact ⟨[], .nil, fun _ => .nil⟩
    | cons _ _ => simp [datsB] at h
  | d :: ds, us, h => by
    cases us with
    | nil => simp [datsB] at h
    | cons u us =>
      obtain ⟨h1, h2⟩ := b2 (show (datB K u d && datsB K us ds) = true by simpa [datsB] using h)
      obtain ⟨v, a1, a2⟩ := dat_is d h1
      obtain ⟨vs, b1, b2⟩ := dats_is ds h2
      exact ⟨v :: vs, .cons a1 b1, fun F => .cons (a2 F) (b2 F)⟩
end
def glbB (K : Frag) (x : Str) (d : D) : Bool := match PySem.W.nsIn K mainGlobals x with
  | some (some u) => datB K u d
  | _ => false
theorem glb_is {K : Frag} {mg : Str → Option Value} {base : Heap} {x : Str} {d : D} (X : K.In base) (G : base.Ns mainGlobals mg) (h : glbB K x d = true) : GlbOk K mg x d := by
  unfold glbB at h
  split at h
  · rename_i u e
    obtain ⟨v, q1, q2⟩ := dat_is d h
    exact ⟨v, u, PySem.W.mg_of X G e, q1, q2⟩
  · cases h
/-- the defs: their twins, and whether their text makes lambdas -/
def dfsB (K : Frag) (M : Md) : List (Df × Bool) → Bool
  | [] => true
  | (df, la) :: r => (decide (df.nm = "_law_told") || fnB K df.nm (dfB M df la)) && dfsB K M r
def modB (M : Md) (la : List Bool) (K : Frag) : Bool := decide (la.length = M.Γ.length) && (dfsB K M (M.Γ.zip la) && (fnB K "_law_told" toldB && (errB K && (M.gls.all (fun p => glbB K p.1 p.2) && (M.bls.all (fun x => He.Fa.ok K (.free x)) && M.mts.all (fun p => He.eqO (PySem.W.nsIn K mainGlobals p.1) (some (some (.builtin p.2)))))))))
/-- the defs that make lambdas -/
def tfs (M : Md) (la : List Bool) : List He.Defn := ((M.Γ.zip la).filter (·.2)).map fun p => (p.1.nm, none)
def tabsT (K : Frag) (tf : List He.Defn) : List (Addr × Str) := tf.map fun p => ((He.cT K p).2, p.1 ++ ".<locals>." ++ "<lambda>")
def apartB (K : Frag) (tf : List He.Defn) : Bool := decide (tf.map fun p => (He.cT K p).2).Nodup
theorem dfs_at {K : Frag} {M : Md} : ∀ {l : List (Df × Bool)} {i : Nat} {df : Df} {la : Bool}, dfsB K M l = true → l[i]? = some (df, la) → df.nm ≠ ("_law_told" : Str) → fnB K df.nm (dfB M df la) = true
  | [], _, _, _, _, e, _ => by simp at e
  | (df', la') :: r, 0, df, la, h, e, n => by
    simp at e
    obtain ⟨rfl, rfl⟩ := e
    obtain ⟨h1, _⟩ := b2 h
    rcases Bool.or_eq_true_iff.mp h1 with q | q
    · exact absurd (of_decide_eq_true q) n
    · exact q
  | (df', la') :: r, i + 1, df, la, h, e, n => dfs_at (l := r) (i := i) (b2 h).2 (by simpa using e) n
/-- how deep the stack is let grow -/
def lev : Nat → Nat
  | 0 => 2
  | n + 1 => lev n + 5
theorem lev_two : ∀ n, 2 ≤ lev n
  | 0 => Nat.le_refl _
  | n + 1 => Nat.le_trans (lev_two n) (Nat.le_add_right _ _)
theorem nodup_inj {α β : Type} {f : α → β} : ∀ {l : List α}, (l.map f).Nodup → ∀ {a b : α}, a ∈ l → b ∈ l → f a = f b → a = b
  | [], _, _, _, h, _, _ => by cases h
  | x :: l, nd, a, b, ha, hb, e => by
    obtain ⟨n1, n2⟩ := List.nodup_cons.mp (by simpa using nd : (f x :: l.map f).Nodup)
    rcases List.mem_cons.mp ha with p | p
    · rcases List.mem_cons.mp hb with q | q
      · rw [p, q]
      · exact absurd (List.mem_map.mpr ⟨b, q, by rw [← e, p]⟩) n1
    · rcases List.mem_cons.mp hb with q | q
      · exact absurd (List.mem_map.mpr ⟨a, p, by rw [e, q]⟩) n1
      · exact nodup_inj n2 p q e
section
variable {P : Program} {w : World} {K : Frag} {mg : Str → Option Value} {base : Heap} {M : Md} {la : List Bool}
theorem lam_of (X : K.In base) (hA : apartB K (tfs M la) = true) (hT : ∀ p ∈ (tfs M la).map (He.cT K), LamX.TabB base mg p.1 p.2) {i : Nat} {df : Df} (e : (M.Γ.zip la)[i]? = some (df, true)) {pa : Arguments} {b : List Stmt} {sc : Scope} {cdv : Value} {fd : FuncData} {ck : Arguments → List Stmt → Scope → Bool} (F : FnK K df.nm ck pa b sc cdv fd) :
    ∃ cc Pt, LamX.TabB base mg cc Pt ∧ cdv = .ref cc ∧ (Pt, df.nm ++ ".<locals>." ++ "<lambda>") ∈ tabsT K (tfs M la) ∧ ∀ p ∈ tabsT K (tfs M la), p.1 = Pt → p.2 = df.nm ++ ".<locals>." ++ "<lambda>" := by
  obtain ⟨oc, od, osl, kV, doc, pm, an, ct, rfl, lk⟩ := F.lk
  obtain ⟨c, rfl⟩ := He.codeIn_ref F.cd
  have hm : (df.nm, none) ∈ tfs M la := List.mem_map.mpr ⟨(df, true), List.mem_filter.mpr ⟨List.mem_of_getElem? e, rfl⟩, rfl⟩
  have ec : He.codeOf K (df.nm, none) = c := He.codeOf_eq (p := (df.nm, none)) lk rfl
  have t := hT _ (List.mem_map.mpr ⟨_, hm, rfl⟩)
  refine ⟨c, (He.cT K (df.nm, none)).2, ?_, rfl, List.mem_map.mpr ⟨_, hm, rfl⟩, fun p hp q => ?_⟩
  · have t2 : LamX.TabB base mg (He.codeOf K (df.nm, none)) (He.cT K (df.nm, none)).2 := t
    rw [ec] at t2
    exact t2
  · obtain ⟨p', hp', rfl⟩ := List.mem_map.mp hp
    have nd : (List.map (fun p => (He.cT K p).2) (tfs M la)).Nodup := of_decide_eq_true hA
    rw [nodup_inj nd hp' hm q]
theorem mod_ok (X : K.In base) (G : base.Ns mainGlobals mg) (h : modB M la K = true) (hA : apartB K (tfs M la) = true) (hT : ∀ p ∈ (tfs M la).map (He.cT K), LamX.TabB base mg p.1 p.2) :
    ∀ n, ModOk M (tabsT K (tfs M la)) (call M.Γ n) (lev n) P w K mg base := by
  obtain ⟨h1, h2⟩ := b2 h
  have h1 := of_decide_eq_true h1
  obtain ⟨h2, h3⟩ := b2 h2
  obtain ⟨h3, h4⟩ := b2 h3
  obtain ⟨h4, h5⟩ := b2 h4
  obtain ⟨h5, h6⟩ := b2 h5
  obtain ⟨h6, h7⟩ := b2 h6
  have at_ : ∀ {f : Nat} {df : Df}, M.Γ[f]? = some df → ∃ l, (M.Γ.zip la)[f]? = some (df, l) := fun {f df} e => by
    have lt := (List.getElem?_eq_some_iff.mp e).1
    exact ⟨la[f]'(by omega), by rw [List.getElem?_zip_eq_some]; exact ⟨e, List.getElem?_eq_getElem _⟩⟩
  intro n
  induction n with
  | zero =>
    refine ⟨?_, fun _ _ _ _ z => absurd rfl z, fun p hp => glb_is X G (List.all_eq_true.mp h5 p hp), fun x hx => He.free_ok X G (List.all_eq_true.mp h6 x hx), fun p hp => PySem.W.mg_of X G (He.eqO_ok (List.all_eq_true.mp h7 p hp)), err_ok X G h4, told_ok X G h3⟩
    intro f df e nt
    obtain ⟨l, e2⟩ := at_ e
    obtain ⟨pa, b, sc, cdv, fd, F⟩ := fnB_ok (dfs_at h2 e2 nt)
    have no : ∀ {vs : List V} {H : Hp} {Q : VK} {E : XK}, spRun K (tabsT K (tfs M la)) mg errFld df.io df.ps.length (call M.Γ 0 f) vs H Q E → False := fun z => by
      obtain ⟨_, _, _, _, _, _, _, _, z⟩ := z
      exact z
    exact ⟨_, fd, He.glo_ok X G F.gl, F.kp, F.binds, fun vs H Q E z => (no z).elim, fun A outer s H args us vs Q E _ _ _ _ z => (no z).elim⟩
  | succ n Mo =>
    have ec : ∀ {f : Nat} {df : Df}, M.Γ[f]? = some df → call M.Γ (n + 1) f = runDef df (call M.Γ n) := fun {f df} e => by
      funext as
      show (match M.Γ[f]? with | some df => runDef df (call M.Γ n) as | none => .no) = _
      rw [e]
    refine ⟨?_, ?_, Mo.glb, Mo.bl, Mo.mt, Mo.er, Mo.told⟩
    · intro f df e nt
      obtain ⟨l, e2⟩ := at_ e
      obtain ⟨pa, b, sc, cdv, fd, F⟩ := fnB_ok (dfs_at h2 e2 nt)
      obtain ⟨q1, q2⟩ := def_ok Mo (lev_two n) F fun z => by
        subst z
        exact lam_of X hA hT e2 F
      refine ⟨_, fd, He.glo_ok X G F.gl, F.kp, q1, ?_⟩
      rw [ec e]
      exact q2
    · intro f df e as z
      rw [ec e] at z
      unfold runDef at z
      by_cases c : as.length = df.ps.length ∧ df.io = ioPos 0 as
      · exact ⟨c.2, c.1⟩
      · rw [if_neg c] at z
        exact absurd rfl z
end
end Sw

end
section
set_option maxRecDepth 100000
set_option maxHeartbeats 4000000
namespace Sw
open PySem PySem.Spec PyProof.Rows
open L2 (V Hp HO upd upd_same upd_ne SqL SqT Rd VK XK WX Cx Inv RelV Vals PE PT PW PA PI PS PSs EP TP AP SP TE TT TA TS TI It Takes thn Gl Vis Loc Room OpR CallR TyX PG PGs TG TGs PTs Ends Sp FnOk frs)
open PySem.W (Frag)
/-- what the head is to tell -/
def wholeB (M : Md) (la : List Bool) (K : Frag) : Bool := modB M la K && apartB K (tfs M la)
abbrev hook (M : Md) (la : List Bool) : PySem.W.Hook := He.hookX 5 [] [] [] (tfs M la) (wholeB M la)
def seen (M : Md) (la : List Bool) (s : PySem.W.SharedT) : He.AlX := He.obsX 5 [] [] [] (tfs M la) (wholeB M la) (HandSHeadRun.getT s)
theorem seen_eq {M : Md} {la : List Bool} (s : PySem.W.SharedT) : seen M la s = (hook M la).obs s.abs := He.obsX_eq (HandSHeadRun.getT_eq s)
theorem rps_ints {K : Frag} {F : Hp} : ∀ ns : List Int, Rps K F (ns.map V.int) (ns.map PyData.int)
  | [] => .nil
  | i :: ns => .cons (.int i) (rps_ints ns)
/-- the law holds in the small language -/
def Keeps (M : Md) (n L : Nat) : Prop := ∀ ns : List Int, ns.length ≤ 63 → (∀ z ∈ ns, Builtin.Int.intBits z ≤ 1048576) → call M.Γ n L [.pl (.list (ns.map .int))] = .ok (.pl (.bool true)) []
theorem law_at {l : PySem.W.OpenLaw} {w : World} {K : Frag} {mg : Str → Option Value} {fa : Addr} {h : Heap} {M : Md} {la : List Bool} {n L : Nat} {df : Df} {x : Str} (X : K.In h) (G : h.Ns mainGlobals mg) (e : M.Γ[L]? = some df) (hfa : mg df.nm = some (.ref fa)) (nt : df.nm ≠ ("_law_told" : Str)) (hps : df.ps = [x]) (hio : df.io = [])
    (S : He.SaysX [] [] [] (tfs M la) (wholeB M la) w h K) (V : Keeps M n L) : LamX.LawAtS l w K (L2.CX l.prog w) (lev n) 63 x mg fa h := by
  obtain ⟨h1, h2⟩ := b2 S.more
  obtain ⟨z1, z2⟩ := b2 h1
  have at_ : ∃ l, (M.Γ.zip la)[L]? = some (df, l) := by
    have z1 := of_decide_eq_true z1
    have lt := (List.getElem?_eq_some_iff.mp e).1
    exact ⟨la[L]'(by omega), by rw [List.getElem?_zip_eq_some]; exact ⟨e, List.getElem?_eq_getElem _⟩⟩
  obtain ⟨l1, e2⟩ := at_
  obtain ⟨pa, b, sc, cdv, fd, F⟩ := fnB_ok (dfs_at (b2 z2).1 e2 nt)
  have ha : fa = He.ga K df.nm := by
    have := He.glo_ok X G F.gl
    rw [hfa] at this
    cases this
    rfl
  have hb := F.binds
  have S2 := F.lk
  obtain ⟨oc, od, osl, kV, doc, pm, an, ct, efd, lk⟩ := F.lk
  refine ⟨fd, (tfs M la).map (He.cT K), spRun K (tabsT K (tfs M la)) mg errFld [] 1 (call M.Γ n L), fun p hp => ?_, fun p hp => ?_, fun p hp => ?_, fun s u => ?_, fun H a ns hl hbits hH hS => ?_, fun base KB GB TB => ?_⟩
  · obtain ⟨q, hq, rfl⟩ := List.mem_map.mp hp
    exact S.empty q hq
  · obtain ⟨q, hq, rfl⟩ := List.mem_map.mp hp
    exact S.out q hq
  · obtain ⟨q, hq, rfl⟩ := List.mem_map.mp hp
    exact PySem.W.codeHd_of_K X (S.hd q hq)
  · obtain ⟨q1, q2⟩ := b2 (show (plainPs pa df.ps && bodyOk M df l1 sc b) = true from F.ck)
    subst efd
    rw [hps] at q1
    exact .of_eq (bind_plain q1 rfl (List.nodup_cons.mpr ⟨by simp, List.nodup_nil⟩) rfl)
  · refine ⟨fun b => if b = a then (match H a with | some (.tbl _) => none | o => o) else none, [.pl (.list (ns.map .int))], rfl, fun b o q => ?_, fun b ps q => ?_, fun p hp => ?_, .pl ?_ .nil, fun i j b q1 q2 => ?_, ?_⟩
    · by_cases c : b = a
      · subst c
        simp only [if_true] at q
        split at q
        · cases q
        · exact q
      · simp only [if_neg c] at q; cases q
    · by_cases c : b = a
      · subst c
        simp only [if_true] at q
        split at q
        · cases q
        · rename_i h; exact h _ q
      · simp only [if_neg c] at q; cases q
    · obtain ⟨t, ht, rfl⟩ := List.mem_map.mp hp
      have := hH _ (List.mem_map.mpr ⟨t, ht, rfl⟩)
      exact ⟨#[], this, by constructor, fun pos cv z => by cases z⟩
    · refine .lst ?_ (rps_ints ns)
      rcases hS with (r | ⟨o, r⟩) | r
      · exact .inl (.inl (by simp only [if_true]; rw [r]))
      · exact .inl (.inr ⟨o, by simp only [if_true]; rw [r]⟩)
      · exact .inr r
    · obtain ⟨q3, ds, q4⟩ := ioAd_some q1
      cases i with
      | zero => simp at q4
      | succ i => simp at q4
    · rw [V ns hl hbits]
      intro v F' H' E rv
      cases rv
      rfl
  · cases n with
    | zero => exact absurd (V [] (Nat.zero_le _) (fun _ z => by cases z)) (by intro z; cases z)
    | succ n =>
      have Mo := mod_ok (P := l.prog) (w := w) KB GB h1 h2 TB n
      obtain ⟨_, q2⟩ := def_ok Mo (lev_two n) F fun z => by
        subst z
        exact lam_of KB h2 TB e2 F
      have ec : call M.Γ (n + 1) L = runDef df (call M.Γ n) := by
        funext as
        show (match M.Γ[L]? with | some df => runDef df (call M.Γ n) as | none => .no) = _
        rw [e]
      rw [hio, hps] at q2
      rw [ec, ha]
      exact q2
theorem law_walk {l : PySem.W.OpenLaw} {q : Program} {loose : List Str} {XP : (Str → Option Value) → Heap → Prop} {d : DefRec} {M : Md} {la : List Bool} {n L : Nat} {df : Df} {x : Str} (hn : l.most = some 63) (hdf : d.params.defaults = []) (hr : Room (lev n) callerA)
    (e : M.Γ[L]? = some df) (hd : d.name = df.nm) (nt : df.nm ≠ ("_law_told" : Str)) (hps : df.ps = [x]) (hio : df.io = []) (V : Keeps M n L) :
    PySem.W.WalkO q loose XP (hook M la).says l.row.toRowW d [] (fun f vs => PySem.call f vs) :=
  LamX.walk_ofTsE (CX := fun w => L2.CX l.prog w) (x := x) (k := lev n) hn (by rw [sizeLine_eq]; decide) hdf hr (fun w mg fa h Y G hmg => by
    obtain ⟨K, KX, S⟩ := Y
    rw [hd] at hmg
    exact ⟨K, KX, law_at KX G e hmg nt hps hio S V⟩) fun w H s e s' z => by
      obtain ⟨_, _, _, _, _, _, _, _, _, _, _, _, z⟩ := z
      exact z
end Sw

end
section
set_option maxRecDepth 100000
set_option maxHeartbeats 0
namespace SWEEPWRIGHT_K07_WHOLE_CALLS
open Sw PySem
def l_leaves : Df := ⟨"leaves", ["ways", "calls", "here", "minute", "house"], [], ["ways", "calls", "here", "minute", "house", "begins", "first", "last", "minutes"],
   (.seq (.unp (.tp (.cs (.nm 6) (.cs (.nm 7) (.cs (.nm 8) .nl)))) (.idx (.var 1) (.var 4)))
   (.seq (.set 5 (.blt .max (.cs (.var 6) (.cs (.bin .add (.var 3) (.idx (.idx (.var 0) (.var 2)) (.var 4))) .nl))))
   (.seq (.ite (.cmp .gt (.var 5) (.var 7))
   (.ret (.cst .none))
   .nop)
   (.ret (.bin .add (.var 5) (.var 8))))))⟩
def l_back_at : Df := ⟨"back_at", ["ways", "calls", "here", "minute"], [], ["ways", "calls", "here", "minute", "back"],
   (.seq (.set 4 (.bin .add (.var 3) (.idx (.idx (.var 0) (.var 2)) (.cst (.int 0)))))
   (.seq (.ite (.cmp .gt (.var 4) (.idx (.idx (.var 1) (.cst (.int 0))) (.cst (.int 1))))
   (.ret (.cst .none))
   .nop)
   (.ret (.var 4))))⟩
def l_rounds_in_time : Df := ⟨"rounds_in_time", ["ways", "calls"], [], ["ways", "calls", "found", "waiting", "back", "house", "order", "here", "minute", "gone"],
   (.seq (.own 2 (.lst .nl))
   (.seq (.own 3 (.lst (.cs (.tup (.cs (.tup .nl) (.cs (.cst (.int 0)) (.cs (.idx (.idx (.var 1) (.cst (.int 0))) (.cst (.int 0))) .nl)))) .nl)))
   (.seq (.whl (.bor 3)
   (.seq (.unp (.tp (.cs (.nm 6) (.cs (.nm 7) (.cs (.nm 8) .nl)))) (.pop 3))
   (.seq (.set 4 (.cal 1 (.cs (.var 0) (.cs (.var 1) (.cs (.var 7) (.cs (.var 8) .nl))))))
   (.seq (.ite (.cmp .notn (.var 4) (.cst .none))
   (.app 2 (.tup (.cs (.var 4) (.cs (.var 6) .nl))))
   .nop)
   (.forr (.nm 5) (.rng (.cs (.cst (.int 1)) (.cs (.blt .len (.cs (.var 0) .nl)) .nl)))
   (.ite (.cmp .nin (.var 5) (.var 6))
   (.seq (.set 9 (.cal 0 (.cs (.var 0) (.cs (.var 1) (.cs (.var 7) (.cs (.var 8) (.cs (.var 5) .nl)))))))
   (.ite (.cmp .notn (.var 9) (.cst .none))
   (.app 3 (.tup (.cs (.bin .add (.var 6) (.tup (.cs (.var 5) .nl))) (.cs (.var 5) (.cs (.var 9) .nl)))))
   .nop))
   .nop))))))
   (.ret (.mov 2)))))⟩
def l_first_back : Df := ⟨"first_back", ["rounds", "many"], [], ["rounds", "many", "fitting", "found"],
   (.seq (.set 2 (.lcp [3] (.nm 3) (.var 0) (.cmp .eq (.blt .len (.cs (.idx (.var 3) (.cst (.int 1))) .nl)) (.var 1)) (.var 3)))
   (.ret (.mnd (.var 2))))⟩
def l_need : Df := ⟨"need", ["holds", "at"], [], ["holds", "at"],
   (.ite (.not (.var 0))
   (.rais "BadValue" (.var 1))
   .nop)⟩
def l_is_whole : Df := ⟨"is_whole", ["value", "low", "high"], [], ["value", "low", "high"],
   (.seq (.ite (.or (.blt (.isi .bool) (.cs (.var 0) .nl)) (.not (.blt (.isi .int) (.cs (.var 0) .nl))))
   (.ret (.cst (.bool false)))
   .nop)
   (.seq (.ite (.and (.cmp .notn (.var 1) (.cst .none)) (.cmp .lt (.var 0) (.var 1)))
   (.ret (.cst (.bool false)))
   .nop)
   (.ret (.or (.cmp .isn (.var 2) (.cst .none)) (.cmp .le (.var 0) (.var 2))))))⟩
def l_need_whole : Df := ⟨"need_whole", ["value", "low", "high", "at"], [], ["value", "low", "high", "at"],
   (.seq (.ite (.not (.cal 5 (.cs (.var 0) (.cs (.var 1) (.cs (.var 2) .nl)))))
   (.rais "BadValue" (.var 3))
   .nop)
   (.ret (.var 0)))⟩
def l_is_row : Df := ⟨"is_row", ["value", "least", "most"], [], ["value", "least", "most"],
   (.seq (.ite (.not (.blt (.isis [.list, .tuple]) (.cs (.var 0) .nl)))
   (.ret (.cst (.bool false)))
   .nop)
   (.ret (.and (.cmp .ge (.blt .len (.cs (.var 0) .nl)) (.var 1)) (.or (.cmp .isn (.var 2) (.cst .none)) (.cmp .le (.blt .len (.cs (.var 0) .nl)) (.var 2))))))⟩
def l_need_row : Df := ⟨"need_row", ["value", "least", "most", "at"], [], ["value", "least", "most", "at"],
   (.seq (.ite (.not (.cal 7 (.cs (.var 0) (.cs (.var 1) (.cs (.var 2) .nl)))))
   (.rais "BadValue" (.var 3))
   .nop)
   (.ret (.blt .tuple (.cs (.var 0) .nl))))⟩
def l_need_wholes : Df := ⟨"need_wholes", ["value", "least", "most", "low", "high", "at"], [], ["value", "least", "most", "low", "high", "at", "row", "thing"],
   (.seq (.set 6 (.cal 8 (.cs (.var 0) (.cs (.var 1) (.cs (.var 2) (.cs (.var 5) .nl))))))
   (.seq (.forr (.nm 7) (.var 6)
   (.exp (.cal 6 (.cs (.var 7) (.cs (.var 3) (.cs (.var 4) (.cs (.var 5) .nl)))))))
   (.ret (.var 6))))⟩
def l_is_tuple_of : Df := ⟨"is_tuple_of", ["value", "bounds"], [], ["value", "bounds", "thing", "low", "high"],
   (.seq (.ite (.not (.cal 7 (.cs (.var 0) (.cs (.blt .len (.cs (.var 1) .nl)) (.cs (.blt .len (.cs (.var 1) .nl)) .nl)))))
   (.ret (.cst (.bool false)))
   .nop)
   (.ret (.blt .all (.cs (.lcp [2, 3, 4] (.tp (.cs (.nm 2) (.cs (.tp (.cs (.nm 3) (.cs (.nm 4) .nl))) .nl))) (.zip (.var 0) (.var 1)) .nl (.cal 5 (.cs (.var 2) (.cs (.var 3) (.cs (.var 4) .nl))))) .nl))))⟩
def l_need_tuples : Df := ⟨"need_tuples", ["value", "least", "most", "bounds", "at"], [], ["value", "least", "most", "bounds", "at", "rows", "row"],
   (.seq (.set 5 (.cal 8 (.cs (.var 0) (.cs (.var 1) (.cs (.var 2) (.cs (.var 4) .nl))))))
   (.seq (.forr (.nm 6) (.var 5)
   (.ite (.not (.cal 10 (.cs (.var 6) (.cs (.var 3) .nl))))
   (.rais "BadValue" (.var 4))
   .nop))
   (.ret (.blt .tuple (.cs (.lcp [6] (.nm 6) (.var 5) .nl (.blt .tuple (.cs (.var 6) .nl))) .nl)))))⟩
def l_need_ways : Df := ⟨"need_ways", ["ways", "at"], [], ["ways", "at", "rows", "many", "table", "house", "row"],
   (.seq (.set 2 (.cal 8 (.cs (.var 0) (.cs (.cst (.int 1)) (.cs (.glb "HOUSES" (.int 6)) (.cs (.var 1) .nl))))))
   (.seq (.set 3 (.blt .len (.cs (.var 2) .nl)))
   (.seq (.set 4 (.lcp [6] (.nm 6) (.var 2) .nl (.cal 9 (.cs (.var 6) (.cs (.var 3) (.cs (.var 3) (.cs (.cst (.int 0)) (.cs (.glb "FARTHEST" (.int 200)) (.cs (.var 1) .nl)))))))))
   (.seq (.forr (.nm 5) (.rng (.cs (.var 3) .nl))
   (.exp (.cal 4 (.cs (.cmp .eq (.idx (.idx (.var 4) (.var 5)) (.var 5)) (.cst (.int 0))) (.cs (.var 1) .nl)))))
   (.ret (.blt .tuple (.cs (.var 4) .nl)))))))⟩
def l_need_calls : Df := ⟨"need_calls", ["calls", "at"], [], ["calls", "at", "rows", "first", "last", "_"],
   (.seq (.set 2 (.cal 11 (.cs (.var 0) (.cs (.cst (.int 0)) (.cs (.cst .none) (.cs (.glb "CALL" (.tuple [(.tuple [(.int 0), (.int 1000)]), (.tuple [(.int 0), (.int 1000)]), (.tuple [(.int 0), (.int 200)])])) (.cs (.var 1) .nl)))))))
   (.seq (.forr (.tp (.cs (.nm 3) (.cs (.nm 4) (.cs (.nm 5) .nl)))) (.var 2)
   (.exp (.cal 4 (.cs (.cmp .le (.var 3) (.var 4)) (.cs (.var 1) .nl)))))
   (.ret (.var 2))))⟩
def l_need_both : Df := ⟨"need_both", ["ways", "calls"], [], ["ways", "calls", "table", "rows"],
   (.seq (.set 2 (.cal 12 (.cs (.var 0) (.cs (.cst (.int 0)) .nl))))
   (.seq (.set 3 (.cal 13 (.cs (.var 1) (.cs (.cst (.int 1)) .nl))))
   (.seq (.exp (.cal 4 (.cs (.cmp .eq (.blt .len (.cs (.var 3) .nl)) (.blt .len (.cs (.var 2) .nl))) (.cs (.cst (.int 1)) .nl))))
   (.ret (.tup (.cs (.var 2) (.cs (.var 3) .nl)))))))⟩
def l_round_of : Df := ⟨"round_of", ["ways", "calls"], [], ["ways", "calls", "table", "rows"],
   (.seq (.unp (.tp (.cs (.nm 2) (.cs (.nm 3) .nl))) (.cal 14 (.cs (.var 0) (.cs (.var 1) .nl))))
   (.ret (.cal 3 (.cs (.cal 2 (.cs (.var 2) (.cs (.var 3) .nl))) (.cs (.bin .sub (.blt .len (.cs (.var 2) .nl)) (.cst (.int 1))) .nl)))))⟩
def l_most_calls : Df := ⟨"most_calls", ["ways", "calls"], [], ["ways", "calls", "rounds", "many", "table", "rows", "_", "order"],
   (.seq (.unp (.tp (.cs (.nm 4) (.cs (.nm 5) .nl))) (.cal 14 (.cs (.var 0) (.cs (.var 1) .nl))))
   (.seq (.set 2 (.cal 2 (.cs (.var 4) (.cs (.var 5) .nl))))
   (.seq (.set 3 (.blt .max (.cs (.lcp [6, 7] (.tp (.cs (.nm 6) (.cs (.nm 7) .nl))) (.var 2) .nl (.blt .len (.cs (.var 7) .nl))) .nl)))
   (.seq (.unp (.tp (.cs (.nm 6) (.cs (.nm 7) .nl))) (.cal 3 (.cs (.var 2) (.cs (.var 3) .nl))))
   (.ret (.tup (.cs (.var 3) (.cs (.var 7) .nl))))))))⟩
def l__law_so : Df := ⟨"_law_so", ["found", "meant"], [], ["found", "meant", "k"],
   (.seq (.ite (.cmp .isn (.var 1) (.cst .none))
   (.ret (.cmp .isn (.var 0) (.cst .none)))
   .nop)
   (.seq (.ite (.blt (.isi .tuple) (.cs (.var 1) .nl))
   (.seq (.ite (.or (.not (.blt (.isi .tuple) (.cs (.var 0) .nl))) (.cmp .ne (.blt .len (.cs (.var 0) .nl)) (.blt .len (.cs (.var 1) .nl))))
   (.ret (.cst (.bool false)))
   .nop)
   (.seq (.forr (.nm 2) (.rng (.cs (.blt .len (.cs (.var 1) .nl)) .nl))
   (.ite (.not (.cal 17 (.cs (.idx (.var 0) (.var 2)) (.cs (.idx (.var 1) (.var 2)) .nl))))
   (.ret (.cst (.bool false)))
   .nop))
   (.ret (.cst (.bool true)))))
   .nop)
   (.seq (.ite (.or (.blt (.isi .bool) (.cs (.var 1) .nl)) (.blt (.isi .bool) (.cs (.var 0) .nl)))
   (.ret (.and (.blt (.isi .bool) (.cs (.var 1) .nl)) (.and (.blt (.isi .bool) (.cs (.var 0) .nl)) (.cmp .eq (.var 0) (.var 1)))))
   .nop)
   (.seq (.ite (.blt (.isi .int) (.cs (.var 1) .nl))
   (.ret (.and (.blt (.isi .int) (.cs (.var 0) .nl)) (.cmp .eq (.var 0) (.var 1))))
   .nop)
   (.ret (.and (.blt (.isi .str) (.cs (.var 1) .nl)) (.and (.blt (.isi .str) (.cs (.var 0) .nl)) (.cmp .eq (.var 0) (.var 1)))))))))⟩
def l__law_numbers : Df := ⟨"_law_numbers", ["script"], [], ["script", "row", "single", "left", "k", "stirred"],
   (.seq (.own 1 (.lst .nl))
   (.seq (.forr (.nm 2) (.sli (.var 0) .nl (.cst (.int 63)))
   (.ite (.cmp .ge (.var 2) (.bin .pow (.cst (.int 10)) (.cst (.int 18))))
   (.seq (.set 3 (.var 2))
   (.forr (.nm 4) (.rng (.cs (.cst (.int 60)) .nl))
   (.seq (.ite (.cmp .eq (.var 3) (.cst (.int 0)))
   .brk
   .nop)
   (.seq (.app 1 (.bin .mod (.blt .int (.cs (.var 3) .nl)) (.cst (.int 997))))
   (.set 3 (.bin .fdiv (.var 3) (.cst (.int 997))))))))
   (.forr (.nm 4) (.rng (.cs (.cst (.int 4)) .nl))
   (.seq (.set 5 (.bin .mod (.blt .int (.cs (.bin .add (.bin .add (.bin .mul (.var 2) (.cst (.int 48271))) (.bin .mul (.var 4) (.cst (.int 69621)))) (.cst (.int 11))) .nl)) (.cst (.int 2147483647))))
   (.app 1 (.bin .mod (.blt .int (.cs (.bin .add (.bin .mul (.var 5) (.cst (.int 16807))) (.var 4)) .nl)) (.cst (.int 2147483629))))))))
   (.seq (.ite (.cmp .eq (.blt .len (.cs (.bor 1) .nl)) (.cst (.int 0)))
   (.app 1 (.cst (.int 0)))
   .nop)
   (.ret (.mov 1)))))⟩
def l__law_draw : Df := ⟨"_law_draw", ["row", "at", "limit"], [], ["row", "at", "limit", "stirred"],
   (.seq (.ite (.cmp .lt (.var 1) (.blt .len (.cs (.var 0) .nl)))
   (.ret (.bin .mod (.blt .int (.cs (.idx (.var 0) (.var 1)) .nl)) (.var 2)))
   .nop)
   (.seq (.set 3 (.bin .mod (.blt .int (.cs (.bin .add (.bin .add (.bin .mul (.idx (.var 0) (.bin .mod (.blt .int (.cs (.var 1) .nl)) (.blt .len (.cs (.var 0) .nl)))) (.cst (.int 40692))) (.bin .mul (.var 1) (.cst (.int 7919)))) (.cst (.int 3))) .nl)) (.cst (.int 2147483399))))
   (.ret (.bin .mod (.blt .int (.cs (.bin .mod (.blt .int (.cs (.bin .add (.bin .mul (.var 3) (.cst (.int 48271))) (.var 1)) .nl)) (.cst (.int 2147483647))) .nl)) (.var 2)))))⟩
def l__law_take : Df := ⟨"_law_take", ["row", "spot", "limit"], [1], ["row", "spot", "limit"],
   (.seq (.sti 1 (.cst (.int 0)) (.bin .add (.idx (.bor 1) (.cst (.int 0))) (.cst (.int 1))))
   (.ret (.cal 19 (.cs (.var 0) (.cs (.bin .sub (.idx (.bor 1) (.cst (.int 0))) (.cst (.int 1))) (.cs (.var 2) .nl))))))⟩
def l__law_listed : Df := ⟨"_law_listed", ["value"], [], ["value", "one"],
   (.seq (.ite (.blt (.isi .tuple) (.cs (.var 0) .nl))
   (.ret (.lcp [1] (.nm 1) (.var 0) .nl (.cal 21 (.cs (.var 1) .nl))))
   .nop)
   (.ret (.var 0)))⟩
def l__law_handed : Df := ⟨"_law_handed", ["row", "spot", "value"], [1], ["row", "spot", "value"],
   (.ret (.ite (.cmp .eq (.cal 20 (.cs (.var 0) (.io 1 (.cs (.cst (.int 2)) .nl)))) (.cst (.int 0))) (.cal 21 (.cs (.var 2) .nl)) (.var 2)))⟩
def l__law_pick : Df := ⟨"_law_pick", ["row", "spot", "things"], [1], ["row", "spot", "things"],
   (.ret (.idx (.var 2) (.cal 20 (.cs (.var 0) (.io 1 (.cs (.blt .len (.cs (.var 2) .nl)) .nl))))))⟩
def l__law_sets : Df := ⟨"_law_sets", ["names"], [], ["names", "made", "name", "one"],
   (.seq (.set 1 (.lst (.cs (.lst .nl) .nl)))
   (.seq (.forr (.nm 2) (.var 0)
   (.set 1 (.bin .add (.var 1) (.lcp [3] (.nm 3) (.var 1) .nl (.bin .add (.var 3) (.lst (.cs (.var 2) .nl)))))))
   (.ret (.var 1))))⟩
def l__law_perms : Df := ⟨"_law_perms", ["many"], [], ["many", "made", "k", "longer", "one", "j"],
   (.seq (.set 1 (.lst (.cs (.tup .nl) .nl)))
   (.seq (.forr (.nm 2) (.rng (.cs (.var 0) .nl))
   (.seq (.set 3 (.lst .nl))
   (.seq (.forr (.nm 4) (.var 1)
   (.set 3 (.bin .add (.var 3) (.lcp [5] (.nm 5) (.rng (.cs (.var 0) .nl)) (.cmp .nin (.var 5) (.var 4)) (.bin .add (.var 4) (.tup (.cs (.var 5) .nl)))))))
   (.set 1 (.var 3)))))
   (.ret (.var 1))))⟩
def l__law_told : Df := ⟨"_law_told", [], [], [], .nop⟩
def l__law_ways : Df := ⟨"_law_ways", ["row", "spot", "upto"], [1], ["row", "spot", "upto", "many", "top", "k", "j"],
   (.seq (.set 3 (.bin .add (.cst (.int 1)) (.cal 20 (.cs (.var 0) (.io 1 (.cs (.var 2) .nl))))))
   (.seq (.set 4 (.cal 23 (.cs (.var 0) (.io 1 (.cs (.lst (.cs (.cst (.int 4)) (.cs (.cst (.int 30)) (.cs (.cst (.int 200)) .nl)))) .nl)))))
   (.ret (.blt .tuple (.cs (.lcp [5] (.nm 5) (.rng (.cs (.var 3) .nl)) .nl (.blt .tuple (.cs (.lcn [6] (.nm 6) (.rng (.cs (.var 3) .nl)) .nl (.ite (.cmp .eq (.var 6) (.var 5)) (.cst (.int 0)) (.cal 20 (.cs (.var 0) (.io 1 (.cs (.bin .add (.var 4) (.cst (.int 1))) .nl)))))) .nl))) .nl)))))⟩
def l__law_calls : Df := ⟨"_law_calls", ["row", "spot", "many"], [1], ["row", "spot", "many", "made", "k", "first"],
   (.seq (.own 3 (.lst .nl))
   (.seq (.forr (.nm 4) (.rng (.cs (.var 2) .nl))
   (.seq (.set 5 (.cal 23 (.cs (.var 0) (.io 1 (.cs (.lst (.cs (.cst (.int 0)) (.cs (.cal 20 (.cs (.var 0) (.io 1 (.cs (.cst (.int 60)) .nl)))) .nl))) .nl)))))
   (.app 3 (.tup (.cs (.var 5) (.cs (.bin .add (.var 5) (.cal 23 (.cs (.var 0) (.io 1 (.cs (.lst (.cs (.cst (.int 5)) (.cs (.cst (.int 40)) (.cs (.cst (.int 300)) (.cs (.cst (.int 900)) .nl))))) .nl))))) (.cs (.cal 20 (.cs (.var 0) (.io 1 (.cs (.cal 23 (.cs (.var 0) (.io 1 (.cs (.lst (.cs (.cst (.int 1)) (.cs (.cst (.int 20)) .nl))) .nl)))) .nl)))) .nl)))))))
   (.ret (.blt .tuple (.cs (.bor 3) .nl)))))⟩
def l__law_called_at : Df := ⟨"_law_called_at", ["ways", "calls", "order"], [], ["ways", "calls", "order", "minute", "here", "house"],
   (.seq (.set 3 (.idx (.idx (.var 1) (.cst (.int 0))) (.cst (.int 0))))
   (.seq (.set 4 (.cst (.int 0)))
   (.seq (.forr (.nm 5) (.var 2)
   (.seq (.set 3 (.blt .max (.cs (.bin .add (.var 3) (.idx (.idx (.var 0) (.var 4)) (.var 5))) (.cs (.idx (.idx (.var 1) (.var 5)) (.cst (.int 0))) .nl))))
   (.seq (.ite (.cmp .gt (.var 3) (.idx (.idx (.var 1) (.var 5)) (.cst (.int 1))))
   (.ret (.cst .none))
   .nop)
   (.seq (.set 3 (.bin .add (.var 3) (.idx (.idx (.var 1) (.var 5)) (.cst (.int 2)))))
   (.set 4 (.var 5))))))
   (.seq (.set 3 (.bin .add (.var 3) (.idx (.idx (.var 0) (.var 4)) (.cst (.int 0)))))
   (.ret (.ite (.cmp .gt (.var 3) (.idx (.idx (.var 1) (.cst (.int 0))) (.cst (.int 1)))) (.cst .none) (.var 3)))))))⟩
def l_law : Df := ⟨"law", ["script"], [], ["script", "row", "spot", "ways", "many", "calls", "whole", "most", "some", "bad", "two", "order", "line", "minute", "k", "key"],
   (.seq (.set 1 (.cal 18 (.cs (.var 0) .nl)))
   (.seq (.own 2 (.lst (.cs (.cst (.int 0)) .nl)))
   (.seq (.set 3 (.cal 27 (.cs (.var 1) (.io 2 (.cs (.cst (.int 5)) .nl)))))
   (.seq (.set 4 (.blt .len (.cs (.var 3) .nl)))
   (.seq (.set 5 (.cal 28 (.cs (.var 1) (.io 2 (.cs (.var 4) .nl)))))
   (.seq (.set 6 (.cst .none))
   (.seq (.set 7 (.cst .none))
   (.seq (.forr (.nm 8) (.cal 24 (.cs (.lcp [14] (.nm 14) (.rng (.cs (.cst (.int 1)) (.cs (.var 4) .nl))) .nl (.var 14)) .nl))
   (.forr (.nm 11) (.cal 25 (.cs (.blt .len (.cs (.var 8) .nl)) .nl))
   (.seq (.set 12 (.blt .tuple (.cs (.lcp [14] (.nm 14) (.var 11) .nl (.idx (.var 8) (.var 14))) .nl)))
   (.seq (.set 13 (.cal 29 (.cs (.var 3) (.cs (.var 5) (.cs (.var 12) .nl)))))
   (.ite (.cmp .notn (.var 13) (.cst .none))
   (.seq (.set 15 (.tup (.cs (.neg (.blt .len (.cs (.var 12) .nl))) (.cs (.var 13) (.cs (.var 12) .nl)))))
   (.seq (.set 7 (.ite (.or (.cmp .isn (.var 7) (.cst .none)) (.cmp .lt (.var 15) (.var 7))) (.var 15) (.var 7)))
   (.ite (.cmp .eq (.blt .len (.cs (.var 12) .nl)) (.bin .sub (.var 4) (.cst (.int 1))))
   (.set 6 (.ite (.or (.cmp .isn (.var 6) (.cst .none)) (.cmp .lt (.tup (.cs (.var 13) (.cs (.var 12) .nl))) (.var 6))) (.tup (.cs (.var 13) (.cs (.var 12) .nl))) (.var 6)))
   .nop)))
   .nop)))))
   (.seq (.ite (.or (.not (.cal 17 (.cs (.cal 15 (.cs (.cal 22 (.cs (.var 1) (.io 2 (.cs (.var 3) .nl)))) (.cs (.cal 22 (.cs (.var 1) (.io 2 (.cs (.var 5) .nl)))) .nl))) (.cs (.var 6) .nl)))) (.not (.cal 17 (.cs (.cal 16 (.cs (.cal 22 (.cs (.var 1) (.io 2 (.cs (.var 3) .nl)))) (.cs (.cal 22 (.cs (.var 1) (.io 2 (.cs (.var 5) .nl)))) .nl))) (.cs (.tup (.cs (.neg (.idx (.var 7) (.cst (.int 0)))) (.cs (.idx (.var 7) (.cst (.int 2))) .nl))) .nl)))))
   (.ret (.cst (.bool false)))
   .nop)
   (.seq (.forr (.nm 9) (.lst (.cs (.tup .nl) (.cs (.tup (.cs (.tup (.cs (.cst (.int 1)) .nl)) .nl)) (.cs (.tup (.cs (.tup (.cs (.cst (.int 0)) (.cs (.cst (.int 1)) .nl))) .nl)) (.cs (.tup (.cs (.tup (.cs (.cst (.int 0)) (.cs (.cst (.int 201)) .nl))) (.cs (.tup (.cs (.cst (.int 1)) (.cs (.cst (.int 0)) .nl))) .nl))) (.cs (.tup (.cs (.tup (.cs (.cst (.int 0)) (.cs (.neg (.cst (.int 1))) .nl))) (.cs (.tup (.cs (.cst (.int 1)) (.cs (.cst (.int 0)) .nl))) .nl))) (.cs (.tup (.cs (.tup (.cs (.cst (.int 0)) (.cs (.cst (.bool true)) .nl))) (.cs (.tup (.cs (.cst (.int 1)) (.cs (.cst (.int 0)) .nl))) .nl))) (.cs (.tup (.cs (.cst (.int 0)) .nl)) (.cs (.cst .none) (.cs (.bin .mul (.tup (.cs (.bin .mul (.tup (.cs (.cst (.int 0)) .nl)) (.cst (.int 7))) .nl)) (.cst (.int 7))) .nl))))))))))
   (.ite (.or (.cmp .ne (.tol (.cal 15 (.cs (.var 9) (.cs (.tup (.cs (.tup (.cs (.cst (.int 0)) (.cs (.cst (.int 5)) (.cs (.cst (.int 0)) .nl)))) .nl)) .nl)))) (.tup (.cs (.cst (lit "BadValue")) (.cs (.cst (.int 0)) .nl)))) (.cmp .ne (.tol (.cal 16 (.cs (.var 9) (.cs (.tup (.cs (.tup (.cs (.cst (.int 0)) (.cs (.cst (.int 5)) (.cs (.cst (.int 0)) .nl)))) .nl)) .nl)))) (.tup (.cs (.cst (lit "BadValue")) (.cs (.cst (.int 0)) .nl)))))
   (.ret (.cst (.bool false)))
   .nop))
   (.seq (.forr (.nm 9) (.lst (.cs (.tup .nl) (.cs (.tup (.cs (.tup (.cs (.cst (.int 5)) (.cs (.cst (.int 4)) (.cs (.cst (.int 0)) .nl)))) .nl)) (.cs (.tup (.cs (.tup (.cs (.neg (.cst (.int 1))) (.cs (.cst (.int 4)) (.cs (.cst (.int 0)) .nl)))) .nl)) (.cs (.tup (.cs (.tup (.cs (.cst (.int 0)) (.cs (.cst (.int 1001)) (.cs (.cst (.int 0)) .nl)))) .nl)) (.cs (.tup (.cs (.tup (.cs (.cst (.int 0)) (.cs (.cst (.int 5)) (.cs (.neg (.cst (.int 1))) .nl)))) .nl)) (.cs (.tup (.cs (.tup (.cs (.cst (.int 0)) (.cs (.cst (.int 5)) (.cs (.cst (.int 201)) .nl)))) .nl)) (.cs (.tup (.cs (.tup (.cs (.cst (.int 0)) (.cs (.cst (.int 5)) .nl))) .nl)) (.cs (.cst .none) (.cs (.tup (.cs (.tup (.cs (.cst (.int 0)) (.cs (.cst (.bool true)) (.cs (.cst (.int 0)) .nl)))) .nl)) (.cs (.tup (.cs (.tup (.cs (.cst (.int 0)) (.cs (.cst (.int 5)) (.cs (.cst (.int 0)) .nl)))) (.cs (.tup (.cs (.cst (.int 0)) (.cs (.cst (.int 5)) (.cs (.cst (.int 0)) .nl)))) .nl))) (.cs (.tup (.cs (.cst (.int 0)) (.cs (.cst (.int 5)) (.cs (.cst (.int 0)) .nl)))) .nl))))))))))))
   (.ite (.or (.cmp .ne (.tol (.cal 15 (.cs (.tup (.cs (.tup (.cs (.cst (.int 0)) .nl)) .nl)) (.cs (.var 9) .nl)))) (.tup (.cs (.cst (lit "BadValue")) (.cs (.cst (.int 1)) .nl)))) (.cmp .ne (.tol (.cal 16 (.cs (.tup (.cs (.tup (.cs (.cst (.int 0)) .nl)) .nl)) (.cs (.var 9) .nl)))) (.tup (.cs (.cst (lit "BadValue")) (.cs (.cst (.int 1)) .nl)))))
   (.ret (.cst (.bool false)))
   .nop))
   (.seq (.set 10 (.tup (.cs (.tup (.cs (.cst (.int 0)) (.cs (.cst (.int 3)) .nl))) (.cs (.tup (.cs (.cst (.int 4)) (.cs (.cst (.int 0)) .nl))) .nl))))
   (.seq (.ite (.or (.not (.cal 17 (.cs (.cal 15 (.cs (.var 10) (.cs (.tup (.cs (.tup (.cs (.cst (.int 0)) (.cs (.cst (.int 1000)) (.cs (.cst (.int 0)) .nl)))) (.cs (.tup (.cs (.cst (.int 5)) (.cs (.cst (.int 5)) (.cs (.cst (.int 0)) .nl)))) .nl))) .nl))) (.cs (.tup (.cs (.cst (.int 9)) (.cs (.tup (.cs (.cst (.int 1)) .nl)) .nl))) .nl)))) (.or (.not (.cal 17 (.cs (.cal 15 (.cs (.var 10) (.cs (.tup (.cs (.tup (.cs (.cst (.int 0)) (.cs (.cst (.int 1000)) (.cs (.cst (.int 200)) .nl)))) (.cs (.tup (.cs (.cst (.int 1000)) (.cs (.cst (.int 1000)) (.cs (.cst (.int 200)) .nl)))) .nl))) .nl))) (.cs (.cst .none) .nl)))) (.or (.not (.cal 17 (.cs (.cal 16 (.cs (.var 10) (.cs (.tup (.cs (.tup (.cs (.cst (.int 1000)) (.cs (.cst (.int 1000)) (.cs (.cst (.int 0)) .nl)))) (.cs (.tup (.cs (.cst (.int 0)) (.cs (.cst (.int 0)) (.cs (.cst (.int 0)) .nl)))) .nl))) .nl))) (.cs (.tup (.cs (.cst (.int 0)) (.cs (.tup .nl) .nl))) .nl)))) (.not (.cal 17 (.cs (.cal 15 (.cs (.tup (.cs (.tup (.cs (.cst (.int 0)) (.cs (.cst (.int 200)) .nl))) (.cs (.tup (.cs (.cst (.int 200)) (.cs (.cst (.int 0)) .nl))) .nl))) (.cs (.tup (.cs (.tup (.cs (.cst (.int 0)) (.cs (.cst (.int 600)) (.cs (.cst (.int 0)) .nl)))) (.cs (.tup (.cs (.cst (.int 0)) (.cs (.cst (.int 200)) (.cs (.cst (.int 200)) .nl)))) .nl))) .nl))) (.cs (.tup (.cs (.cst (.int 600)) (.cs (.tup (.cs (.cst (.int 1)) .nl)) .nl))) .nl)))))))
   (.ret (.cst (.bool false)))
   .nop)
   (.seq (.ite (.or (.not (.cal 17 (.cs (.cal 15 (.cs (.var 10) (.cs (.tup (.cs (.tup (.cs (.cst (.int 5)) (.cs (.cst (.int 20)) (.cs (.cst (.int 100)) .nl)))) (.cs (.tup (.cs (.cst (.int 0)) (.cs (.cst (.int 8)) (.cs (.cst (.int 8)) .nl)))) .nl))) .nl))) (.cs (.tup (.cs (.cst (.int 20)) (.cs (.tup (.cs (.cst (.int 1)) .nl)) .nl))) .nl)))) (.or (.not (.cal 17 (.cs (.cal 15 (.cs (.var 10) (.cs (.tup (.cs (.tup (.cs (.cst (.int 5)) (.cs (.cst (.int 19)) (.cs (.cst (.int 0)) .nl)))) (.cs (.tup (.cs (.cst (.int 0)) (.cs (.cst (.int 8)) (.cs (.cst (.int 8)) .nl)))) .nl))) .nl))) (.cs (.cst .none) .nl)))) (.not (.cal 17 (.cs (.cal 16 (.cs (.var 10) (.cs (.tup (.cs (.tup (.cs (.cst (.int 5)) (.cs (.cst (.int 19)) (.cs (.cst (.int 0)) .nl)))) (.cs (.tup (.cs (.cst (.int 0)) (.cs (.cst (.int 8)) (.cs (.cst (.int 8)) .nl)))) .nl))) .nl))) (.cs (.tup (.cs (.cst (.int 0)) (.cs (.tup .nl) .nl))) .nl))))))
   (.ret (.cst (.bool false)))
   .nop)
   (.ret (.and (.cal 17 (.cs (.cal 15 (.cs (.tup (.cs (.tup (.cs (.cst (.int 0)) .nl)) .nl)) (.cs (.tup (.cs (.tup (.cs (.cst (.int 7)) (.cs (.cst (.int 9)) (.cs (.cst (.int 200)) .nl)))) .nl)) .nl))) (.cs (.tup (.cs (.cst (.int 7)) (.cs (.tup .nl) .nl))) .nl))) (.and (.cal 17 (.cs (.cal 16 (.cs (.tup (.cs (.tup (.cs (.cst (.int 0)) .nl)) .nl)) (.cs (.tup (.cs (.tup (.cs (.cst (.int 7)) (.cs (.cst (.int 9)) (.cs (.cst (.int 0)) .nl)))) .nl)) .nl))) (.cs (.tup (.cs (.cst (.int 0)) (.cs (.tup .nl) .nl))) .nl))) (.and (.cal 17 (.cs (.cal 15 (.cs (.var 10) (.cs (.tup (.cs (.tup (.cs (.cst (.int 5)) (.cs (.cst (.int 20)) (.cs (.cst (.int 0)) .nl)))) (.cs (.tup (.cs (.cst (.int 0)) (.cs (.cst (.int 7)) (.cs (.cst (.int 0)) .nl)))) .nl))) .nl))) (.cs (.cst .none) .nl))) (.cal 17 (.cs (.cal 15 (.cs (.var 10) (.cs (.tup (.cs (.tup (.cs (.cst (.int 0)) (.cs (.cst (.int 1000)) (.cs (.cst (.int 0)) .nl)))) (.cs (.tup (.cs (.cst (.int 900)) (.cs (.cst (.int 950)) (.cs (.cst (.int 60)) .nl)))) .nl))) .nl))) (.cs (.tup (.cs (.cst (.int 964)) (.cs (.tup (.cs (.cst (.int 1)) .nl)) .nl))) .nl)))))))))))))))))))))⟩
def defs : List Df := [l_leaves, l_back_at, l_rounds_in_time, l_first_back, l_need, l_is_whole, l_need_whole, l_is_row, l_need_row, l_need_wholes, l_is_tuple_of, l_need_tuples, l_need_ways, l_need_calls, l_need_both, l_round_of, l_most_calls, l__law_so, l__law_numbers, l__law_draw, l__law_take, l__law_listed, l__law_handed, l__law_pick, l__law_sets, l__law_perms, l__law_told, l__law_ways, l__law_calls, l__law_called_at, l_law]
def M : Md := ⟨[], defs, [("CALL", (.tuple [(.tuple [(.int 0), (.int 1000)]), (.tuple [(.int 0), (.int 1000)]), (.tuple [(.int 0), (.int 200)])])), ("FARTHEST", (.int 200)), ("HOUSES", (.int 6))], ["all", "bool", "int", "isinstance", "len", "list", "max", "min", "range", "str", "tuple", "zip"], []⟩
def la : List Bool := [false, false, false, false, false, false, false, false, false, false, false, false, false, false, false, false, false, false, false, false, false, false, false, false, false, false, false, false, false, false, true]
abbrev L : Nat := 30
def names0 : List PySem.Str := [("leaves" : PySem.Str), ("back_at" : PySem.Str), ("rounds_in_time" : PySem.Str), ("first_back" : PySem.Str), ("SweepError" : PySem.Str), ("BadValue" : PySem.Str), ("BadText" : PySem.Str), ("NoHouse" : PySem.Str), ("TakenHouse" : PySem.Str), ("TakenDay" : PySem.Str), ("NotDone" : PySem.Str), ("TooMuch" : PySem.Str), ("NoRevision" : PySem.Str), ("need" : PySem.Str), ("is_whole" : PySem.Str), ("need_whole" : PySem.Str), ("is_row" : PySem.Str), ("need_row" : PySem.Str), ("need_wholes" : PySem.Str), ("is_tuple_of" : PySem.Str), ("need_tuples" : PySem.Str), ("HOUSES" : PySem.Str), ("FARTHEST" : PySem.Str), ("CALL" : PySem.Str), ("need_ways" : PySem.Str), ("need_calls" : PySem.Str), ("need_both" : PySem.Str), ("round_of" : PySem.Str), ("most_calls" : PySem.Str), ("_law_so" : PySem.Str), ("_law_numbers" : PySem.Str), ("_law_draw" : PySem.Str), ("_law_take" : PySem.Str), ("_law_listed" : PySem.Str), ("_law_handed" : PySem.Str), ("_law_pick" : PySem.Str), ("_law_sets" : PySem.Str), ("_law_perms" : PySem.Str), ("_law_told" : PySem.Str), ("_law_ways" : PySem.Str)]
def names1 : List PySem.Str := [("_law_calls" : PySem.Str), ("_law_called_at" : PySem.Str)]
def names : List PySem.Str := names0 ++ names1
abbrev R : PySem.W.OpenRow := PySem.W.OpenLaw.row PySem.Challenge.rw_sweepwright_k07_whole_calls
abbrev qv : PySem.Program := PySem.W.view R.prog [47]
abbrev lawDef : PySem.DefRec := HandSHeadRun.topDef R.prog 47
theorem run (w : World) : HandSHeadRun.RunEqI R qv (hook M la) (seen M la) 40000 names w := by
  unfold HandSHeadRun.RunEqI
  kernel_rfl
end SWEEPWRIGHT_K07_WHOLE_CALLS
end
section
set_option maxRecDepth 100000
set_option maxHeartbeats 4000000
namespace Sw
open PySem (PyData Str)
def W {α : Type} (o : Out α) (Q : α → Env → Prop) : Prop :=
  match o with
  | .ok a ρ => Q a ρ
  | _ => False
def WF (o : Fl) (N B C : Env → Prop) (R : VT → Env → Prop) : Prop :=
  match o with
  | .nx ρ => N ρ
  | .rt v ρ => R v ρ
  | .bk ρ => B ρ
  | .ct ρ => C ρ
  | _ => False
def kW {α β : Type} (f : α → Env → Out β) (Q : β → Env → Prop) (a : α) (ρ : Env) : Prop := W (f a ρ) Q
def kF {α : Type} (f : α → Env → Fl) (N B C : Env → Prop) (R : VT → Env → Prop) (a : α) (ρ : Env) : Prop := WF (f a ρ) N B C R
def kS (f : Env → Fl) (N B C : Env → Prop) (R : VT → Env → Prop) (ρ : Env) : Prop := WF (f ρ) N B C R
section
variable {α β : Type} {cl : Nat → List Ar → Ret} {ρ : Env} {N B C : Env → Prop} {R : VT → Env → Prop}
@[simp] theorem W_ok {a : α} {Q : α → Env → Prop} : W (.ok a ρ) Q = Q a ρ := Eq.trans rfl rfl
@[simp] theorem W_no {Q : α → Env → Prop} : W (.no) Q = False := Eq.trans rfl rfl
@[simp] theorem W_bind {o : Out α} {f : α → Env → Out β} {Q : β → Env → Prop} : W (o.bind f) Q = W o (kW f Q) := by cases o <;> rfl
@[simp] theorem s_kW {f : α → Env → Out β} {Q : β → Env → Prop} {a : α} : kW f Q a ρ = W (f a ρ) Q := Eq.trans rfl rfl
@[simp] theorem W_ite {c : Prop} [Decidable c] {a b : Out α} {Q : α → Env → Prop} : W (if c then a else b) Q = if c then W a Q else W b Q := by split <;> rfl
@[simp] theorem WF_ite {c : Prop} [Decidable c] {a b : Fl} : WF (if c then a else b) N B C R = if c then WF a N B C R else WF b N B C R := by split <;> rfl
@[simp] theorem WF_flW {o : Out α} {f : α → Env → Fl} : WF (o.fl f) N B C R = W o (kF f N B C R) := by cases o <;> rfl
@[simp] theorem s_kF {f : α → Env → Fl} {a : α} : kF f N B C R a ρ = WF (f a ρ) N B C R := Eq.trans rfl rfl
@[simp] theorem WF_seq {o : Fl} {f : Env → Fl} : WF (o.seq f) N B C R = WF o (kS f N B C R) B C R := by cases o <;> rfl
@[simp] theorem s_kS {f : Env → Fl} : kS f N B C R ρ = WF (f ρ) N B C R := Eq.trans rfl rfl
@[simp] theorem WF_nx : WF (.nx ρ) N B C R = N ρ := Eq.trans rfl rfl
@[simp] theorem WF_rt {v : VT} : WF (.rt v ρ) N B C R = R v ρ := Eq.trans rfl rfl
@[simp] theorem WF_bk : WF (.bk ρ) N B C R = B ρ := Eq.trans rfl rfl
@[simp] theorem WF_ct : WF (.ct ρ) N B C R = C ρ := Eq.trans rfl rfl
@[simp] theorem WF_no : WF .no N B C R = False := Eq.trans rfl rfl
/-- a for: the invariant I, by the number of turns done -/
theorem for_inv {turn : D → Env → Fl} (I : Nat → Env → Prop) : ∀ (items : List D) (k : Nat) (ρ : Env), I k ρ → (∀ i d ρ, items[i]? = some d → I (k + i) ρ → WF (turn d ρ) (I (k + i + 1)) N (I (k + i + 1)) R) → (∀ ρ, I (k + items.length) ρ → N ρ) → WF (forLoop turn items ρ) N B C R
  | [], k, ρ, h, _, e => e ρ h
  | d :: r, k, ρ, h, st, e => by
    have s0 := st 0 d ρ rfl h
    unfold forLoop
    cases q : turn d ρ with
    | nx ρ1 =>
      rw [q] at s0
      refine for_inv I r (k + 1) ρ1 s0 (fun i d ρ hd hi => ?_) fun ρ hi => e ρ (by rw [List.length_cons, Nat.add_comm r.length 1, ← Nat.add_assoc]; exact hi)
      have := st (i + 1) d ρ (by simpa using hd) (by rw [Nat.add_comm i 1, ← Nat.add_assoc]; exact hi)
      rw [Nat.add_comm i 1, ← Nat.add_assoc] at this
      exact this
    | ct ρ1 =>
      rw [q] at s0
      refine for_inv I r (k + 1) ρ1 s0 (fun i d ρ hd hi => ?_) fun ρ hi => e ρ (by rw [List.length_cons, Nat.add_comm r.length 1, ← Nat.add_assoc]; exact hi)
      have := st (i + 1) d ρ (by simpa using hd) (by rw [Nat.add_comm i 1, ← Nat.add_assoc]; exact hi)
      rw [Nat.add_comm i 1, ← Nat.add_assoc] at this
      exact this
    | bk ρ1 => rw [q] at s0; exact s0
    | rt v ρ1 => rw [q] at s0; exact s0
    | er x ρ1 => rw [q] at s0; exact s0
    | no => rw [q] at s0; exact s0
/-- a list comprehension: the invariant I over what is kept and the slots -/
theorem lc_inv {turn : D → Env → Out (Option D)} {own : List Nat} {Q : List D → Env → Prop} (I : Nat → List D → Env → Prop) : ∀ (items : List D) (k : Nat) (acc : List D) (ρ : Env), I k acc ρ → (∀ i acc ρ, I i acc ρ → acc.length ≤ i) → k + items.length ≤ SZ →
    (∀ i d acc ρ, items[i]? = some d → I (k + i) acc ρ → W (turn d (wiped ρ own)) fun o ρ => match o with | some v => I (k + i + 1) (acc ++ [v]) ρ | none => I (k + i + 1) acc ρ) → (∀ acc ρ, I (k + items.length) acc ρ → Q acc ρ) → W (lcLoop turn own items acc ρ) Q
  | [], k, acc, ρ, h, _, _, _, e => e acc ρ h
  | d :: r, k, acc, ρ, h, hl, hz, st, e => by
    have s0 := st 0 d acc ρ rfl h
    have la := hl _ _ _ h
    unfold lcLoop
    have nxt : ∀ acc1 ρ1, I (k + 1) acc1 ρ1 → W (lcLoop turn own r acc1 ρ1) Q := fun acc1 ρ1 h1 => lc_inv I r (k + 1) acc1 ρ1 h1 hl (by rw [List.length_cons] at hz; omega) (fun i d acc ρ hd hi => by
      have := st (i + 1) d acc ρ (by simpa using hd) (by rw [Nat.add_comm i 1, ← Nat.add_assoc]; exact hi)
      rw [Nat.add_comm i 1, ← Nat.add_assoc] at this
      exact this) fun acc ρ hi => e acc ρ (by rw [List.length_cons, Nat.add_comm r.length 1, ← Nat.add_assoc]; exact hi)
    cases q : turn d (wiped ρ own) with
    | ok o ρ1 =>
      rw [q] at s0
      cases o with
      | none => exact nxt acc ρ1 s0
      | some v =>
        show W (if acc.length < SZ then lcLoop turn own r (acc ++ [v]) ρ1 else .no) Q
        rw [if_pos (by rw [List.length_cons] at hz; omega)]
        exact nxt _ _ s0
    | er x ρ1 => rw [q] at s0; exact s0
    | no => rw [q] at s0; exact s0
end

def kTru (v : VT) (ρ : Env) : Out Bool := opt? (tru v.d) ρ
def kSeq (v : VT) (ρ : Env) : Out (List D) := opt? (seqD v.d) ρ
def kD (v : VT) (ρ : Env) : Out Qv := .ok (.d v.d) ρ
def kB1 (cl : Nat → List Ar → Ret) (g : D → D → Option VT) (b : Tm) (x : Qv) (ρ : Env) : Out VT := (opd b (ev cl b).v ρ).bind (fin2 g x)
def kSs (v : VT) (ρ : Env) : Out VT := ret? (ssetV v.d) ρ
def kSset (cl : Nat → List Ar → Ret) (own : List Nat) (tg : Tg) (c e : Tm) (items : List D) (ρ : Env) : Out VT := (if items.length < 64 then lcAll own (lcTurn tg (ev cl c).t (intO (ev cl e).v)) items ρ else .no).bind kSs
def kLset (v : VT) (ρ : Env) : Out VT := ret? (lsetV v.d) ρ
def kRev (v : VT) (ρ : Env) : Out (List D) := opt? ((seqD v.d).map List.reverse) ρ
def kRevr (v : VT) (ρ : Env) : Out (List D) := opt? ((rngN v.d).map List.reverse) ρ
def kLrev (v : VT) (ρ : Env) : Out VT := ret? ((lisD v.d).map fun l => .fr l.reverse) ρ
def kLrng (v : VT) (ρ : Env) : Out VT := ret? ((rngN v.d).map .fr) ρ
def kTrng (v : VT) (ρ : Env) : Out VT := ret? ((rngN v.d).map fun l => .pl (.tuple l)) ρ
def kMnd (v : VT) (ρ : Env) : Out VT := ret? (mndV v.d) ρ
def kIdn1 (l : List D) (u : VT) (ρ : Env) : Out VT := ret? ((idxD l u.d).map .pl) ρ
def kIdn2 (f : Env → Out VT) (l : List D) (ρ : Env) : Out VT := (f ρ).bind (kIdn1 l)
def kIdn (f : Env → Out VT) (v : VT) (ρ : Env) : Out VT := (opt? (lisD v.d) ρ).bind (kIdn2 f)
def kNeg (x : VT) (ρ : Env) : Out VT := ret? (negV x.d) ρ
def kNot1 (b : Bool) (ρ : Env) : Out VT := .ok (.pl (.bool (!b))) ρ
def kNot (q : Qv) (ρ : Env) : Out VT := (opt? ((rsv ρ q).bind tru) ρ).bind kNot1
def kNotT (k : Bool) (ρ : Env) : Out Bool := .ok (!k) ρ
def kBoo (k : Bool) (ρ : Env) : Out VT := .ok (.pl (.bool k)) ρ
def kC3 (o' : Co) (y : VT) (z : VT) (ρ : Env) : Out Bool := opt? (cop o' y.d z.d) ρ
def kC2 (o' : Co) (h : Env → Out VT) (y : VT) (k : Bool) (ρ : Env) : Out Bool := if k then (h ρ).bind (kC3 o' y) else .ok false ρ
def kC1 (o o' : Co) (h : Env → Out VT) (x y : VT) (ρ : Env) : Out Bool := (opt? (cop o x.d y.d) ρ).bind (kC2 o' h y)
def kC0 (o o' : Co) (g h : Env → Out VT) (x : VT) (ρ : Env) : Out Bool := (g ρ).bind (kC1 o o' h x)
def kAnd1 (f : Env → Out VT) (k : Bool) (ρ : Env) : Out VT := if k then f ρ else .ok (.pl (.bool false)) ρ
def kAnd (f : Env → Out VT) (x : VT) (ρ : Env) : Out VT := (opt? (asBool x.d) ρ).bind (kAnd1 f)
def kAndT (f : Env → Out Bool) (k : Bool) (ρ : Env) : Out Bool := if k then f ρ else .ok false ρ
def kOr1 (f : Env → Out VT) (k : Bool) (ρ : Env) : Out VT := if k then .ok (.pl (.bool true)) ρ else f ρ
def kOr (f : Env → Out VT) (x : VT) (ρ : Env) : Out VT := (opt? (asBool x.d) ρ).bind (kOr1 f)
def kOrT (f : Env → Out Bool) (k : Bool) (ρ : Env) : Out Bool := if k then .ok true ρ else f ρ
def kIte (f g : Env → Out VT) (k : Bool) (ρ : Env) : Out VT := if k then f ρ else g ρ
def kTup (qs : List Qv) (ρ : Env) : Out VT := ret? ((dvals qs).bind tupD) ρ
def kLst (qs : List Qv) (ρ : Env) : Out VT := ret? ((dvals qs).bind lstD) ρ
def kCs1 (q : Qv) (qs : List Qv) (ρ : Env) : Out (List Qv) := .ok (q :: qs) ρ
def kCs (s : Env → Out (List Qv)) (q : Qv) (ρ : Env) : Out (List Qv) := (s ρ).bind (kCs1 q)
def gIx (d e : D) : Option VT := (ixD d e).map .pl
def kSl3 (x : Qv) (l h : Option Int) (d : D) (ρ : Env) : Out VT := ret? (sliD d l h) ρ
def kSl2 (x : Qv) (l h : Option Int) (ρ : Env) : Out VT := (opt? (rsv ρ x) ρ).bind (kSl3 x l h)
def kSl1 (cl : Nat → List Ar → Ret) (hi : Tm) (x : Qv) (l : Option Int) (ρ : Env) : Out VT := (part hi (ev cl hi).v ρ).bind (kSl2 x l)
def kSl (cl : Nat → List Ar → Ret) (lo hi : Tm) (x : Qv) (ρ : Env) : Out VT := (part lo (ev cl lo).v ρ).bind (kSl1 cl hi x)
def kLc (cl : Nat → List Ar → Ret) (own : List Nat) (tg : Tg) (c e : Tm) (items : List D) (ρ : Env) : Out VT := lcAll own (lcTurn tg (ev cl c).t (ev cl e).v) items ρ
def kLn (cl : Nat → List Ar → Ret) (own : List Nat) (tg : Tg) (c e : Tm) (items : List D) (ρ : Env) : Out VT := noEr (lcAll own (lcTurn tg (ev cl c).t (ev cl e).v) items ρ)
def kRng (qs : List Qv) (ρ : Env) : Out (List D) := opt? ((rsvs ρ qs).bind rngD) ρ
def kEnu (v : VT) (ρ : Env) : Out (List D) := opt? ((seqD v.d).map (enumFrom 0)) ρ
def kZip1 (v u : VT) (ρ : Env) : Out (List D) := opt? (zip2 v.d u.d) ρ
def kZip (f : Env → Out VT) (v : VT) (ρ : Env) : Out (List D) := (f ρ).bind (kZip1 v)
def kPart (v : VT) (ρ : Env) : Out (Option Int) := opt? (optI v.d) ρ
/-- a slot that may be set -/
def Slot.st : Slot → Bool
  | .io _ => false
  | _ => true
/-- a slot that a comprehension may own -/
def Slot.wp : Slot → Bool
  | .em => true
  | .pl _ => true
  | _ => false
/-- nothing yet, or a plain value -/
def sl : Option D → Slot
  | none => .em
  | some d => .pl d
@[simp] theorem sl_none : sl none = .em := Eq.trans rfl rfl
@[simp] theorem sl_some {d : D} : sl (some d) = .pl d := Eq.trans rfl rfl
@[simp] theorem st_em : Slot.em.st = true := Eq.trans rfl rfl
@[simp] theorem st_pl {d : D} : (Slot.pl d).st = true := Eq.trans rfl rfl
@[simp] theorem st_ow {d : List D} : (Slot.ow d).st = true := Eq.trans rfl rfl
@[simp] theorem st_io {d : List D} : (Slot.io d).st = false := Eq.trans rfl rfl
@[simp] theorem st_sl {o : Option D} : (sl o).st = true := by cases o <;> rfl
@[simp] theorem wp_em : Slot.em.wp = true := Eq.trans rfl rfl
@[simp] theorem wp_pl {d : D} : (Slot.pl d).wp = true := Eq.trans rfl rfl
@[simp] theorem wp_ow {d : List D} : (Slot.ow d).wp = false := Eq.trans rfl rfl
@[simp] theorem wp_io {d : List D} : (Slot.io d).wp = false := Eq.trans rfl rfl
@[simp] theorem wp_sl {o : Option D} : (sl o).wp = true := by cases o <;> rfl
section
variable {cl : Nat → List Ar → Ret} {ρ : Env}
@[simp] theorem v_var {i : Nat} : (ev cl (.var i)).v ρ = rdVar i ρ := Eq.trans rfl rfl
@[simp] theorem v_mov {i : Nat} : (ev cl (.mov i)).v ρ = mvVar i ρ := Eq.trans rfl rfl
@[simp] theorem tt_bor {i : Nat} : (ev cl (.bor i)).t ρ = opt? ((rsv ρ (.b i)).bind tru) ρ := Eq.trans rfl rfl
@[simp] theorem v_cst {d : D} : (ev cl (.cst d)).v ρ = .ok (.pl d) ρ := Eq.trans rfl rfl
@[simp] theorem v_glb {x : Str} {d : D} : (ev cl (.glb x d)).v ρ = .ok (.pl d) ρ := Eq.trans rfl rfl
@[simp] theorem v_bin {o : Bo} {a b : Tm} : (ev cl (.bin o a b)).v ρ = (opd a (ev cl a).v ρ).bind (kB1 cl (bop o) b) := Eq.trans rfl rfl
@[simp] theorem v_neg {a : Tm} : (ev cl (.neg a)).v ρ = ((ev cl a).v ρ).bind kNeg := Eq.trans rfl rfl
@[simp] theorem v_not {a : Tm} : (ev cl (.not a)).v ρ = (opd a (ev cl a).v ρ).bind kNot := Eq.trans rfl rfl
@[simp] theorem tt_not {a : Tm} : (ev cl (.not a)).t ρ = ((ev cl a).t ρ).bind kNotT := Eq.trans rfl rfl
@[simp] theorem v_cmp {o : Co} {a b : Tm} : (ev cl (.cmp o a b)).v ρ = (opd a (ev cl a).v ρ).bind (kB1 cl (cval o) b) := Eq.trans rfl rfl
@[simp] theorem v_chn {o o2 : Co} {a b c : Tm} : (ev cl (.chn o o2 a b c)).v ρ = (((ev cl a).v ρ).bind (kC0 o o2 (ev cl b).v (ev cl c).v)).bind kBoo := Eq.trans rfl rfl
@[simp] theorem t_chn {o o2 : Co} {a b c : Tm} : (ev cl (.chn o o2 a b c)).t ρ = ((ev cl a).v ρ).bind (kC0 o o2 (ev cl b).v (ev cl c).v) := Eq.trans rfl rfl
@[simp] theorem v_and {a b : Tm} : (ev cl (.and a b)).v ρ = ((ev cl a).v ρ).bind (kAnd (ev cl b).v) := Eq.trans rfl rfl
@[simp] theorem tt_and {a b : Tm} : (ev cl (.and a b)).t ρ = ((ev cl a).t ρ).bind (kAndT (ev cl b).t) := Eq.trans rfl rfl
@[simp] theorem v_or {a b : Tm} : (ev cl (.or a b)).v ρ = ((ev cl a).v ρ).bind (kOr (ev cl b).v) := Eq.trans rfl rfl
@[simp] theorem tt_or {a b : Tm} : (ev cl (.or a b)).t ρ = ((ev cl a).t ρ).bind (kOrT (ev cl b).t) := Eq.trans rfl rfl
@[simp] theorem v_ite {c a b : Tm} : (ev cl (.ite c a b)).v ρ = ((ev cl c).t ρ).bind (kIte (ev cl a).v (ev cl b).v) := Eq.trans rfl rfl
@[simp] theorem v_tup {es : Tm} : (ev cl (.tup es)).v ρ = ((ev cl es).s ρ).bind kTup := Eq.trans rfl rfl
@[simp] theorem v_lst {es : Tm} : (ev cl (.lst es)).v ρ = ((ev cl es).s ρ).bind kLst := Eq.trans rfl rfl
@[simp] theorem s_cs {e es : Tm} : (ev cl (.cs e es)).s ρ = (opd e (ev cl e).v ρ).bind (kCs (ev cl es).s) := Eq.trans rfl rfl
@[simp] theorem s_io {i : Nat} {es : Tm} : (ev cl (.io i es)).s ρ = ioOk i ρ (((ev cl es).s ρ).bind (kCs1 (.io i))) := Eq.trans rfl rfl
@[simp] theorem v_idx {a b : Tm} : (ev cl (.idx a b)).v ρ = (opd a (ev cl a).v ρ).bind (kB1 cl gIx b) := Eq.trans rfl rfl
@[simp] theorem v_sli {a lo hi : Tm} : (ev cl (.sli a lo hi)).v ρ = (opd a (ev cl a).v ρ).bind (kSl cl lo hi) := Eq.trans rfl rfl
@[simp] theorem v_cal {f : Nat} {es : Tm} : (ev cl (.cal f es)).v ρ = ((ev cl es).s ρ).bind (callq cl f) := Eq.trans rfl rfl
@[simp] theorem v_blt {f : Bf} {es : Tm} : (ev cl (.blt f es)).v ρ = ((ev cl es).s ρ).bind (finS (bfn f)) := Eq.trans rfl rfl
@[simp] theorem v_lcp {own : List Nat} {tg : Tg} {it c e : Tm} : (ev cl (.lcp own tg it c e)).v ρ = ((ev cl it).i ρ).bind (kLc cl own tg c e) := Eq.trans rfl rfl
@[simp] theorem v_lcn {own : List Nat} {tg : Tg} {it c e : Tm} : (ev cl (.lcn own tg it c e)).v ρ = ((ev cl it).i ρ).bind (kLn cl own tg c e) := Eq.trans rfl rfl
@[simp] theorem i_rng {es : Tm} : (ev cl (.rng es)).i ρ = ((ev cl es).s ρ).bind kRng := Eq.trans rfl rfl
@[simp] theorem i_enu {a : Tm} : (ev cl (.enu a)).i ρ = ((ev cl a).v ρ).bind kEnu := Eq.trans rfl rfl
@[simp] theorem i_zip {a b : Tm} : (ev cl (.zip a b)).i ρ = ((ev cl a).v ρ).bind (kZip (ev cl b).v) := Eq.trans rfl rfl
@[simp] theorem v_tol {e : Tm} : (ev cl (.tol e)).v ρ = told ((ev cl e).v ρ) := Eq.trans rfl rfl
@[simp] theorem tt_var {x0 : Nat} : (ev cl (Tm.var x0)).t ρ = ((ev cl (Tm.var x0)).v ρ).bind kTru := Eq.trans rfl rfl
@[simp] theorem i_var {x0 : Nat} : (ev cl (Tm.var x0)).i ρ = ((ev cl (Tm.var x0)).v ρ).bind kSeq := Eq.trans rfl rfl
@[simp] theorem tt_mov {x0 : Nat} : (ev cl (Tm.mov x0)).t ρ = ((ev cl (Tm.mov x0)).v ρ).bind kTru := Eq.trans rfl rfl
@[simp] theorem i_mov {x0 : Nat} : (ev cl (Tm.mov x0)).i ρ = ((ev cl (Tm.mov x0)).v ρ).bind kSeq := Eq.trans rfl rfl
@[simp] theorem tt_cst {x0 : D} : (ev cl (Tm.cst x0)).t ρ = ((ev cl (Tm.cst x0)).v ρ).bind kTru := Eq.trans rfl rfl
@[simp] theorem i_cst {x0 : D} : (ev cl (Tm.cst x0)).i ρ = ((ev cl (Tm.cst x0)).v ρ).bind kSeq := Eq.trans rfl rfl
@[simp] theorem tt_glb {x0 : Str} {x1 : D} : (ev cl (Tm.glb x0 x1)).t ρ = ((ev cl (Tm.glb x0 x1)).v ρ).bind kTru := Eq.trans rfl rfl
@[simp] theorem i_glb {x0 : Str} {x1 : D} : (ev cl (Tm.glb x0 x1)).i ρ = ((ev cl (Tm.glb x0 x1)).v ρ).bind kSeq := Eq.trans rfl rfl
@[simp] theorem tt_bin {x0 : Bo} {x1 : Tm} {x2 : Tm} : (ev cl (Tm.bin x0 x1 x2)).t ρ = ((ev cl (Tm.bin x0 x1 x2)).v ρ).bind kTru := Eq.trans rfl rfl
@[simp] theorem i_bin {x0 : Bo} {x1 : Tm} {x2 : Tm} : (ev cl (Tm.bin x0 x1 x2)).i ρ = ((ev cl (Tm.bin x0 x1 x2)).v ρ).bind kSeq := Eq.trans rfl rfl
@[simp] theorem tt_neg {x0 : Tm} : (ev cl (Tm.neg x0)).t ρ = ((ev cl (Tm.neg x0)).v ρ).bind kTru := Eq.trans rfl rfl
@[simp] theorem i_neg {x0 : Tm} : (ev cl (Tm.neg x0)).i ρ = ((ev cl (Tm.neg x0)).v ρ).bind kSeq := Eq.trans rfl rfl
@[simp] theorem tt_cmp {x0 : Co} {x1 : Tm} {x2 : Tm} : (ev cl (Tm.cmp x0 x1 x2)).t ρ = ((ev cl (Tm.cmp x0 x1 x2)).v ρ).bind kTru := Eq.trans rfl rfl
@[simp] theorem i_cmp {x0 : Co} {x1 : Tm} {x2 : Tm} : (ev cl (Tm.cmp x0 x1 x2)).i ρ = ((ev cl (Tm.cmp x0 x1 x2)).v ρ).bind kSeq := Eq.trans rfl rfl
@[simp] theorem tt_ite {x0 : Tm} {x1 : Tm} {x2 : Tm} : (ev cl (Tm.ite x0 x1 x2)).t ρ = ((ev cl (Tm.ite x0 x1 x2)).v ρ).bind kTru := Eq.trans rfl rfl
@[simp] theorem i_ite {x0 : Tm} {x1 : Tm} {x2 : Tm} : (ev cl (Tm.ite x0 x1 x2)).i ρ = ((ev cl (Tm.ite x0 x1 x2)).v ρ).bind kSeq := Eq.trans rfl rfl
@[simp] theorem tt_tup {x0 : Tm} : (ev cl (Tm.tup x0)).t ρ = ((ev cl (Tm.tup x0)).v ρ).bind kTru := Eq.trans rfl rfl
@[simp] theorem i_tup {x0 : Tm} : (ev cl (Tm.tup x0)).i ρ = ((ev cl (Tm.tup x0)).v ρ).bind kSeq := Eq.trans rfl rfl
@[simp] theorem tt_lst {x0 : Tm} : (ev cl (Tm.lst x0)).t ρ = ((ev cl (Tm.lst x0)).v ρ).bind kTru := Eq.trans rfl rfl
@[simp] theorem i_lst {x0 : Tm} : (ev cl (Tm.lst x0)).i ρ = ((ev cl (Tm.lst x0)).v ρ).bind kSeq := Eq.trans rfl rfl
@[simp] theorem tt_idx {x0 : Tm} {x1 : Tm} : (ev cl (Tm.idx x0 x1)).t ρ = ((ev cl (Tm.idx x0 x1)).v ρ).bind kTru := Eq.trans rfl rfl
@[simp] theorem i_idx {x0 : Tm} {x1 : Tm} : (ev cl (Tm.idx x0 x1)).i ρ = ((ev cl (Tm.idx x0 x1)).v ρ).bind kSeq := Eq.trans rfl rfl
@[simp] theorem tt_sli {x0 : Tm} {x1 : Tm} {x2 : Tm} : (ev cl (Tm.sli x0 x1 x2)).t ρ = ((ev cl (Tm.sli x0 x1 x2)).v ρ).bind kTru := Eq.trans rfl rfl
@[simp] theorem i_sli {x0 : Tm} {x1 : Tm} {x2 : Tm} : (ev cl (Tm.sli x0 x1 x2)).i ρ = ((ev cl (Tm.sli x0 x1 x2)).v ρ).bind kSeq := Eq.trans rfl rfl
@[simp] theorem tt_cal {x0 : Nat} {x1 : Tm} : (ev cl (Tm.cal x0 x1)).t ρ = ((ev cl (Tm.cal x0 x1)).v ρ).bind kTru := Eq.trans rfl rfl
@[simp] theorem i_cal {x0 : Nat} {x1 : Tm} : (ev cl (Tm.cal x0 x1)).i ρ = ((ev cl (Tm.cal x0 x1)).v ρ).bind kSeq := Eq.trans rfl rfl
@[simp] theorem tt_blt {x0 : Bf} {x1 : Tm} : (ev cl (Tm.blt x0 x1)).t ρ = ((ev cl (Tm.blt x0 x1)).v ρ).bind kTru := Eq.trans rfl rfl
@[simp] theorem i_blt {x0 : Bf} {x1 : Tm} : (ev cl (Tm.blt x0 x1)).i ρ = ((ev cl (Tm.blt x0 x1)).v ρ).bind kSeq := Eq.trans rfl rfl
@[simp] theorem tt_lcp {x0 : List Nat} {x1 : Tg} {x2 : Tm} {x3 : Tm} {x4 : Tm} : (ev cl (Tm.lcp x0 x1 x2 x3 x4)).t ρ = ((ev cl (Tm.lcp x0 x1 x2 x3 x4)).v ρ).bind kTru := Eq.trans rfl rfl
@[simp] theorem i_lcp {x0 : List Nat} {x1 : Tg} {x2 : Tm} {x3 : Tm} {x4 : Tm} : (ev cl (Tm.lcp x0 x1 x2 x3 x4)).i ρ = ((ev cl (Tm.lcp x0 x1 x2 x3 x4)).v ρ).bind kSeq := Eq.trans rfl rfl
@[simp] theorem tt_lcn {x0 : List Nat} {x1 : Tg} {x2 : Tm} {x3 : Tm} {x4 : Tm} : (ev cl (Tm.lcn x0 x1 x2 x3 x4)).t ρ = ((ev cl (Tm.lcn x0 x1 x2 x3 x4)).v ρ).bind kTru := Eq.trans rfl rfl
@[simp] theorem i_lcn {x0 : List Nat} {x1 : Tg} {x2 : Tm} {x3 : Tm} {x4 : Tm} : (ev cl (Tm.lcn x0 x1 x2 x3 x4)).i ρ = ((ev cl (Tm.lcn x0 x1 x2 x3 x4)).v ρ).bind kSeq := Eq.trans rfl rfl
@[simp] theorem tt_tol {x0 : Tm} : (ev cl (Tm.tol x0)).t ρ = ((ev cl (Tm.tol x0)).v ρ).bind kTru := Eq.trans rfl rfl
@[simp] theorem i_tol {x0 : Tm} : (ev cl (Tm.tol x0)).i ρ = ((ev cl (Tm.tol x0)).v ρ).bind kSeq := Eq.trans rfl rfl
@[simp] theorem opd_var {x0 : Nat} {e : Env → Out VT} : opd (Tm.var x0) e ρ = (e ρ).bind kD := Eq.trans rfl rfl
@[simp] theorem part_var {x0 : Nat} {e : Env → Out VT} : part (Tm.var x0) e ρ = (e ρ).bind kPart := Eq.trans rfl rfl
@[simp] theorem opd_mov {x0 : Nat} {e : Env → Out VT} : opd (Tm.mov x0) e ρ = (e ρ).bind kD := Eq.trans rfl rfl
@[simp] theorem part_mov {x0 : Nat} {e : Env → Out VT} : part (Tm.mov x0) e ρ = (e ρ).bind kPart := Eq.trans rfl rfl
@[simp] theorem opd_cst {x0 : D} {e : Env → Out VT} : opd (Tm.cst x0) e ρ = (e ρ).bind kD := Eq.trans rfl rfl
@[simp] theorem part_cst {x0 : D} {e : Env → Out VT} : part (Tm.cst x0) e ρ = (e ρ).bind kPart := Eq.trans rfl rfl
@[simp] theorem opd_glb {x0 : Str} {x1 : D} {e : Env → Out VT} : opd (Tm.glb x0 x1) e ρ = (e ρ).bind kD := Eq.trans rfl rfl
@[simp] theorem part_glb {x0 : Str} {x1 : D} {e : Env → Out VT} : part (Tm.glb x0 x1) e ρ = (e ρ).bind kPart := Eq.trans rfl rfl
@[simp] theorem opd_bin {x0 : Bo} {x1 : Tm} {x2 : Tm} {e : Env → Out VT} : opd (Tm.bin x0 x1 x2) e ρ = (e ρ).bind kD := Eq.trans rfl rfl
@[simp] theorem part_bin {x0 : Bo} {x1 : Tm} {x2 : Tm} {e : Env → Out VT} : part (Tm.bin x0 x1 x2) e ρ = (e ρ).bind kPart := Eq.trans rfl rfl
@[simp] theorem opd_neg {x0 : Tm} {e : Env → Out VT} : opd (Tm.neg x0) e ρ = (e ρ).bind kD := Eq.trans rfl rfl
@[simp] theorem part_neg {x0 : Tm} {e : Env → Out VT} : part (Tm.neg x0) e ρ = (e ρ).bind kPart := Eq.trans rfl rfl
@[simp] theorem opd_cmp {x0 : Co} {x1 : Tm} {x2 : Tm} {e : Env → Out VT} : opd (Tm.cmp x0 x1 x2) e ρ = (e ρ).bind kD := Eq.trans rfl rfl
@[simp] theorem part_cmp {x0 : Co} {x1 : Tm} {x2 : Tm} {e : Env → Out VT} : part (Tm.cmp x0 x1 x2) e ρ = (e ρ).bind kPart := Eq.trans rfl rfl
@[simp] theorem opd_ite {x0 : Tm} {x1 : Tm} {x2 : Tm} {e : Env → Out VT} : opd (Tm.ite x0 x1 x2) e ρ = (e ρ).bind kD := Eq.trans rfl rfl
@[simp] theorem part_ite {x0 : Tm} {x1 : Tm} {x2 : Tm} {e : Env → Out VT} : part (Tm.ite x0 x1 x2) e ρ = (e ρ).bind kPart := Eq.trans rfl rfl
@[simp] theorem opd_tup {x0 : Tm} {e : Env → Out VT} : opd (Tm.tup x0) e ρ = (e ρ).bind kD := Eq.trans rfl rfl
@[simp] theorem part_tup {x0 : Tm} {e : Env → Out VT} : part (Tm.tup x0) e ρ = (e ρ).bind kPart := Eq.trans rfl rfl
@[simp] theorem opd_lst {x0 : Tm} {e : Env → Out VT} : opd (Tm.lst x0) e ρ = (e ρ).bind kD := Eq.trans rfl rfl
@[simp] theorem part_lst {x0 : Tm} {e : Env → Out VT} : part (Tm.lst x0) e ρ = (e ρ).bind kPart := Eq.trans rfl rfl
@[simp] theorem opd_idx {x0 : Tm} {x1 : Tm} {e : Env → Out VT} : opd (Tm.idx x0 x1) e ρ = (e ρ).bind kD := Eq.trans rfl rfl
@[simp] theorem part_idx {x0 : Tm} {x1 : Tm} {e : Env → Out VT} : part (Tm.idx x0 x1) e ρ = (e ρ).bind kPart := Eq.trans rfl rfl
@[simp] theorem opd_sli {x0 : Tm} {x1 : Tm} {x2 : Tm} {e : Env → Out VT} : opd (Tm.sli x0 x1 x2) e ρ = (e ρ).bind kD := Eq.trans rfl rfl
@[simp] theorem part_sli {x0 : Tm} {x1 : Tm} {x2 : Tm} {e : Env → Out VT} : part (Tm.sli x0 x1 x2) e ρ = (e ρ).bind kPart := Eq.trans rfl rfl
@[simp] theorem opd_cal {x0 : Nat} {x1 : Tm} {e : Env → Out VT} : opd (Tm.cal x0 x1) e ρ = (e ρ).bind kD := Eq.trans rfl rfl
@[simp] theorem part_cal {x0 : Nat} {x1 : Tm} {e : Env → Out VT} : part (Tm.cal x0 x1) e ρ = (e ρ).bind kPart := Eq.trans rfl rfl
@[simp] theorem opd_blt {x0 : Bf} {x1 : Tm} {e : Env → Out VT} : opd (Tm.blt x0 x1) e ρ = (e ρ).bind kD := Eq.trans rfl rfl
@[simp] theorem part_blt {x0 : Bf} {x1 : Tm} {e : Env → Out VT} : part (Tm.blt x0 x1) e ρ = (e ρ).bind kPart := Eq.trans rfl rfl
@[simp] theorem opd_lcp {x0 : List Nat} {x1 : Tg} {x2 : Tm} {x3 : Tm} {x4 : Tm} {e : Env → Out VT} : opd (Tm.lcp x0 x1 x2 x3 x4) e ρ = (e ρ).bind kD := Eq.trans rfl rfl
@[simp] theorem part_lcp {x0 : List Nat} {x1 : Tg} {x2 : Tm} {x3 : Tm} {x4 : Tm} {e : Env → Out VT} : part (Tm.lcp x0 x1 x2 x3 x4) e ρ = (e ρ).bind kPart := Eq.trans rfl rfl
@[simp] theorem opd_lcn {x0 : List Nat} {x1 : Tg} {x2 : Tm} {x3 : Tm} {x4 : Tm} {e : Env → Out VT} : opd (Tm.lcn x0 x1 x2 x3 x4) e ρ = (e ρ).bind kD := Eq.trans rfl rfl
@[simp] theorem part_lcn {x0 : List Nat} {x1 : Tg} {x2 : Tm} {x3 : Tm} {x4 : Tm} {e : Env → Out VT} : part (Tm.lcn x0 x1 x2 x3 x4) e ρ = (e ρ).bind kPart := Eq.trans rfl rfl
@[simp] theorem opd_tol {x0 : Tm} {e : Env → Out VT} : opd (Tm.tol x0) e ρ = (e ρ).bind kD := Eq.trans rfl rfl
@[simp] theorem part_tol {x0 : Tm} {e : Env → Out VT} : part (Tm.tol x0) e ρ = (e ρ).bind kPart := Eq.trans rfl rfl
@[simp] theorem opd_not {x0 : Tm} {e : Env → Out VT} : opd (Tm.not x0) e ρ = (e ρ).bind kD := Eq.trans rfl rfl
@[simp] theorem part_not {x0 : Tm} {e : Env → Out VT} : part (Tm.not x0) e ρ = (e ρ).bind kPart := Eq.trans rfl rfl
@[simp] theorem opd_chn {x0 : Co} {x1 : Co} {x2 : Tm} {x3 : Tm} {x4 : Tm} {e : Env → Out VT} : opd (Tm.chn x0 x1 x2 x3 x4) e ρ = (e ρ).bind kD := Eq.trans rfl rfl
@[simp] theorem part_chn {x0 : Co} {x1 : Co} {x2 : Tm} {x3 : Tm} {x4 : Tm} {e : Env → Out VT} : part (Tm.chn x0 x1 x2 x3 x4) e ρ = (e ρ).bind kPart := Eq.trans rfl rfl
@[simp] theorem opd_and {x0 : Tm} {x1 : Tm} {e : Env → Out VT} : opd (Tm.and x0 x1) e ρ = (e ρ).bind kD := Eq.trans rfl rfl
@[simp] theorem part_and {x0 : Tm} {x1 : Tm} {e : Env → Out VT} : part (Tm.and x0 x1) e ρ = (e ρ).bind kPart := Eq.trans rfl rfl
@[simp] theorem opd_or {x0 : Tm} {x1 : Tm} {e : Env → Out VT} : opd (Tm.or x0 x1) e ρ = (e ρ).bind kD := Eq.trans rfl rfl
@[simp] theorem part_or {x0 : Tm} {x1 : Tm} {e : Env → Out VT} : part (Tm.or x0 x1) e ρ = (e ρ).bind kPart := Eq.trans rfl rfl
@[simp] theorem v_sset {own : List Nat} {tg : Tg} {it c e : Tm} : (ev cl (.sset own tg it c e)).v ρ = ((ev cl it).i ρ).bind (kSset cl own tg c e) := Eq.trans rfl rfl
@[simp] theorem tt_sset {x0 : List Nat} {x1 : Tg} {x2 : Tm} {x3 : Tm} {x4 : Tm} : (ev cl (Tm.sset x0 x1 x2 x3 x4)).t ρ = ((ev cl (Tm.sset x0 x1 x2 x3 x4)).v ρ).bind kTru := Eq.trans rfl rfl
@[simp] theorem i_sset {x0 : List Nat} {x1 : Tg} {x2 : Tm} {x3 : Tm} {x4 : Tm} : (ev cl (Tm.sset x0 x1 x2 x3 x4)).i ρ = ((ev cl (Tm.sset x0 x1 x2 x3 x4)).v ρ).bind kSeq := Eq.trans rfl rfl
@[simp] theorem opd_sset {x0 : List Nat} {x1 : Tg} {x2 : Tm} {x3 : Tm} {x4 : Tm} {e : Env → Out VT} : opd (Tm.sset x0 x1 x2 x3 x4) e ρ = (e ρ).bind kD := Eq.trans rfl rfl
@[simp] theorem part_sset {x0 : List Nat} {x1 : Tg} {x2 : Tm} {x3 : Tm} {x4 : Tm} {e : Env → Out VT} : part (Tm.sset x0 x1 x2 x3 x4) e ρ = (e ρ).bind kPart := Eq.trans rfl rfl
@[simp] theorem s_kSs {v : VT} : kSs v ρ = ret? (ssetV v.d) ρ := Eq.trans rfl rfl
@[simp] theorem s_kSset {own : List Nat} {tg : Tg} {c e : Tm} {items : List D} : kSset cl own tg c e items ρ = (if items.length < 64 then lcAll own (lcTurn tg (ev cl c).t (intO (ev cl e).v)) items ρ else .no).bind kSs := Eq.trans rfl rfl
@[simp] theorem v_lset {a : Tm} : (ev cl (.lset a)).v ρ = ((ev cl a).v ρ).bind kLset := Eq.trans rfl rfl
@[simp] theorem v_idn {a b : Tm} : (ev cl (.idn a b)).v ρ = ((ev cl a).v ρ).bind (kIdn (ev cl b).v) := Eq.trans rfl rfl
@[simp] theorem tt_lset {x0 : Tm} : (ev cl (Tm.lset x0)).t ρ = ((ev cl (Tm.lset x0)).v ρ).bind kTru := Eq.trans rfl rfl
@[simp] theorem tt_idn {x0 x1 : Tm} : (ev cl (Tm.idn x0 x1)).t ρ = ((ev cl (Tm.idn x0 x1)).v ρ).bind kTru := Eq.trans rfl rfl
@[simp] theorem opd_lset {x0 : Tm} {e : Env → Out VT} : opd (Tm.lset x0) e ρ = (e ρ).bind kD := Eq.trans rfl rfl
@[simp] theorem opd_idn {x0 x1 : Tm} {e : Env → Out VT} : opd (Tm.idn x0 x1) e ρ = (e ρ).bind kD := Eq.trans rfl rfl
@[simp] theorem part_lset {x0 : Tm} {e : Env → Out VT} : part (Tm.lset x0) e ρ = (e ρ).bind kPart := Eq.trans rfl rfl
@[simp] theorem part_idn {x0 x1 : Tm} {e : Env → Out VT} : part (Tm.idn x0 x1) e ρ = (e ρ).bind kPart := Eq.trans rfl rfl
@[simp] theorem i_rev {a : Tm} : (ev cl (.rev a)).i ρ = ((ev cl a).v ρ).bind kRev := Eq.trans rfl rfl
@[simp] theorem i_revr {a : Tm} : (ev cl (.revr a)).i ρ = ((ev cl a).v ρ).bind kRevr := Eq.trans rfl rfl
@[simp] theorem v_pop {i : Nat} : (ev cl (.pop i)).v ρ = popV i ρ := Eq.trans rfl rfl
@[simp] theorem s_kRev {v : VT} : kRev v ρ = opt? ((seqD v.d).map List.reverse) ρ := Eq.trans rfl rfl
theorem s_kRevr {v : VT} : kRevr v ρ = opt? ((rngN v.d).map List.reverse) ρ := rfl
@[simp] theorem s_kLrev {v : VT} : kLrev v ρ = ret? ((lisD v.d).map fun l => .fr l.reverse) ρ := Eq.trans rfl rfl
theorem s_kLrng {v : VT} : kLrng v ρ = ret? ((rngN v.d).map .fr) ρ := rfl
theorem s_kTrng {v : VT} : kTrng v ρ = ret? ((rngN v.d).map fun l => .pl (.tuple l)) ρ := rfl
@[simp] theorem s_kMnd {v : VT} : kMnd v ρ = ret? (mndV v.d) ρ := Eq.trans rfl rfl
@[simp] theorem v_lrev {a : Tm} : (ev cl (.lrev a)).v ρ = ((ev cl a).v ρ).bind kLrev := Eq.trans rfl rfl
@[simp] theorem v_rvl {a : Tm} : (ev cl (.rvl a)).v ρ = ((ev cl a).v ρ).bind kLrev := Eq.trans rfl rfl
@[simp] theorem v_lrng {a : Tm} : (ev cl (.lrng a)).v ρ = ((ev cl a).v ρ).bind kLrng := Eq.trans rfl rfl
@[simp] theorem v_trng {a : Tm} : (ev cl (.trng a)).v ρ = ((ev cl a).v ρ).bind kTrng := Eq.trans rfl rfl
@[simp] theorem v_mnd {a : Tm} : (ev cl (.mnd a)).v ρ = ((ev cl a).v ρ).bind kMnd := Eq.trans rfl rfl
@[simp] theorem tt_lrev {x0 : Tm} : (ev cl (Tm.lrev x0)).t ρ = ((ev cl (Tm.lrev x0)).v ρ).bind kTru := Eq.trans rfl rfl
@[simp] theorem i_lrev {x0 : Tm} : (ev cl (Tm.lrev x0)).i ρ = ((ev cl (Tm.lrev x0)).v ρ).bind kSeq := Eq.trans rfl rfl
@[simp] theorem opd_lrev {x0 : Tm} {e : Env → Out VT} : opd (Tm.lrev x0) e ρ = (e ρ).bind kD := Eq.trans rfl rfl
@[simp] theorem part_lrev {x0 : Tm} {e : Env → Out VT} : part (Tm.lrev x0) e ρ = (e ρ).bind kPart := Eq.trans rfl rfl
@[simp] theorem tt_rvl {x0 : Tm} : (ev cl (Tm.rvl x0)).t ρ = ((ev cl (Tm.rvl x0)).v ρ).bind kTru := Eq.trans rfl rfl
@[simp] theorem i_rvl {x0 : Tm} : (ev cl (Tm.rvl x0)).i ρ = ((ev cl (Tm.rvl x0)).v ρ).bind kSeq := Eq.trans rfl rfl
@[simp] theorem opd_rvl {x0 : Tm} {e : Env → Out VT} : opd (Tm.rvl x0) e ρ = (e ρ).bind kD := Eq.trans rfl rfl
@[simp] theorem part_rvl {x0 : Tm} {e : Env → Out VT} : part (Tm.rvl x0) e ρ = (e ρ).bind kPart := Eq.trans rfl rfl
@[simp] theorem tt_lrng {x0 : Tm} : (ev cl (Tm.lrng x0)).t ρ = ((ev cl (Tm.lrng x0)).v ρ).bind kTru := Eq.trans rfl rfl
@[simp] theorem i_lrng {x0 : Tm} : (ev cl (Tm.lrng x0)).i ρ = ((ev cl (Tm.lrng x0)).v ρ).bind kSeq := Eq.trans rfl rfl
@[simp] theorem opd_lrng {x0 : Tm} {e : Env → Out VT} : opd (Tm.lrng x0) e ρ = (e ρ).bind kD := Eq.trans rfl rfl
@[simp] theorem part_lrng {x0 : Tm} {e : Env → Out VT} : part (Tm.lrng x0) e ρ = (e ρ).bind kPart := Eq.trans rfl rfl
@[simp] theorem tt_trng {x0 : Tm} : (ev cl (Tm.trng x0)).t ρ = ((ev cl (Tm.trng x0)).v ρ).bind kTru := Eq.trans rfl rfl
@[simp] theorem i_trng {x0 : Tm} : (ev cl (Tm.trng x0)).i ρ = ((ev cl (Tm.trng x0)).v ρ).bind kSeq := Eq.trans rfl rfl
@[simp] theorem opd_trng {x0 : Tm} {e : Env → Out VT} : opd (Tm.trng x0) e ρ = (e ρ).bind kD := Eq.trans rfl rfl
@[simp] theorem part_trng {x0 : Tm} {e : Env → Out VT} : part (Tm.trng x0) e ρ = (e ρ).bind kPart := Eq.trans rfl rfl
@[simp] theorem tt_mnd {x0 : Tm} : (ev cl (Tm.mnd x0)).t ρ = ((ev cl (Tm.mnd x0)).v ρ).bind kTru := Eq.trans rfl rfl
@[simp] theorem i_mnd {x0 : Tm} : (ev cl (Tm.mnd x0)).i ρ = ((ev cl (Tm.mnd x0)).v ρ).bind kSeq := Eq.trans rfl rfl
@[simp] theorem opd_mnd {x0 : Tm} {e : Env → Out VT} : opd (Tm.mnd x0) e ρ = (e ρ).bind kD := Eq.trans rfl rfl
@[simp] theorem part_mnd {x0 : Tm} {e : Env → Out VT} : part (Tm.mnd x0) e ρ = (e ρ).bind kPart := Eq.trans rfl rfl
@[simp] theorem tt_pop {x0 : Nat} : (ev cl (Tm.pop x0)).t ρ = ((ev cl (Tm.pop x0)).v ρ).bind kTru := Eq.trans rfl rfl
@[simp] theorem opd_pop {x0 : Nat} {e : Env → Out VT} : opd (Tm.pop x0) e ρ = (e ρ).bind kD := Eq.trans rfl rfl
@[simp] theorem part_pop {x0 : Nat} {e : Env → Out VT} : part (Tm.pop x0) e ρ = (e ρ).bind kPart := Eq.trans rfl rfl
@[simp] theorem popV_s {i : Nat} : popV i ρ = (match ρ[i]? with | some (.ow ds) => (match ds.getLast? with | some d => .ok (.pl d) (ρ.set i (.ow ds.dropLast)) | none => .no) | some (.io ds) => (match ds.getLast? with | some d => .ok (.pl d) (ρ.set i (.io ds.dropLast)) | none => .no) | _ => .no) := Eq.trans rfl rfl
@[simp] theorem s_kLset {v : VT} : kLset v ρ = ret? (lsetV v.d) ρ := Eq.trans rfl rfl
@[simp] theorem s_kIdn1 {l : List D} {u : VT} : kIdn1 l u ρ = ret? ((idxD l u.d).map .pl) ρ := Eq.trans rfl rfl
@[simp] theorem s_kIdn2 {f : Env → Out VT} {l : List D} : kIdn2 f l ρ = (f ρ).bind (kIdn1 l) := Eq.trans rfl rfl
@[simp] theorem s_kIdn {f : Env → Out VT} {v : VT} : kIdn f v ρ = (opt? (lisD v.d) ρ).bind (kIdn2 f) := Eq.trans rfl rfl
@[simp] theorem lisD_s {l : List D} : lisD (.list l) = some l := Eq.trans rfl rfl
@[simp] theorem s_kTru {v : VT}  : kTru v ρ = opt? (tru v.d) ρ := Eq.trans rfl rfl
@[simp] theorem s_kSeq {v : VT}  : kSeq v ρ = opt? (seqD v.d) ρ := Eq.trans rfl rfl
@[simp] theorem s_kD {v : VT}  : kD v ρ = .ok (.d v.d) ρ := Eq.trans rfl rfl
@[simp] theorem s_kB1  {g : D → D → Option VT} {b : Tm} {x : Qv}  : kB1 cl g b x ρ = (opd b (ev cl b).v ρ).bind (fin2 g x) := Eq.trans rfl rfl
@[simp] theorem s_kNeg {x : VT}  : kNeg x ρ = ret? (negV x.d) ρ := Eq.trans rfl rfl
@[simp] theorem s_kNot1 {b : Bool}  : kNot1 b ρ = .ok (.pl (.bool (!b))) ρ := Eq.trans rfl rfl
@[simp] theorem s_kNot {q : Qv}  : kNot q ρ = (opt? ((rsv ρ q).bind tru) ρ).bind kNot1 := Eq.trans rfl rfl
@[simp] theorem s_kNotT {k : Bool}  : kNotT k ρ = .ok (!k) ρ := Eq.trans rfl rfl
@[simp] theorem s_kBoo {k : Bool}  : kBoo k ρ = .ok (.pl (.bool k)) ρ := Eq.trans rfl rfl
@[simp] theorem s_kC3 {o' : Co} {y : VT} {z : VT}  : kC3 o' y z ρ = opt? (cop o' y.d z.d) ρ := Eq.trans rfl rfl
@[simp] theorem s_kC2 {o' : Co} {h : Env → Out VT} {y : VT} {k : Bool}  : kC2 o' h y k ρ = if k then (h ρ).bind (kC3 o' y) else .ok false ρ := Eq.trans rfl rfl
@[simp] theorem s_kC1 {o o' : Co} {h : Env → Out VT} {x y : VT}  : kC1 o o' h x y ρ = (opt? (cop o x.d y.d) ρ).bind (kC2 o' h y) := Eq.trans rfl rfl
@[simp] theorem s_kC0 {o o' : Co} {g h : Env → Out VT} {x : VT}  : kC0 o o' g h x ρ = (g ρ).bind (kC1 o o' h x) := Eq.trans rfl rfl
@[simp] theorem s_kAnd1 {f : Env → Out VT} {k : Bool}  : kAnd1 f k ρ = if k then f ρ else .ok (.pl (.bool false)) ρ := Eq.trans rfl rfl
@[simp] theorem s_kAnd {f : Env → Out VT} {x : VT}  : kAnd f x ρ = (opt? (asBool x.d) ρ).bind (kAnd1 f) := Eq.trans rfl rfl
@[simp] theorem s_kAndT {f : Env → Out Bool} {k : Bool}  : kAndT f k ρ = if k then f ρ else .ok false ρ := Eq.trans rfl rfl
@[simp] theorem s_kOr1 {f : Env → Out VT} {k : Bool}  : kOr1 f k ρ = if k then .ok (.pl (.bool true)) ρ else f ρ := Eq.trans rfl rfl
@[simp] theorem s_kOr {f : Env → Out VT} {x : VT}  : kOr f x ρ = (opt? (asBool x.d) ρ).bind (kOr1 f) := Eq.trans rfl rfl
@[simp] theorem s_kOrT {f : Env → Out Bool} {k : Bool}  : kOrT f k ρ = if k then .ok true ρ else f ρ := Eq.trans rfl rfl
@[simp] theorem s_kIte {f g : Env → Out VT} {k : Bool}  : kIte f g k ρ = if k then f ρ else g ρ := Eq.trans rfl rfl
@[simp] theorem s_kTup {qs : List Qv}  : kTup qs ρ = ret? ((dvals qs).bind tupD) ρ := Eq.trans rfl rfl
@[simp] theorem s_kLst {qs : List Qv}  : kLst qs ρ = ret? ((dvals qs).bind lstD) ρ := Eq.trans rfl rfl
@[simp] theorem s_kCs1 {q : Qv} {qs : List Qv}  : kCs1 q qs ρ = .ok (q :: qs) ρ := Eq.trans rfl rfl
@[simp] theorem s_gIx {d e : D} : gIx d e = (ixD d e).map .pl := Eq.trans rfl rfl
@[simp] theorem s_kSl3 {x : Qv} {l h : Option Int} {d : D}  : kSl3 x l h d ρ = ret? (sliD d l h) ρ := Eq.trans rfl rfl
@[simp] theorem s_kSl2 {x : Qv} {l h : Option Int}  : kSl2 x l h ρ = (opt? (rsv ρ x) ρ).bind (kSl3 x l h) := Eq.trans rfl rfl
@[simp] theorem s_kSl1  {hi : Tm} {x : Qv} {l : Option Int}  : kSl1 cl hi x l ρ = (part hi (ev cl hi).v ρ).bind (kSl2 x l) := Eq.trans rfl rfl
@[simp] theorem s_kSl  {lo hi : Tm} {x : Qv}  : kSl cl lo hi x ρ = (part lo (ev cl lo).v ρ).bind (kSl1 cl hi x) := Eq.trans rfl rfl
@[simp] theorem s_kLc  {own : List Nat} {tg : Tg} {c e : Tm} {items : List D}  : kLc cl own tg c e items ρ = lcAll own (lcTurn tg (ev cl c).t (ev cl e).v) items ρ := Eq.trans rfl rfl
@[simp] theorem s_kLn  {own : List Nat} {tg : Tg} {c e : Tm} {items : List D}  : kLn cl own tg c e items ρ = noEr (lcAll own (lcTurn tg (ev cl c).t (ev cl e).v) items ρ) := Eq.trans rfl rfl
theorem s_kRng {qs : List Qv}  : kRng qs ρ = opt? ((rsvs ρ qs).bind rngD) ρ := rfl
@[simp] theorem s_kEnu {v : VT}  : kEnu v ρ = opt? ((seqD v.d).map (enumFrom 0)) ρ := Eq.trans rfl rfl
@[simp] theorem s_kZip1 {v u : VT}  : kZip1 v u ρ = opt? (zip2 v.d u.d) ρ := Eq.trans rfl rfl
@[simp] theorem s_kZip {f : Env → Out VT} {v : VT}  : kZip f v ρ = (f ρ).bind (kZip1 v) := Eq.trans rfl rfl
@[simp] theorem s_kPart {v : VT}  : kPart v ρ = opt? (optI v.d) ρ := Eq.trans rfl rfl
@[simp] theorem s_kCs {f : Env → Out (List Qv)} {q : Qv} : kCs f q ρ = (f ρ).bind (kCs1 q) := Eq.trans rfl rfl
@[simp] theorem tt_nl : (ev cl Tm.nl).t ρ = .ok true ρ := Eq.trans rfl rfl
@[simp] theorem s_nl : (ev cl Tm.nl).s ρ = .ok [] ρ := Eq.trans rfl rfl
@[simp] theorem part_nl {e : Env → Out VT} : part .nl e ρ = .ok none ρ := Eq.trans rfl rfl
@[simp] theorem opd_bor {i : Nat} {e : Env → Out VT} : opd (.bor i) e ρ = (match rsv ρ (.b i) with | some _ => .ok (.b i) ρ | none => .no) := Eq.trans rfl rfl
def fSet (i : Nat) (v : VT) (ρ : Env) : Fl := nx? (set1 i (.pl v.d) ρ)
def fOwn (i : Nat) (v : VT) (ρ : Env) : Fl := nx? (set1 i v.slot ρ)
def fUnp (tg : Tg) (v : VT) (ρ : Env) : Fl := nx? (asg tg v.d ρ)
def fExp (v : VT) (ρ : Env) : Fl := .nx ρ
def fApp (i : Nat) (v : VT) (ρ : Env) : Fl := nx? (chg i (appF v.d) ρ)
def fSti1 (i : Nat) (v j : VT) (ρ : Env) : Fl := nx? (chg i (stiF j.d v.d) ρ)
def fSti (i : Nat) (f : Env → Out VT) (v : VT) (ρ : Env) : Fl := if ownQ i ρ then (f ρ).fl (fSti1 i v) else .no
def fExt (i : Nat) (v : VT) (ρ : Env) : Fl := nx? (chg i (extF v) ρ)
def fAug (i : Nat) (o : Bo) (d : D) (v : VT) (ρ : Env) : Fl := nx? ((aop o d v.d).bind fun r => set1 i (.pl r) ρ)
def fAgi2 (i : Nat) (o : Bo) (j : VT) (x : D) (v : VT) (ρ : Env) : Fl := nx? ((aop o x v.d).bind fun r => chg i (stiF j.d r) ρ)
def fAgi1 (i : Nat) (o : Bo) (j : VT) (f : Env → Out VT) (x : D) (ρ : Env) : Fl := (f ρ).fl (fAgi2 i o j x)
def fAgi (i : Nat) (o : Bo) (f : Env → Out VT) (j : VT) (ρ : Env) : Fl := (opt? (itemQ i j.d ρ) ρ).fl (fAgi1 i o j f)
def fRet (v : VT) (ρ : Env) : Fl := .rt v ρ
def fIte (f g : Env → Fl) (k : Bool) (ρ : Env) : Fl := if k then f ρ else g ρ
def fFor (tg : Tg) (f : Env → Fl) (items : List D) (ρ : Env) : Fl := forLoop (forTurn tg f) items ρ
def fRai (nm : Str) (v : VT) (ρ : Env) : Fl := .er ⟨nm, v.d⟩ ρ
@[simp] theorem x_nop : ex cl .nop ρ = .nx ρ := Eq.trans rfl rfl
@[simp] theorem x_seq {a b : Sm} : ex cl (.seq a b) ρ = (ex cl a ρ).seq (ex cl b) := Eq.trans rfl rfl
@[simp] theorem x_set {i : Nat} {e : Tm} : ex cl (.set i e) ρ = ((ev cl e).v ρ).fl (fSet i) := Eq.trans rfl rfl
@[simp] theorem x_own {i : Nat} {e : Tm} : ex cl (.own i e) ρ = ((ev cl e).v ρ).fl (fOwn i) := Eq.trans rfl rfl
@[simp] theorem x_unp {tg : Tg} {e : Tm} : ex cl (.unp tg e) ρ = ((ev cl e).v ρ).fl (fUnp tg) := Eq.trans rfl rfl
@[simp] theorem x_exp {e : Tm} : ex cl (.exp e) ρ = ((ev cl e).v ρ).fl fExp := Eq.trans rfl rfl
@[simp] theorem x_app {i : Nat} {e : Tm} : ex cl (.app i e) ρ = if ownQ i ρ then ((ev cl e).v ρ).fl (fApp i) else .no := Eq.trans rfl rfl
@[simp] theorem x_sti {i : Nat} {k e : Tm} : ex cl (.sti i k e) ρ = ((ev cl e).v ρ).fl (fSti i (ev cl k).v) := Eq.trans rfl rfl
@[simp] theorem x_aug {i : Nat} {o : Bo} {e : Tm} : ex cl (.aug i o e) ρ = (match ρ[i]? with | some (.pl d) => ((ev cl e).v ρ).fl (fAug i o d) | _ => .no) := Eq.trans rfl rfl
@[simp] theorem x_ret {e : Tm} : ex cl (.ret e) ρ = ((ev cl e).v ρ).fl fRet := Eq.trans rfl rfl
@[simp] theorem x_retn : ex cl .retn ρ = .rt (.pl .none) ρ := Eq.trans rfl rfl
@[simp] theorem x_ite {c : Tm} {a b : Sm} : ex cl (.ite c a b) ρ = ((ev cl c).t ρ).fl (fIte (ex cl a) (ex cl b)) := Eq.trans rfl rfl
@[simp] theorem x_forr {tg : Tg} {it : Tm} {b : Sm} : ex cl (.forr tg it b) ρ = ((ev cl it).i ρ).fl (fFor tg (ex cl b)) := Eq.trans rfl rfl
@[simp] theorem x_whl {c : Tm} {b : Sm} : ex cl (.whl c b) ρ = whlLoop (ev cl c).t (ex cl b) FUEL ρ := Eq.trans rfl rfl
@[simp] theorem x_brk : ex cl .brk ρ = .bk ρ := Eq.trans rfl rfl
@[simp] theorem x_cnt : ex cl .cnt ρ = .ct ρ := Eq.trans rfl rfl
@[simp] theorem x_rais {nm : Str} {e : Tm} : ex cl (.rais nm e) ρ = ((ev cl e).v ρ).fl (fRai nm) := Eq.trans rfl rfl
@[simp] theorem x_agi {i : Nat} {k e : Tm} {o : Bo} : ex cl (.agi i k o e) ρ = if ownQ i ρ then ((ev cl k).v ρ).fl (fAgi i o (ev cl e).v) else .no := Eq.trans rfl rfl
@[simp] theorem x_ext {i : Nat} {e : Tm} : ex cl (.ext i e) ρ = if ownQ i ρ then ((ev cl e).v ρ).fl (fExt i) else .no := Eq.trans rfl rfl
@[simp] theorem x_rvs {i : Nat} : ex cl (.rvs i) ρ = nx? (chg i (fun ds => some ds.reverse) ρ) := Eq.trans rfl rfl
@[simp] theorem s_fExt {i : Nat} {v : VT} : fExt i v ρ = nx? (chg i (extF v) ρ) := Eq.trans rfl rfl
@[simp] theorem extF_fr {es ds : List D} : extF (.fr es) ds = if ds.length + es.length ≤ SZ then some (ds ++ es) else none := Eq.trans rfl rfl
theorem rev_n {n : Nat} (h : n ≤ 1000000) : kRevr (.pl (.int (n : Int))) ρ = .ok (intsFrom 0 n).reverse ρ := by
  have o : (ok62 (n : Int) && decide ((n : Int).toNat ≤ SZ)) = true := by
    rw [Bool.and_eq_true]
    unfold ok62
    rw [Bool.and_eq_true]
    exact ⟨⟨decide_eq_true (by omega), decide_eq_true (by omega)⟩, decide_eq_true (by simp [SZ]; omega)⟩
  show opt? ((if ok62 (n : Int) && decide ((n : Int).toNat ≤ SZ) then some (intsFrom 0 (n : Int).toNat) else none).map List.reverse) ρ = _
  rw [if_pos o, Int.toNat_natCast]
  rfl
theorem lrng_n {n : Nat} (h : n ≤ 1000000) : kLrng (.pl (.int (n : Int))) ρ = .ok (.fr (intsFrom 0 n)) ρ := by
  have o : (ok62 (n : Int) && decide ((n : Int).toNat ≤ SZ)) = true := by
    rw [Bool.and_eq_true]
    unfold ok62
    rw [Bool.and_eq_true]
    exact ⟨⟨decide_eq_true (by omega), decide_eq_true (by omega)⟩, decide_eq_true (by simp [SZ]; omega)⟩
  show ret? ((if ok62 (n : Int) && decide ((n : Int).toNat ≤ SZ) then some (intsFrom 0 (n : Int).toNat) else none).map .fr) ρ = _
  rw [if_pos o, Int.toNat_natCast]
  rfl
theorem trng_n {n : Nat} (h : n ≤ 1000000) : kTrng (.pl (.int (n : Int))) ρ = .ok (.pl (.tuple (intsFrom 0 n))) ρ := by
  have o : (ok62 (n : Int) && decide ((n : Int).toNat ≤ SZ)) = true := by
    rw [Bool.and_eq_true]
    unfold ok62
    rw [Bool.and_eq_true]
    exact ⟨⟨decide_eq_true (by omega), decide_eq_true (by omega)⟩, decide_eq_true (by simp [SZ]; omega)⟩
  show ret? ((if ok62 (n : Int) && decide ((n : Int).toNat ≤ SZ) then some (intsFrom 0 (n : Int).toNat) else none).map fun l => .pl (.tuple l)) ρ = _
  rw [if_pos o, Int.toNat_natCast]
  rfl
@[simp] theorem s_fAgi {i : Nat} {o : Bo} {f : Env → Out VT} {j : VT} : fAgi i o f j ρ = (opt? (itemQ i j.d ρ) ρ).fl (fAgi1 i o j f) := Eq.trans rfl rfl
@[simp] theorem s_fAgi1 {i : Nat} {o : Bo} {f : Env → Out VT} {j : VT} {x : D} : fAgi1 i o j f x ρ = (f ρ).fl (fAgi2 i o j x) := Eq.trans rfl rfl
@[simp] theorem s_fAgi2 {i : Nat} {o : Bo} {j v : VT} {x : D} : fAgi2 i o j x v ρ = nx? ((aop o x v.d).bind fun r => chg i (stiF j.d r) ρ) := Eq.trans rfl rfl
@[simp] theorem s_fSet {i : Nat} {v : VT}  : fSet i v ρ = nx? (set1 i (.pl v.d) ρ) := Eq.trans rfl rfl
@[simp] theorem s_fOwn {i : Nat} {v : VT}  : fOwn i v ρ = nx? (set1 i v.slot ρ) := Eq.trans rfl rfl
@[simp] theorem s_fUnp {tg : Tg} {v : VT}  : fUnp tg v ρ = nx? (asg tg v.d ρ) := Eq.trans rfl rfl
@[simp] theorem s_fExp {v : VT}  : fExp v ρ = .nx ρ := Eq.trans rfl rfl
@[simp] theorem s_fApp {i : Nat} {v : VT}  : fApp i v ρ = nx? (chg i (appF v.d) ρ) := Eq.trans rfl rfl
@[simp] theorem s_fSti1 {i : Nat} {v j : VT}  : fSti1 i v j ρ = nx? (chg i (stiF j.d v.d) ρ) := Eq.trans rfl rfl
@[simp] theorem s_fSti {i : Nat} {f : Env → Out VT} {v : VT}  : fSti i f v ρ = if ownQ i ρ then (f ρ).fl (fSti1 i v) else .no := Eq.trans rfl rfl
@[simp] theorem s_fAug {i : Nat} {o : Bo} {d : D} {v : VT}  : fAug i o d v ρ = nx? ((aop o d v.d).bind fun r => set1 i (.pl r) ρ) := Eq.trans rfl rfl
@[simp] theorem s_fRet {v : VT}  : fRet v ρ = .rt v ρ := Eq.trans rfl rfl
@[simp] theorem s_fIte {f g : Env → Fl} {k : Bool}  : fIte f g k ρ = if k then f ρ else g ρ := Eq.trans rfl rfl
@[simp] theorem s_fFor {tg : Tg} {f : Env → Fl} {items : List D}  : fFor tg f items ρ = forLoop (forTurn tg f) items ρ := Eq.trans rfl rfl
@[simp] theorem s_fRai {nm : Str} {v : VT}  : fRai nm v ρ = .er ⟨nm, v.d⟩ ρ := Eq.trans rfl rfl
end
section
variable {α β : Type} {cl : Nat → List Ar → Ret} {ρ : Env} {N B C : Env → Prop} {R : VT → Env → Prop}
@[simp] theorem bind_ok {α β : Type} {a : α} {f : α → Env → Out β} : (Out.ok a ρ).bind f = f a ρ := Eq.trans rfl rfl
@[simp] theorem bind_no {α β : Type} {f : α → Env → Out β} : (Out.no : Out α).bind f = .no := Eq.trans rfl rfl
@[simp] theorem bind_er {α β : Type} {x : Exn} {f : α → Env → Out β} : (Out.er x ρ : Out α).bind f = .er x ρ := Eq.trans rfl rfl
@[simp] theorem bind_if {α β : Type} {c : Prop} [Decidable c] {a b : Out α} {f : α → Env → Out β} : (if c then a else b).bind f = if c then a.bind f else b.bind f := by split <;> rfl
@[simp] theorem fl_ok {α : Type} {a : α} {f : α → Env → Fl} : (Out.ok a ρ).fl f = f a ρ := Eq.trans rfl rfl
@[simp] theorem fl_if {α : Type} {c : Prop} [Decidable c] {a b : Out α} {f : α → Env → Fl} : (if c then a else b).fl f = if c then a.fl f else b.fl f := by split <;> rfl
@[simp] theorem fl_er {α : Type} {x : Exn} {f : α → Env → Fl} : (Out.er x ρ : Out α).fl f = .er x ρ := Eq.trans rfl rfl
@[simp] theorem seq_nx {f : Env → Fl} : (Fl.nx ρ).seq f = f ρ := Eq.trans rfl rfl
@[simp] theorem seq_rt {v : VT} {f : Env → Fl} : (Fl.rt v ρ).seq f = .rt v ρ := Eq.trans rfl rfl
@[simp] theorem seq_er {x : Exn} {f : Env → Fl} : (Fl.er x ρ).seq f = .er x ρ := Eq.trans rfl rfl
@[simp] theorem seq_ct {f : Env → Fl} : (Fl.ct ρ).seq f = .ct ρ := Eq.trans rfl rfl
@[simp] theorem seq_bk {f : Env → Fl} : (Fl.bk ρ).seq f = .bk ρ := Eq.trans rfl rfl
@[simp] theorem seq_if {c : Prop} [Decidable c] {a b : Fl} {f : Env → Fl} : (if c then a else b).seq f = if c then a.seq f else b.seq f := by split <;> rfl
@[simp] theorem done_nx {is : List Nat} : (Fl.nx ρ).done is = (match outs ρ is with | some o => .ok (.pl .none) o | none => .no) := Eq.trans rfl rfl
@[simp] theorem done_rt {v : VT} {is : List Nat} : (Fl.rt v ρ).done is = (match outs ρ is with | some o => .ok v o | none => .no) := Eq.trans rfl rfl
@[simp] theorem done_er {x : Exn} {is : List Nat} : (Fl.er x ρ).done is = (match outs ρ is with | some o => .er x o | none => .no) := Eq.trans rfl rfl
@[simp] theorem done_if {c : Prop} [Decidable c] {a b : Fl} {is : List Nat} : (if c then a else b).done is = if c then a.done is else b.done is := by split <;> rfl
@[simp] theorem outs_nil : outs ρ [] = some [] := Eq.trans rfl rfl
@[simp] theorem outs_cons {i : Nat} {is : List Nat} : outs ρ (i :: is) = (match ρ[i]?, outs ρ is with | some (.io ds), some r => some (ds :: r) | _, _ => none) := Eq.trans rfl rfl
@[simp] theorem rdVar_s {i : Nat} : rdVar i ρ = (match ρ[i]? with | some (.pl d) => .ok (.pl d) ρ | some (.ow ds) => .ok (.pl (.list ds)) (ρ.set i (.pl (.list ds))) | _ => .no) := Eq.trans rfl rfl
@[simp] theorem mvVar_s {i : Nat} : mvVar i ρ = (match ρ[i]? with | some (.pl d) => .ok (.pl d) ρ | some (.ow ds) => .ok (.fr ds) (ρ.set i .em) | _ => .no) := Eq.trans rfl rfl
@[simp] theorem rsv_d {d : D} : rsv ρ (.d d) = some d := Eq.trans rfl rfl
@[simp] theorem rsv_b {i : Nat} : rsv ρ (.b i) = (match ρ[i]? with | some (.pl d) => some d | some (.ow ds) => some (.list ds) | some (.io ds) => some (.list ds) | _ => none) := Eq.trans rfl rfl
@[simp] theorem itemQ_s {i : Nat} {k : Int} : itemQ i (.int k) ρ = (match ρ[i]? with | some (.ow ds) => atI ds k | some (.io ds) => atI ds k | _ => none) := by
  unfold itemQ
  cases ρ[i]? with
  | none => rfl
  | some t => cases t <;> rfl
@[simp] theorem bdvm_s {i j : Int} : bfn .divmod [.int i, .int j] = if 0 < j ∧ j < 1073741824 then some (.pl (.tuple [.int (i / j), .int (i % j)])) else none := Eq.trans rfl rfl
@[simp] theorem rsvs_nil : rsvs ρ [] = some [] := Eq.trans rfl rfl
@[simp] theorem rsvs_cons {q : Qv} {r : List Qv} : rsvs ρ (q :: r) = (match rsv ρ q, rsvs ρ r with | some d, some l => some (d :: l) | _, _ => none) := Eq.trans rfl rfl
@[simp] theorem fin2_s {f : D → D → Option VT} {x y : Qv} : fin2 f x y ρ = (match rsv ρ x, rsv ρ y with | some d, some e => ret? (f d e) ρ | _, _ => .no) := Eq.trans rfl rfl
@[simp] theorem finS_s {f : List D → Option VT} {qs : List Qv} : finS f qs ρ = (match rsvs ρ qs with | some l => ret? (f l) ρ | none => .no) := Eq.trans rfl rfl
@[simp] theorem ret_some {v : VT} : ret? (some v) ρ = .ok v ρ := Eq.trans rfl rfl
@[simp] theorem ret_none : ret? none ρ = .no := Eq.trans rfl rfl
@[simp] theorem opt_some {α : Type} {a : α} : opt? (some a) ρ = .ok a ρ := Eq.trans rfl rfl
@[simp] theorem opt_none {α : Type} : opt? (none : Option α) ρ = .no := Eq.trans rfl rfl
@[simp] theorem nx_some : nx? (some ρ) = .nx ρ := Eq.trans rfl rfl
@[simp] theorem nx_none : nx? none = .no := Eq.trans rfl rfl
@[simp] theorem set1_s {i : Nat} {s : Slot} : set1 i s ρ = (match ρ[i]? with | some x => if x.st then some (ρ.set i s) else none | none => none) := by
  unfold set1
  cases ρ[i]? with
  | none => rfl
  | some x => cases x <;> rfl
@[simp] theorem asg_nm {i : Nat} {d : D} : asg (.nm i) d ρ = set1 i (.pl d) ρ := Eq.trans rfl rfl
@[simp] theorem asg_tp {ts : Tg} {l : List D} : asg (.tp ts) (.tuple l) ρ = asg.asgs ts l ρ := Eq.trans rfl rfl
@[simp] theorem asg_tpl {ts : Tg} {l : List D} : asg (.tp ts) (.list l) ρ = asg.asgs ts l ρ := Eq.trans rfl rfl
@[simp] theorem asgs_nil : asg.asgs .nl [] ρ = some ρ := Eq.trans rfl rfl
@[simp] theorem asgs_cons {t ts : Tg} {d : D} {l : List D} : asg.asgs (.cs t ts) (d :: l) ρ = (asg t d ρ).bind fun ρ => asg.asgs ts l ρ := Eq.trans rfl rfl
@[simp] theorem forTurn_s {tg : Tg} {b : Env → Fl} {d : D} : forTurn tg b d ρ = (match asg tg d ρ with | some ρ => b ρ | none => .no) := Eq.trans rfl rfl
@[simp] theorem lcTurn_s {tg : Tg} {c : Env → Out Bool} {e : Env → Out VT} {d : D} : lcTurn tg c e d ρ = (match asg tg d ρ with | none => .no | some ρ => (c ρ).bind fun k ρ => if k then (e ρ).bind fun v ρ => .ok (some v.d) ρ else .ok none ρ) := Eq.trans rfl rfl
@[simp] theorem d_pl {d : D} : (VT.pl d).d = d := Eq.trans rfl rfl
@[simp] theorem d_fr {l : List D} : (VT.fr l).d = .list l := Eq.trans rfl rfl
@[simp] theorem slot_pl {d : D} : (VT.pl d).slot = .pl d := Eq.trans rfl rfl
@[simp] theorem slot_fr {l : List D} : (VT.fr l).slot = .ow l := Eq.trans rfl rfl
@[simp] theorem arslot_pl {d : D} : (Ar.pl d).slot = .pl d := Eq.trans rfl rfl
@[simp] theorem arslot_io {l : List D} : (Ar.io l).slot = .io l := Eq.trans rfl rfl
@[simp] theorem ioPos_nil {k : Nat} : ioPos k [] = [] := Eq.trans rfl rfl
@[simp] theorem ioPos_io {k : Nat} {l : List D} {r : List Ar} : ioPos k (.io l :: r) = k :: ioPos (k + 1) r := Eq.trans rfl rfl
@[simp] theorem ioPos_pl {k : Nat} {d : D} {r : List Ar} : ioPos k (.pl d :: r) = ioPos (k + 1) r := Eq.trans rfl rfl
@[simp] theorem add_int {i j : Int} : bop .add (.int i) (.int j) = some (.pl (.int (i + j))) := Eq.trans rfl rfl
@[simp] theorem sub_int {i j : Int} : bop .sub (.int i) (.int j) = some (.pl (.int (i - j))) := Eq.trans rfl rfl
@[simp] theorem mul_int {i j : Int} : bop .mul (.int i) (.int j) = if mulOk i j then some (.pl (.int (i * j))) else none := Eq.trans rfl rfl
@[simp] theorem shl_int {i j : Int} : bop .shl (.int i) (.int j) = if 0 ≤ j ∧ j ≤ 1000000 ∧ i.natAbs < 2 ^ 64 then some (.pl (.int (i * 2 ^ j.toNat))) else none := Eq.trans rfl rfl
@[simp] theorem shr_int {i j : Int} : bop .shr (.int i) (.int j) = if 0 ≤ j then some (.pl (.int (i / 2 ^ j.toNat))) else none := Eq.trans rfl rfl
@[simp] theorem band_int {i j : Int} : bop .band (.int i) (.int j) = some (.pl (.int (PySem.Builtin.bitAnd i j))) := Eq.trans rfl rfl
@[simp] theorem bor_int {i j : Int} : bop .bor (.int i) (.int j) = some (.pl (.int (PySem.Builtin.bitOr i j))) := Eq.trans rfl rfl
@[simp] theorem mod_int {i j : Int} : bop .mod (.int i) (.int j) = if j ≠ 0 then some (.pl (.int (i.fmod j))) else none := Eq.trans rfl rfl
@[simp] theorem fdiv_int {i j : Int} : bop .fdiv (.int i) (.int j) = if j ≠ 0 ∧ j.natAbs < 1073741824 then some (.pl (.int (i.fdiv j))) else none := Eq.trans rfl rfl
@[simp] theorem add_lst {x y : List D} : bop .add (.list x) (.list y) = if x.length + y.length ≤ SZ then some (.fr (x ++ y)) else none := Eq.trans rfl rfl
@[simp] theorem add_tup {x y : List D} : bop .add (.tuple x) (.tuple y) = if x.length + y.length ≤ SZ then some (.pl (.tuple (x ++ y))) else none := Eq.trans rfl rfl
@[simp] theorem cval_s {o : Co} {d e : D} : cval o d e = (cop o d e).map fun b => .pl (.bool b) := Eq.trans rfl rfl
@[simp] theorem lt_int {i j : Int} : cop .lt (.int i) (.int j) = some (decide (i < j)) := Eq.trans rfl rfl
@[simp] theorem le_int {i j : Int} : cop .le (.int i) (.int j) = some (decide (i ≤ j)) := Eq.trans rfl rfl
@[simp] theorem gt_int {i j : Int} : cop .gt (.int i) (.int j) = some (decide (j < i)) := Eq.trans rfl rfl
@[simp] theorem ge_int {i j : Int} : cop .ge (.int i) (.int j) = some (decide (j ≤ i)) := Eq.trans rfl rfl
@[simp] theorem isn_s {d : D} : cop .isn d .none = some (isNone d) := Eq.trans rfl rfl
@[simp] theorem notn_s {d : D} : cop .notn d .none = some (!isNone d) := Eq.trans rfl rfl
@[simp] theorem isNone_none : isNone .none = true := Eq.trans rfl rfl
@[simp] theorem isNone_int {i : Int} : isNone (.int i) = false := Eq.trans rfl rfl
@[simp] theorem isNone_bool {i : Bool} : isNone (.bool i) = false := Eq.trans rfl rfl
@[simp] theorem isNone_tup {l : List D} : isNone (.tuple l) = false := Eq.trans rfl rfl
@[simp] theorem isNone_lst {l : List D} : isNone (.list l) = false := Eq.trans rfl rfl
@[simp] theorem tru_bool {b : Bool} : tru (.bool b) = some b := Eq.trans rfl rfl
@[simp] theorem tru_int {i : Int} : tru (.int i) = some (i != 0) := Eq.trans rfl rfl
@[simp] theorem asBool_s {b : Bool} : asBool (.bool b) = some b := Eq.trans rfl rfl
@[simp] theorem eq_int {i j : Int} : cop .eq (.int i) (.int j) = some (decide (i = j)) := by
  show some (PyData.eqv (.int i) (.int j)) = _
  congr 1
@[simp] theorem ne_int {i j : Int} : cop .ne (.int i) (.int j) = some (!decide (i = j)) := by
  show some (!PyData.eqv (.int i) (.int j)) = _
  congr 1
@[simp] theorem eq_bool {i j : Bool} : cop .eq (.bool i) (.bool j) = some (i == j) := by cases i <;> cases j <;> rfl
theorem eq_self_str {x : Str} (h : PySem.SeqAt.shaped (.str x) = true) : cop .eq (.str x) (.str x) = some true := by
  show (if PySem.SeqAt.shaped (.str x) && PySem.SeqAt.shaped (.str x) then some (PyData.eqv (.str x) (.str x)) else none) = _
  rw [h]
  simp [PyData.eqv]
theorem rng1 {n : Nat} (h : n ≤ 1000000) : rngD [.int (n : Int)] = some (intsFrom 0 n) := by
  show (if ok62 (n : Int) then some (intsFrom 0 (n : Int).toNat) else none) = _
  have o : ok62 (n : Int) = true := by
    unfold ok62
    rw [Bool.and_eq_true]
    exact ⟨decide_eq_true (by omega), decide_eq_true (by omega)⟩
  rw [o, Int.toNat_natCast]
  rfl
theorem ok62_in {i : Int} (h : -1000000 ≤ i ∧ i ≤ 1000000) : ok62 i = true := by
  unfold ok62
  rw [Bool.and_eq_true]
  exact ⟨decide_eq_true (by omega), decide_eq_true (by omega)⟩
theorem rng_1 {ρ : Env} {j : Int} (h : -1000000 ≤ j ∧ j ≤ 1000000) : kRng [.d (.int j)] ρ = .ok (intsFrom 0 j.toNat) ρ := by
  have o := ok62_in h
  show opt? (if ok62 j then some (intsFrom 0 j.toNat) else none) ρ = _
  rw [o]
  rfl
theorem rng_n {ρ : Env} {n : Nat} (h : n ≤ 1000000) : kRng [.d (.int (n : Int))] ρ = .ok (intsFrom 0 n) ρ := by
  rw [rng_1 ⟨by omega, by omega⟩, Int.toNat_natCast]
theorem rng_2 {ρ : Env} {i j : Int} (h : -1000000 ≤ i ∧ i ≤ 1000000) (h2 : -1000000 ≤ j ∧ j ≤ 1000000) : kRng [.d (.int i), .d (.int j)] ρ = .ok (intsFrom i (j - i).toNat) ρ := by
  have o := ok62_in h
  have o2 := ok62_in h2
  show opt? (if ok62 i && ok62 j then some (intsFrom i (j - i).toNat) else none) ρ = _
  rw [o, o2]
  rfl
@[simp] theorem blen_lst {l : List D} : bfn .len [.list l] = some (.pl (.int l.length)) := Eq.trans rfl rfl
@[simp] theorem blen_tup {l : List D} : bfn .len [.tuple l] = some (.pl (.int l.length)) := Eq.trans rfl rfl
@[simp] theorem btup_lst {l : List D} : bfn .tuple [.list l] = some (.pl (.tuple l)) := Eq.trans rfl rfl
@[simp] theorem btup_tup {l : List D} : bfn .tuple [.tuple l] = some (.pl (.tuple l)) := Eq.trans rfl rfl
@[simp] theorem blst_lst {l : List D} : bfn .list [.list l] = some (.fr l) := Eq.trans rfl rfl
@[simp] theorem blst_tup {l : List D} : bfn .list [.tuple l] = some (.fr l) := Eq.trans rfl rfl
@[simp] theorem bint_s {i : Int} : bfn .int [.int i] = some (.pl (.int i)) := Eq.trans rfl rfl
@[simp] theorem bmin_s {i j : Int} : bfn .min [.int i, .int j] = some (.pl (.int (if j < i then j else i))) := Eq.trans rfl rfl
@[simp] theorem bmax_s {i j : Int} : bfn .max [.int i, .int j] = some (.pl (.int (if j > i then j else i))) := Eq.trans rfl rfl
@[simp] theorem bmaxT2 {i j : Int} : bfn .max [.tuple [.int i, .int j]] = some (.pl (.int (if i < j then j else i))) := Eq.trans rfl rfl
@[simp] theorem ball_s {l : List D} : bfn .all [.list l] = (boolsD l).map fun l => .pl (.bool (l.all id)) := Eq.trans rfl rfl
@[simp] theorem isi_int {t : Ty} {i : Int} : bfn (.isi t) [.int i] = some (.pl (.bool (isTy t (.int i)))) := by cases t <;> rfl
@[simp] theorem isi_bool {t : Ty} {i : Bool} : bfn (.isi t) [.bool i] = some (.pl (.bool (isTy t (.bool i)))) := by cases t <;> rfl
@[simp] theorem isi_none {t : Ty} : bfn (.isi t) [.none] = some (.pl (.bool (isTy t .none))) := by cases t <;> rfl
@[simp] theorem isi_tup {t : Ty} {l : List D} : bfn (.isi t) [.tuple l] = some (.pl (.bool (isTy t (.tuple l)))) := by cases t <;> rfl
@[simp] theorem isi_lst {t : Ty} {l : List D} : bfn (.isi t) [.list l] = some (.pl (.bool (isTy t (.list l)))) := by cases t <;> rfl
@[simp] theorem dvals_nil : dvals [] = some [] := Eq.trans rfl rfl
@[simp] theorem dvals_cons {d : D} {r : List Qv} : dvals (.d d :: r) = (dvals r).map fun l => d :: l := Eq.trans rfl rfl
@[simp] theorem tupD_s {l : List D} : tupD l = if l.length ≤ 1000 then some (.pl (.tuple l)) else none := Eq.trans rfl rfl
@[simp] theorem lstD_s {l : List D} : lstD l = if l.length ≤ 1000 then some (.fr l) else none := Eq.trans rfl rfl
@[simp] theorem seqD_lst {l : List D} : seqD (.list l) = some l := Eq.trans rfl rfl
@[simp] theorem seqD_tup {l : List D} : seqD (.tuple l) = some l := Eq.trans rfl rfl
@[simp] theorem optI_s {i : Int} : optI (.int i) = some (some i) := Eq.trans rfl rfl
@[simp] theorem argOf_d {d : D} : argOf ρ (.d d) = some (.pl d) := Eq.trans rfl rfl
@[simp] theorem argOf_b {i : Nat} : argOf ρ (.b i) = (rsv ρ (.b i)).map .pl := Eq.trans rfl rfl
@[simp] theorem argOf_io {i : Nat} : argOf ρ (.io i) = (match ρ[i]? with | some (.ow ds) => some (.io ds) | some (.io ds) => some (.io ds) | _ => none) := Eq.trans rfl rfl
@[simp] theorem argsOf_nil : argsOf ρ [] = some [] := Eq.trans rfl rfl
@[simp] theorem argsOf_cons {q : Qv} {r : List Qv} : argsOf ρ (q :: r) = (match argOf ρ q, argsOf ρ r with | some d, some l => some (d :: l) | _, _ => none) := Eq.trans rfl rfl
@[simp] theorem ioOk_s {α : Type} {i : Nat} {o : Out α} : ioOk i ρ o = (match ρ[i]? with | some (.ow _) => o | some (.io _) => o | _ => .no) := Eq.trans rfl rfl
@[simp] theorem ioIx_nil : ioIx [] = [] := Eq.trans rfl rfl
@[simp] theorem ioIx_d {d : D} {r : List Qv} : ioIx (.d d :: r) = ioIx r := Eq.trans rfl rfl
@[simp] theorem ioIx_b {i : Nat} {r : List Qv} : ioIx (.b i :: r) = ioIx r := Eq.trans rfl rfl
@[simp] theorem ioIx_io {i : Nat} {r : List Qv} : ioIx (.io i :: r) = i :: ioIx r := Eq.trans rfl rfl
@[simp] theorem borIx_nil : borIx [] = [] := Eq.trans rfl rfl
@[simp] theorem borIx_d {d : D} {r : List Qv} : borIx (.d d :: r) = borIx r := Eq.trans rfl rfl
@[simp] theorem borIx_b {i : Nat} {r : List Qv} : borIx (.b i :: r) = i :: borIx r := Eq.trans rfl rfl
@[simp] theorem borIx_io {i : Nat} {r : List Qv} : borIx (.io i :: r) = borIx r := Eq.trans rfl rfl
@[simp] theorem distinct_nil : distinct [] = true := Eq.trans rfl rfl
@[simp] theorem distinct_one {i : Nat} : distinct [i] = true := by simp [distinct]
@[simp] theorem lentOk_nil {v : VT} {o : List (List D)} : lentOk [] v o = true := Eq.trans rfl rfl
@[simp] theorem putOuts_nil : putOuts [] [] ρ = some ρ := Eq.trans rfl rfl
@[simp] theorem putOuts_cons {i : Nat} {is : List Nat} {ds : List D} {r : List (List D)} : putOuts (i :: is) (ds :: r) ρ = (match ρ[i]? with | some (.ow _) => some (ρ.set i (.ow ds)) | some (.io _) => some (ρ.set i (.io ds)) | _ => none).bind fun ρ => putOuts is r ρ := Eq.trans rfl rfl
@[simp] theorem callq_s {f : Nat} {qs : List Qv} : callq cl f qs ρ = (match argsOf ρ qs with
  | none => .no
  | some as => if distinct (ioIx qs) && (borIx qs).all (fun i => !(ioIx qs).contains i) then
      match cl f as with
      | .ok v outs => if lentOk (borIx qs) v outs then (match putOuts (ioIx qs) outs ρ with
        | some ρ' => .ok v ρ'
        | none => .no) else .no
      | .er x outs => if lentOk (borIx qs) (.pl x.d) outs then (match putOuts (ioIx qs) outs ρ with
        | some ρ' => .er x ρ'
        | none => .no) else .no
      | .no => .no
    else .no) := Eq.trans rfl rfl
@[simp] theorem ownQ_s {i : Nat} : ownQ i ρ = (match ρ[i]? with | some (.ow _) => true | some (.io _) => true | _ => false) := Eq.trans rfl rfl
@[simp] theorem chg_s {i : Nat} {f : List D → Option (List D)} : chg i f ρ = (match ρ[i]? with | some (.ow ds) => (f ds).map fun es => ρ.set i (.ow es) | some (.io ds) => (f ds).map fun es => ρ.set i (.io es) | _ => none) := Eq.trans rfl rfl
@[simp] theorem stiF_s {j : Int} {v : D} {ds : List D} : stiF (.int j) v ds = (ixN ds.length j).map fun n => ds.set n v := Eq.trans rfl rfl
@[simp] theorem appF_s {v : D} {ds : List D} : appF v ds = if ds.length < SZ then some (ds ++ [v]) else none := Eq.trans rfl rfl
@[simp] theorem ixD_lst {l : List D} {i : Int} : ixD (.list l) (.int i) = atI l i := Eq.trans rfl rfl
@[simp] theorem ixD_tup {l : List D} {i : Int} : ixD (.tuple l) (.int i) = atI l i := Eq.trans rfl rfl
theorem atI_nat {α : Type} {l : List α} {i : Nat} (h : i < l.length) : atI l (i : Int) = l[i]? := by
  unfold atI ixN
  rw [if_pos (Int.natCast_nonneg i), if_pos (by omega)]
  simp
theorem call_s {Γ : List Df} {n f : Nat} {df : Df} {as : List Ar} (h : Γ[f]? = some df) : call Γ (n + 1) f as = runDef df (call Γ n) as := by
  show (match Γ[f]? with | some df => runDef df (call Γ n) as | none => .no) = _
  rw [h]
end
end Sw

end
section
set_option maxRecDepth 100000
set_option maxHeartbeats 4000000
namespace Sw
open PySem (PyData Str)
def Tm.ren (σ : Nat → Nat) : Tm → Tm
  | .var i => .var i | .mov i => .mov i | .bor i => .bor i | .cst d => .cst d | .glb x d => .glb x d
  | .bin o a b => .bin o (a.ren σ) (b.ren σ) | .neg a => .neg (a.ren σ) | .not a => .not (a.ren σ)
  | .cmp o a b => .cmp o (a.ren σ) (b.ren σ) | .chn o o' a b c => .chn o o' (a.ren σ) (b.ren σ) (c.ren σ)
  | .and a b => .and (a.ren σ) (b.ren σ) | .or a b => .or (a.ren σ) (b.ren σ) | .ite c a b => .ite (c.ren σ) (a.ren σ) (b.ren σ)
  | .tup es => .tup (es.ren σ) | .lst es => .lst (es.ren σ) | .nl => .nl | .cs e es => .cs (e.ren σ) (es.ren σ) | .io i es => .io i (es.ren σ)
  | .idx a b => .idx (a.ren σ) (b.ren σ) | .sli a lo hi => .sli (a.ren σ) (lo.ren σ) (hi.ren σ)
  | .cal f es => .cal (σ f) (es.ren σ) | .blt f es => .blt f (es.ren σ)
  | .lcp own tg it c e => .lcp own tg (it.ren σ) (c.ren σ) (e.ren σ)
  | .lcn own tg it c e => .lcn own tg (it.ren σ) (c.ren σ) (e.ren σ)
  | .rng es => .rng (es.ren σ) | .enu a => .enu (a.ren σ) | .zip a b => .zip (a.ren σ) (b.ren σ) | .tol e => .tol (e.ren σ)
  | .sset own tg it c e => .sset own tg (it.ren σ) (c.ren σ) (e.ren σ)
  | .lset a => .lset (a.ren σ) | .idn a b => .idn (a.ren σ) (b.ren σ)
  | .rev a => .rev (a.ren σ) | .revr a => .revr (a.ren σ) | .lrev a => .lrev (a.ren σ) | .rvl a => .rvl (a.ren σ) | .lrng a => .lrng (a.ren σ) | .trng a => .trng (a.ren σ) | .mnd a => .mnd (a.ren σ) | .pop i => .pop i
def Sm.ren (σ : Nat → Nat) : Sm → Sm
  | .nop => .nop | .seq a b => .seq (a.ren σ) (b.ren σ) | .set i e => .set i (e.ren σ) | .own i e => .own i (e.ren σ) | .unp tg e => .unp tg (e.ren σ) | .exp e => .exp (e.ren σ)
  | .app i e => .app i (e.ren σ) | .sti i k e => .sti i (k.ren σ) (e.ren σ) | .aug i o e => .aug i o (e.ren σ)
  | .ret e => .ret (e.ren σ) | .retn => .retn | .ite c a b => .ite (c.ren σ) (a.ren σ) (b.ren σ) | .forr tg it b => .forr tg (it.ren σ) (b.ren σ) | .whl c b => .whl (c.ren σ) (b.ren σ)
  | .brk => .brk | .cnt => .cnt | .rais nm e => .rais nm (e.ren σ) | .agi i k o e => .agi i (k.ren σ) o (e.ren σ)
  | .ext i e => .ext i (e.ren σ) | .rvs i => .rvs i
def Tm.cok (p : Nat → Bool) : Tm → Bool
  | .var _ => true | .mov _ => true | .bor _ => true | .cst _ => true | .glb _ _ => true
  | .bin _ a b => a.cok p && b.cok p | .neg a => a.cok p | .not a => a.cok p
  | .cmp _ a b => a.cok p && b.cok p | .chn _ _ a b c => a.cok p && b.cok p && c.cok p
  | .and a b => a.cok p && b.cok p | .or a b => a.cok p && b.cok p | .ite c a b => c.cok p && a.cok p && b.cok p
  | .tup es => es.cok p | .lst es => es.cok p | .nl => true | .cs e es => e.cok p && es.cok p | .io _ es => es.cok p
  | .idx a b => a.cok p && b.cok p | .sli a lo hi => a.cok p && lo.cok p && hi.cok p
  | .cal f es => p f && es.cok p | .blt _ es => es.cok p
  | .lcp _ _ it c e => it.cok p && c.cok p && e.cok p
  | .lcn _ _ it c e => it.cok p && c.cok p && e.cok p
  | .rng es => es.cok p | .enu a => a.cok p | .zip a b => a.cok p && b.cok p | .tol e => e.cok p
  | .sset _ _ it c e => it.cok p && c.cok p && e.cok p
  | .lset a => a.cok p | .idn a b => a.cok p && b.cok p
  | .rev a => a.cok p | .revr a => a.cok p | .lrev a => a.cok p | .rvl a => a.cok p | .lrng a => a.cok p | .trng a => a.cok p | .mnd a => a.cok p | .pop _ => true
def Sm.cok (p : Nat → Bool) : Sm → Bool
  | .nop => true | .seq a b => a.cok p && b.cok p | .set _ e => e.cok p | .own _ e => e.cok p | .unp _ e => e.cok p | .exp e => e.cok p
  | .app _ e => e.cok p | .sti _ k e => k.cok p && e.cok p | .aug _ _ e => e.cok p
  | .ret e => e.cok p | .retn => true | .ite c a b => c.cok p && a.cok p && b.cok p | .forr _ it b => it.cok p && b.cok p | .whl c b => c.cok p && b.cok p
  | .brk => true | .cnt => true | .rais _ e => e.cok p | .agi _ k _ e => k.cok p && e.cok p
  | .ext _ e => e.cok p | .rvs _ => true
theorem opd_ren {σ : Nat → Nat} (a : Tm) (e : Env → Out VT) : opd (a.ren σ) e = opd a e := by cases a <;> rfl
theorem part_ren {σ : Nat → Nat} (a : Tm) (e : Env → Out VT) : part (a.ren σ) e = part a e := by cases a <;> rfl
section
variable {cl1 cl2 : Nat → List Ar → Ret} {σ : Nat → Nat} {p : Nat → Bool}
theorem ev_ren (h : ∀ c, p c = true → cl1 (σ c) = cl2 c) : ∀ t : Tm, t.cok p = true → ev cl1 (t.ren σ) = ev cl2 t := by
  intro t
  induction t with
  | cal f es ih =>
    intro q
    obtain ⟨q1, q2⟩ := Bool.and_eq_true_iff.mp q
    have e1 : ∀ qs ρ, callq cl1 (σ f) qs ρ = callq cl2 f qs ρ := fun qs ρ => by unfold callq; rw [h f q1]
    simp only [Tm.ren, ev, ih q2, e1]
  | _ =>
    intro q
    simp only [Tm.cok, Bool.and_eq_true] at q
    simp_all only [Tm.ren, ev, opd_ren, part_ren]
theorem ex_ren (h : ∀ c, p c = true → cl1 (σ c) = cl2 c) : ∀ s : Sm, s.cok p = true → ex cl1 (s.ren σ) = ex cl2 s := by
  intro s
  induction s with
  | _ =>
    intro q
    simp only [Sm.cok, Bool.and_eq_true] at q
    funext ρ
    simp_all only [Sm.ren, ex, ev_ren h]
end
def pos : List (Nat × Str) → Nat → Nat
  | [], _ => 0
  | p :: r, c => if p.1 == c then 0 else pos r c + 1
def hasId (ids : List (Nat × Str)) (c : Nat) : Bool := match ids[pos ids c]? with
  | some p => p.1 == c
  | none => false
def Df.ren (σ : Nat → Nat) (nm : Str) (d : Df) : Df := ⟨nm, d.ps, d.io, d.N, d.body.ren σ⟩
def zeroDf : Df := ⟨"", [], [], [], .nop⟩
def gAt (G : List Df) (k : Nat) : Df := (G[k]?).getD zeroDf
def local_ (G : List Df) (ids : List (Nat × Str)) : List Df := ids.map fun p => (gAt G p.1).ren (pos ids) p.2
def at_ (G : List Df) (ids : List (Nat × Str)) (k : Nat) : Df := match ids[k]? with
  | some p => (gAt G p.1).ren (pos ids) p.2
  | none => zeroDf
def localB (G : List Df) (ids : List (Nat × Str)) : Bool := ids.all fun p => decide (p.1 < G.length) && (gAt G p.1).body.cok (hasId ids)
theorem local_ok {G : List Df} {ids : List (Nat × Str)} (hc : localB G ids = true) : ∀ (n k : Nat) (as : List Ar) (id : Nat), (ids[k]?).map (·.1) = some id → call (local_ G ids) n k as = call G n id as := by
  intro n
  induction n with
  | zero => intro k as id h; rfl
  | succ n ih =>
    intro k as id h
    cases q : ids[k]? with
    | none => rw [q] at h; cases h
    | some pr =>
      rw [q] at h
      cases h
      have hm := List.all_eq_true.mp hc pr (List.mem_of_getElem? q)
      obtain ⟨h1, h2⟩ := Bool.and_eq_true_iff.mp hm
      have h1 := of_decide_eq_true h1
      have eg : G[pr.1]? = some (gAt G pr.1) := by
        unfold gAt
        rw [List.getElem?_eq_getElem h1]
        rfl
      have el : (local_ G ids)[k]? = some ((gAt G pr.1).ren (pos ids) pr.2) := by
        unfold local_
        rw [List.getElem?_map, q]
        rfl
      rw [call_s el, call_s eg]
      unfold runDef Df.ren
      have := ex_ren (cl1 := call (local_ G ids) n) (cl2 := call G n) (σ := pos ids) (p := hasId ids) (fun c hc => by
        funext as
        unfold hasId at hc
        cases q2 : ids[pos ids c]? with
        | none => rw [q2] at hc; cases hc
        | some p2 =>
          rw [q2] at hc
          refine ih _ _ _ ?_
          rw [q2]
          show some p2.1 = some c
          rw [eq_of_beq hc]) _ h2
      simp only [this]
end Sw

end
section
set_option maxRecDepth 100000
set_option maxHeartbeats 4000000
namespace Sw
open PySem (PyData Str)
def d_is_whole : Df := ⟨"is_whole", ["value", "low", "high"], [], ["value", "low", "high"],
   (.seq (.ite (.or (.blt (.isi .bool) (.cs (.var 0) .nl)) (.not (.blt (.isi .int) (.cs (.var 0) .nl))))
   (.ret (.cst (.bool false)))
   .nop)
   (.seq (.ite (.and (.cmp .notn (.var 1) (.cst .none)) (.cmp .lt (.var 0) (.var 1)))
   (.ret (.cst (.bool false)))
   .nop)
   (.ret (.or (.cmp .isn (.var 2) (.cst .none)) (.cmp .le (.var 0) (.var 2))))))⟩
def d_need_whole : Df := ⟨"need_whole", ["value", "low", "high", "at"], [], ["value", "low", "high", "at"],
   (.seq (.ite (.not (.cal 0 (.cs (.var 0) (.cs (.var 1) (.cs (.var 2) .nl)))))
   (.rais "BadValue" (.var 3))
   .nop)
   (.ret (.var 0)))⟩
def d_is_row : Df := ⟨"is_row", ["value", "least", "most"], [], ["value", "least", "most"],
   (.seq (.ite (.not (.blt (.isis [.list, .tuple]) (.cs (.var 0) .nl)))
   (.ret (.cst (.bool false)))
   .nop)
   (.ret (.and (.cmp .ge (.blt .len (.cs (.var 0) .nl)) (.var 1)) (.or (.cmp .isn (.var 2) (.cst .none)) (.cmp .le (.blt .len (.cs (.var 0) .nl)) (.var 2))))))⟩
def d_need_row : Df := ⟨"need_row", ["value", "least", "most", "at"], [], ["value", "least", "most", "at"],
   (.seq (.ite (.not (.cal 2 (.cs (.var 0) (.cs (.var 1) (.cs (.var 2) .nl)))))
   (.rais "BadValue" (.var 3))
   .nop)
   (.ret (.blt .tuple (.cs (.var 0) .nl))))⟩
def e_is_tuple_of_1 : Tm := (.cal 0 (.cs (.var 2) (.cs (.var 3) (.cs (.var 4) .nl))))
def d_is_tuple_of : Df := ⟨"is_tuple_of", ["value", "bounds"], [], ["value", "bounds", "thing", "low", "high"],
   (.seq (.ite (.not (.cal 2 (.cs (.var 0) (.cs (.blt .len (.cs (.var 1) .nl)) (.cs (.blt .len (.cs (.var 1) .nl)) .nl)))))
   (.ret (.cst (.bool false)))
   .nop)
   (.ret (.blt .all (.cs (.lcp [2, 3, 4] (.tp (.cs (.nm 2) (.cs (.tp (.cs (.nm 3) (.cs (.nm 4) .nl))) .nl))) (.zip (.var 0) (.var 1)) .nl e_is_tuple_of_1) .nl))))⟩
def e_need_tuples_1 : Tm := (.blt .tuple (.cs (.var 6) .nl))
def b_need_tuples_1 : Sm := (.ite (.not (.cal 4 (.cs (.var 6) (.cs (.var 3) .nl))))
   (.rais "BadValue" (.var 4))
   .nop)
def d_need_tuples : Df := ⟨"need_tuples", ["value", "least", "most", "bounds", "at"], [], ["value", "least", "most", "bounds", "at", "rows", "row"],
   (.seq (.set 5 (.cal 3 (.cs (.var 0) (.cs (.var 1) (.cs (.var 2) (.cs (.var 4) .nl))))))
   (.seq (.forr (.nm 6) (.var 5) b_need_tuples_1)
   (.ret (.blt .tuple (.cs (.lcp [6] (.nm 6) (.var 5) .nl e_need_tuples_1) .nl)))))⟩
def b_law_so_1 : Sm := (.ite (.not (.cal 21 (.cs (.idx (.var 0) (.var 2)) (.cs (.idx (.var 1) (.var 2)) .nl))))
   (.ret (.cst (.bool false)))
   .nop)
def t_law_so_4 : Sm := (.ret (.and (.blt (.isi .str) (.cs (.var 1) .nl)) (.and (.blt (.isi .str) (.cs (.var 0) .nl)) (.cmp .eq (.var 0) (.var 1)))))
def t_law_so_3 : Sm := (.seq (.ite (.blt (.isi .int) (.cs (.var 1) .nl))
   (.ret (.and (.blt (.isi .int) (.cs (.var 0) .nl)) (.cmp .eq (.var 0) (.var 1))))
   .nop)
   t_law_so_4)
def t_law_so_2 : Sm := (.seq (.ite (.or (.blt (.isi .bool) (.cs (.var 1) .nl)) (.blt (.isi .bool) (.cs (.var 0) .nl)))
   (.ret (.and (.blt (.isi .bool) (.cs (.var 1) .nl)) (.and (.blt (.isi .bool) (.cs (.var 0) .nl)) (.cmp .eq (.var 0) (.var 1)))))
   .nop)
   t_law_so_3)
def t_law_so_1 : Sm := (.seq (.ite (.blt (.isi .tuple) (.cs (.var 1) .nl))
   (.seq (.ite (.or (.not (.blt (.isi .tuple) (.cs (.var 0) .nl))) (.cmp .ne (.blt .len (.cs (.var 0) .nl)) (.blt .len (.cs (.var 1) .nl))))
   (.ret (.cst (.bool false)))
   .nop)
   (.seq (.forr (.nm 2) (.rng (.cs (.blt .len (.cs (.var 1) .nl)) .nl)) b_law_so_1)
   (.ret (.cst (.bool true)))))
   .nop)
   t_law_so_2)
def d_law_so : Df := ⟨"_law_so", ["found", "meant"], [], ["found", "meant", "k"],
   (.seq (.ite (.cmp .isn (.var 1) (.cst .none))
   (.ret (.cmp .isn (.var 0) (.cst .none)))
   .nop)
   t_law_so_1)⟩
def b_law_numbers_2 : Sm := (.seq (.ite (.cmp .eq (.var 3) (.cst (.int 0)))
   .brk
   .nop)
   (.seq (.app 1 (.bin .mod (.blt .int (.cs (.var 3) .nl)) (.cst (.int 997))))
   (.set 3 (.bin .fdiv (.var 3) (.cst (.int 997))))))
def b_law_numbers_3 : Sm := (.seq (.set 5 (.bin .mod (.blt .int (.cs (.bin .add (.bin .add (.bin .mul (.var 2) (.cst (.int 48271))) (.bin .mul (.var 4) (.cst (.int 69621)))) (.cst (.int 11))) .nl)) (.cst (.int 2147483647))))
   (.app 1 (.bin .mod (.blt .int (.cs (.bin .add (.bin .mul (.var 5) (.cst (.int 16807))) (.var 4)) .nl)) (.cst (.int 2147483629)))))
def b_law_numbers_1 : Sm := (.ite (.cmp .ge (.var 2) (.bin .pow (.cst (.int 10)) (.cst (.int 18))))
   (.seq (.set 3 (.var 2))
   (.forr (.nm 4) (.rng (.cs (.cst (.int 60)) .nl)) b_law_numbers_2))
   (.forr (.nm 4) (.rng (.cs (.cst (.int 4)) .nl)) b_law_numbers_3))
def d_law_numbers : Df := ⟨"_law_numbers", ["script"], [], ["script", "row", "single", "left", "k", "stirred"],
   (.seq (.own 1 (.lst .nl))
   (.seq (.forr (.nm 2) (.sli (.var 0) .nl (.cst (.int 63))) b_law_numbers_1)
   (.seq (.ite (.cmp .eq (.blt .len (.cs (.bor 1) .nl)) (.cst (.int 0)))
   (.app 1 (.cst (.int 0)))
   .nop)
   (.ret (.mov 1)))))⟩
def d_law_draw : Df := ⟨"_law_draw", ["row", "at", "limit"], [], ["row", "at", "limit", "stirred"],
   (.seq (.ite (.cmp .lt (.var 1) (.blt .len (.cs (.var 0) .nl)))
   (.ret (.bin .mod (.blt .int (.cs (.idx (.var 0) (.var 1)) .nl)) (.var 2)))
   .nop)
   (.seq (.set 3 (.bin .mod (.blt .int (.cs (.bin .add (.bin .add (.bin .mul (.idx (.var 0) (.bin .mod (.blt .int (.cs (.var 1) .nl)) (.blt .len (.cs (.var 0) .nl)))) (.cst (.int 40692))) (.bin .mul (.var 1) (.cst (.int 7919)))) (.cst (.int 3))) .nl)) (.cst (.int 2147483399))))
   (.ret (.bin .mod (.blt .int (.cs (.bin .mod (.blt .int (.cs (.bin .add (.bin .mul (.var 3) (.cst (.int 48271))) (.var 1)) .nl)) (.cst (.int 2147483647))) .nl)) (.var 2)))))⟩
def d_law_take : Df := ⟨"_law_take", ["row", "spot", "limit"], [1], ["row", "spot", "limit"],
   (.seq (.sti 1 (.cst (.int 0)) (.bin .add (.idx (.bor 1) (.cst (.int 0))) (.cst (.int 1))))
   (.ret (.cal 23 (.cs (.var 0) (.cs (.bin .sub (.idx (.bor 1) (.cst (.int 0))) (.cst (.int 1))) (.cs (.var 2) .nl))))))⟩
def e_law_listed_1 : Tm := (.cal 25 (.cs (.var 1) .nl))
def d_law_listed : Df := ⟨"_law_listed", ["value"], [], ["value", "one"],
   (.seq (.ite (.blt (.isi .tuple) (.cs (.var 0) .nl))
   (.ret (.lcp [1] (.nm 1) (.var 0) .nl e_law_listed_1))
   .nop)
   (.ret (.var 0)))⟩
def d_law_handed : Df := ⟨"_law_handed", ["row", "spot", "value"], [1], ["row", "spot", "value"],
   (.ret (.ite (.cmp .eq (.cal 24 (.cs (.var 0) (.io 1 (.cs (.cst (.int 2)) .nl)))) (.cst (.int 0))) (.cal 25 (.cs (.var 2) .nl)) (.var 2)))⟩
def d_law_pick : Df := ⟨"_law_pick", ["row", "spot", "things"], [1], ["row", "spot", "things"],
   (.ret (.idx (.var 2) (.cal 24 (.cs (.var 0) (.io 1 (.cs (.blt .len (.cs (.var 2) .nl)) .nl))))))⟩
def d_law_told : Df := ⟨"_law_told", [], [], [], .nop⟩
def d_need : Df := ⟨"need", ["holds", "at"], [], ["holds", "at"],
   (.ite (.not (.var 0))
   (.rais "BadValue" (.var 1))
   .nop)⟩
def b_need_wholes_1 : Sm := (.exp (.cal 1 (.cs (.var 7) (.cs (.var 3) (.cs (.var 4) (.cs (.var 5) .nl))))))
def d_need_wholes : Df := ⟨"need_wholes", ["value", "least", "most", "low", "high", "at"], [], ["value", "least", "most", "low", "high", "at", "row", "thing"],
   (.seq (.set 6 (.cal 3 (.cs (.var 0) (.cs (.var 1) (.cs (.var 2) (.cs (.var 5) .nl))))))
   (.seq (.forr (.nm 7) (.var 6) b_need_wholes_1)
   (.ret (.var 6))))⟩
def e_law_sets_1 : Tm := (.bin .add (.var 3) (.lst (.cs (.var 2) .nl)))
def b_law_sets_1 : Sm := (.set 1 (.bin .add (.var 1) (.lcp [3] (.nm 3) (.var 1) .nl e_law_sets_1)))
def d_law_sets : Df := ⟨"_law_sets", ["names"], [], ["names", "made", "name", "one"],
   (.seq (.set 1 (.lst (.cs (.lst .nl) .nl)))
   (.seq (.forr (.nm 2) (.var 0) b_law_sets_1)
   (.ret (.var 1))))⟩
def d_leaves : Df := ⟨"leaves", ["ways", "calls", "here", "minute", "house"], [], ["ways", "calls", "here", "minute", "house", "begins", "first", "last", "minutes"],
   (.seq (.unp (.tp (.cs (.nm 6) (.cs (.nm 7) (.cs (.nm 8) .nl)))) (.idx (.var 1) (.var 4)))
   (.seq (.set 5 (.blt .max (.cs (.var 6) (.cs (.bin .add (.var 3) (.idx (.idx (.var 0) (.var 2)) (.var 4))) .nl))))
   (.seq (.ite (.cmp .gt (.var 5) (.var 7))
   (.ret (.cst .none))
   .nop)
   (.ret (.bin .add (.var 5) (.var 8))))))⟩
def d_back_at : Df := ⟨"back_at", ["ways", "calls", "here", "minute"], [], ["ways", "calls", "here", "minute", "back"],
   (.seq (.set 4 (.bin .add (.var 3) (.idx (.idx (.var 0) (.var 2)) (.cst (.int 0)))))
   (.seq (.ite (.cmp .gt (.var 4) (.idx (.idx (.var 1) (.cst (.int 0))) (.cst (.int 1))))
   (.ret (.cst .none))
   .nop)
   (.ret (.var 4))))⟩
def b_rounds_in_time_2 : Sm := (.ite (.cmp .nin (.var 5) (.var 6))
   (.seq (.set 9 (.cal 154 (.cs (.var 0) (.cs (.var 1) (.cs (.var 7) (.cs (.var 8) (.cs (.var 5) .nl)))))))
   (.ite (.cmp .notn (.var 9) (.cst .none))
   (.app 3 (.tup (.cs (.bin .add (.var 6) (.tup (.cs (.var 5) .nl))) (.cs (.var 5) (.cs (.var 9) .nl)))))
   .nop))
   .nop)
def w_rounds_in_time_1 : Tm := (.bor 3)
def b_rounds_in_time_1 : Sm := (.seq (.unp (.tp (.cs (.nm 6) (.cs (.nm 7) (.cs (.nm 8) .nl)))) (.pop 3))
   (.seq (.set 4 (.cal 155 (.cs (.var 0) (.cs (.var 1) (.cs (.var 7) (.cs (.var 8) .nl))))))
   (.seq (.ite (.cmp .notn (.var 4) (.cst .none))
   (.app 2 (.tup (.cs (.var 4) (.cs (.var 6) .nl))))
   .nop)
   (.forr (.nm 5) (.rng (.cs (.cst (.int 1)) (.cs (.blt .len (.cs (.var 0) .nl)) .nl))) b_rounds_in_time_2))))
def d_rounds_in_time : Df := ⟨"rounds_in_time", ["ways", "calls"], [], ["ways", "calls", "found", "waiting", "back", "house", "order", "here", "minute", "gone"],
   (.seq (.own 2 (.lst .nl))
   (.seq (.own 3 (.lst (.cs (.tup (.cs (.tup .nl) (.cs (.cst (.int 0)) (.cs (.idx (.idx (.var 1) (.cst (.int 0))) (.cst (.int 0))) .nl)))) .nl)))
   (.seq (.whl w_rounds_in_time_1 b_rounds_in_time_1)
   (.ret (.mov 2)))))⟩
def c_first_back_1 : Tm := (.cmp .eq (.blt .len (.cs (.idx (.var 3) (.cst (.int 1))) .nl)) (.var 1))
def e_first_back_1 : Tm := (.var 3)
def d_first_back : Df := ⟨"first_back", ["rounds", "many"], [], ["rounds", "many", "fitting", "found"],
   (.seq (.set 2 (.lcp [3] (.nm 3) (.var 0) c_first_back_1 e_first_back_1))
   (.ret (.mnd (.var 2))))⟩
def e_need_ways_1 : Tm := (.cal 47 (.cs (.var 6) (.cs (.var 3) (.cs (.var 3) (.cs (.cst (.int 0)) (.cs (.glb "FARTHEST" (.int 200)) (.cs (.var 1) .nl)))))))
def b_need_ways_1 : Sm := (.exp (.cal 46 (.cs (.cmp .eq (.idx (.idx (.var 4) (.var 5)) (.var 5)) (.cst (.int 0))) (.cs (.var 1) .nl))))
def t_need_ways_4 : Sm := (.ret (.blt .tuple (.cs (.var 4) .nl)))
def t_need_ways_3 : Sm := (.seq (.forr (.nm 5) (.rng (.cs (.var 3) .nl)) b_need_ways_1)
   t_need_ways_4)
def t_need_ways_2 : Sm := (.seq (.set 4 (.lcp [6] (.nm 6) (.var 2) .nl e_need_ways_1))
   t_need_ways_3)
def t_need_ways_1 : Sm := (.seq (.set 3 (.blt .len (.cs (.var 2) .nl)))
   t_need_ways_2)
def d_need_ways : Df := ⟨"need_ways", ["ways", "at"], [], ["ways", "at", "rows", "many", "table", "house", "row"],
   (.seq (.set 2 (.cal 3 (.cs (.var 0) (.cs (.cst (.int 1)) (.cs (.glb "HOUSES" (.int 6)) (.cs (.var 1) .nl))))))
   t_need_ways_1)⟩
def b_calls_need_1 : Sm := (.exp (.cal 46 (.cs (.cmp .le (.var 3) (.var 4)) (.cs (.var 1) .nl))))
def d_calls_need : Df := ⟨"need_calls", ["calls", "at"], [], ["calls", "at", "rows", "first", "last", "_"],
   (.seq (.set 2 (.cal 5 (.cs (.var 0) (.cs (.cst (.int 0)) (.cs (.cst .none) (.cs (.glb "CALL" (.tuple [(.tuple [(.int 0), (.int 1000)]), (.tuple [(.int 0), (.int 1000)]), (.tuple [(.int 0), (.int 200)])])) (.cs (.var 1) .nl)))))))
   (.seq (.forr (.tp (.cs (.nm 3) (.cs (.nm 4) (.cs (.nm 5) .nl)))) (.var 2) b_calls_need_1)
   (.ret (.var 2))))⟩
def d_need_both : Df := ⟨"need_both", ["ways", "calls"], [], ["ways", "calls", "table", "rows"],
   (.seq (.set 2 (.cal 158 (.cs (.var 0) (.cs (.cst (.int 0)) .nl))))
   (.seq (.set 3 (.cal 159 (.cs (.var 1) (.cs (.cst (.int 1)) .nl))))
   (.seq (.exp (.cal 46 (.cs (.cmp .eq (.blt .len (.cs (.var 3) .nl)) (.blt .len (.cs (.var 2) .nl))) (.cs (.cst (.int 1)) .nl))))
   (.ret (.tup (.cs (.var 2) (.cs (.var 3) .nl)))))))⟩
def d_round_of : Df := ⟨"round_of", ["ways", "calls"], [], ["ways", "calls", "table", "rows"],
   (.seq (.unp (.tp (.cs (.nm 2) (.cs (.nm 3) .nl))) (.cal 160 (.cs (.var 0) (.cs (.var 1) .nl))))
   (.ret (.cal 157 (.cs (.cal 156 (.cs (.var 2) (.cs (.var 3) .nl))) (.cs (.bin .sub (.blt .len (.cs (.var 2) .nl)) (.cst (.int 1))) .nl)))))⟩
def e_most_1 : Tm := (.blt .len (.cs (.var 7) .nl))
def t_most_4 : Sm := (.ret (.tup (.cs (.var 3) (.cs (.var 7) .nl))))
def t_most_3 : Sm := (.seq (.unp (.tp (.cs (.nm 6) (.cs (.nm 7) .nl))) (.cal 157 (.cs (.var 2) (.cs (.var 3) .nl))))
   t_most_4)
def t_most_2 : Sm := (.seq (.set 3 (.blt .max (.cs (.lcp [6, 7] (.tp (.cs (.nm 6) (.cs (.nm 7) .nl))) (.var 2) .nl e_most_1) .nl)))
   t_most_3)
def t_most_1 : Sm := (.seq (.set 2 (.cal 156 (.cs (.var 4) (.cs (.var 5) .nl))))
   t_most_2)
def d_most : Df := ⟨"most_calls", ["ways", "calls"], [], ["ways", "calls", "rounds", "many", "table", "rows", "_", "order"],
   (.seq (.unp (.tp (.cs (.nm 4) (.cs (.nm 5) .nl))) (.cal 160 (.cs (.var 0) (.cs (.var 1) .nl))))
   t_most_1)⟩
def c_law_perms_1 : Tm := (.cmp .nin (.var 5) (.var 4))
def e_law_perms_1 : Tm := (.bin .add (.var 4) (.tup (.cs (.var 5) .nl)))
def b_law_perms_2 : Sm := (.set 3 (.bin .add (.var 3) (.lcp [5] (.nm 5) (.rng (.cs (.var 0) .nl)) c_law_perms_1 e_law_perms_1)))
def b_law_perms_1 : Sm := (.seq (.set 3 (.lst .nl))
   (.seq (.forr (.nm 4) (.var 1) b_law_perms_2)
   (.set 1 (.var 3))))
def d_law_perms : Df := ⟨"_law_perms", ["many"], [], ["many", "made", "k", "longer", "one", "j"],
   (.seq (.set 1 (.lst (.cs (.tup .nl) .nl)))
   (.seq (.forr (.nm 2) (.rng (.cs (.var 0) .nl)) b_law_perms_1)
   (.ret (.var 1))))⟩
def e_law_ways_2 : Tm := (.ite (.cmp .eq (.var 6) (.var 5)) (.cst (.int 0)) (.cal 24 (.cs (.var 0) (.io 1 (.cs (.bin .add (.var 4) (.cst (.int 1))) .nl)))))
def e_law_ways_1 : Tm := (.blt .tuple (.cs (.lcn [6] (.nm 6) (.rng (.cs (.var 3) .nl)) .nl e_law_ways_2) .nl))
def d_law_ways : Df := ⟨"_law_ways", ["row", "spot", "upto"], [1], ["row", "spot", "upto", "many", "top", "k", "j"],
   (.seq (.set 3 (.bin .add (.cst (.int 1)) (.cal 24 (.cs (.var 0) (.io 1 (.cs (.var 2) .nl))))))
   (.seq (.set 4 (.cal 27 (.cs (.var 0) (.io 1 (.cs (.lst (.cs (.cst (.int 4)) (.cs (.cst (.int 30)) (.cs (.cst (.int 200)) .nl)))) .nl)))))
   (.ret (.blt .tuple (.cs (.lcp [5] (.nm 5) (.rng (.cs (.var 3) .nl)) .nl e_law_ways_1) .nl)))))⟩
def b_law_calls_1 : Sm := (.seq (.set 5 (.cal 27 (.cs (.var 0) (.io 1 (.cs (.lst (.cs (.cst (.int 0)) (.cs (.cal 24 (.cs (.var 0) (.io 1 (.cs (.cst (.int 60)) .nl)))) .nl))) .nl)))))
   (.app 3 (.tup (.cs (.var 5) (.cs (.bin .add (.var 5) (.cal 27 (.cs (.var 0) (.io 1 (.cs (.lst (.cs (.cst (.int 5)) (.cs (.cst (.int 40)) (.cs (.cst (.int 300)) (.cs (.cst (.int 900)) .nl))))) .nl))))) (.cs (.cal 24 (.cs (.var 0) (.io 1 (.cs (.cal 27 (.cs (.var 0) (.io 1 (.cs (.lst (.cs (.cst (.int 1)) (.cs (.cst (.int 20)) .nl))) .nl)))) .nl)))) .nl))))))
def d_law_calls : Df := ⟨"_law_calls", ["row", "spot", "many"], [1], ["row", "spot", "many", "made", "k", "first"],
   (.seq (.own 3 (.lst .nl))
   (.seq (.forr (.nm 4) (.rng (.cs (.var 2) .nl)) b_law_calls_1)
   (.ret (.blt .tuple (.cs (.bor 3) .nl)))))⟩
def b_law_called_at_1 : Sm := (.seq (.set 3 (.blt .max (.cs (.bin .add (.var 3) (.idx (.idx (.var 0) (.var 4)) (.var 5))) (.cs (.idx (.idx (.var 1) (.var 5)) (.cst (.int 0))) .nl))))
   (.seq (.ite (.cmp .gt (.var 3) (.idx (.idx (.var 1) (.var 5)) (.cst (.int 1))))
   (.ret (.cst .none))
   .nop)
   (.seq (.set 3 (.bin .add (.var 3) (.idx (.idx (.var 1) (.var 5)) (.cst (.int 2)))))
   (.set 4 (.var 5)))))
def t_law_called_at_4 : Sm := (.ret (.ite (.cmp .gt (.var 3) (.idx (.idx (.var 1) (.cst (.int 0))) (.cst (.int 1)))) (.cst .none) (.var 3)))
def t_law_called_at_3 : Sm := (.seq (.set 3 (.bin .add (.var 3) (.idx (.idx (.var 0) (.var 4)) (.cst (.int 0)))))
   t_law_called_at_4)
def t_law_called_at_2 : Sm := (.seq (.forr (.nm 5) (.var 2) b_law_called_at_1)
   t_law_called_at_3)
def t_law_called_at_1 : Sm := (.seq (.set 4 (.cst (.int 0)))
   t_law_called_at_2)
def d_law_called_at : Df := ⟨"_law_called_at", ["ways", "calls", "order"], [], ["ways", "calls", "order", "minute", "here", "house"],
   (.seq (.set 3 (.idx (.idx (.var 1) (.cst (.int 0))) (.cst (.int 0))))
   t_law_called_at_1)⟩
def e_law_k07_1 : Tm := (.var 14)
def e_law_k07_2 : Tm := (.idx (.var 8) (.var 14))
def b_law_k07_2 : Sm := (.seq (.set 12 (.blt .tuple (.cs (.lcp [14] (.nm 14) (.var 11) .nl e_law_k07_2) .nl)))
   (.seq (.set 13 (.cal 166 (.cs (.var 3) (.cs (.var 5) (.cs (.var 12) .nl)))))
   (.ite (.cmp .notn (.var 13) (.cst .none))
   (.seq (.set 15 (.tup (.cs (.neg (.blt .len (.cs (.var 12) .nl))) (.cs (.var 13) (.cs (.var 12) .nl)))))
   (.seq (.set 7 (.ite (.or (.cmp .isn (.var 7) (.cst .none)) (.cmp .lt (.var 15) (.var 7))) (.var 15) (.var 7)))
   (.ite (.cmp .eq (.blt .len (.cs (.var 12) .nl)) (.bin .sub (.var 4) (.cst (.int 1))))
   (.set 6 (.ite (.or (.cmp .isn (.var 6) (.cst .none)) (.cmp .lt (.tup (.cs (.var 13) (.cs (.var 12) .nl))) (.var 6))) (.tup (.cs (.var 13) (.cs (.var 12) .nl))) (.var 6)))
   .nop)))
   .nop)))
def b_law_k07_1 : Sm := (.forr (.nm 11) (.cal 163 (.cs (.blt .len (.cs (.var 8) .nl)) .nl)) b_law_k07_2)
def b_law_k07_3 : Sm := (.ite (.or (.cmp .ne (.tol (.cal 161 (.cs (.var 9) (.cs (.tup (.cs (.tup (.cs (.cst (.int 0)) (.cs (.cst (.int 5)) (.cs (.cst (.int 0)) .nl)))) .nl)) .nl)))) (.tup (.cs (.cst (lit "BadValue")) (.cs (.cst (.int 0)) .nl)))) (.cmp .ne (.tol (.cal 162 (.cs (.var 9) (.cs (.tup (.cs (.tup (.cs (.cst (.int 0)) (.cs (.cst (.int 5)) (.cs (.cst (.int 0)) .nl)))) .nl)) .nl)))) (.tup (.cs (.cst (lit "BadValue")) (.cs (.cst (.int 0)) .nl)))))
   (.ret (.cst (.bool false)))
   .nop)
def b_law_k07_4 : Sm := (.ite (.or (.cmp .ne (.tol (.cal 161 (.cs (.tup (.cs (.tup (.cs (.cst (.int 0)) .nl)) .nl)) (.cs (.var 9) .nl)))) (.tup (.cs (.cst (lit "BadValue")) (.cs (.cst (.int 1)) .nl)))) (.cmp .ne (.tol (.cal 162 (.cs (.tup (.cs (.tup (.cs (.cst (.int 0)) .nl)) .nl)) (.cs (.var 9) .nl)))) (.tup (.cs (.cst (lit "BadValue")) (.cs (.cst (.int 1)) .nl)))))
   (.ret (.cst (.bool false)))
   .nop)
def t_law_k07_14 : Sm := (.ret (.and (.cal 21 (.cs (.cal 161 (.cs (.tup (.cs (.tup (.cs (.cst (.int 0)) .nl)) .nl)) (.cs (.tup (.cs (.tup (.cs (.cst (.int 7)) (.cs (.cst (.int 9)) (.cs (.cst (.int 200)) .nl)))) .nl)) .nl))) (.cs (.tup (.cs (.cst (.int 7)) (.cs (.tup .nl) .nl))) .nl))) (.and (.cal 21 (.cs (.cal 162 (.cs (.tup (.cs (.tup (.cs (.cst (.int 0)) .nl)) .nl)) (.cs (.tup (.cs (.tup (.cs (.cst (.int 7)) (.cs (.cst (.int 9)) (.cs (.cst (.int 0)) .nl)))) .nl)) .nl))) (.cs (.tup (.cs (.cst (.int 0)) (.cs (.tup .nl) .nl))) .nl))) (.and (.cal 21 (.cs (.cal 161 (.cs (.var 10) (.cs (.tup (.cs (.tup (.cs (.cst (.int 5)) (.cs (.cst (.int 20)) (.cs (.cst (.int 0)) .nl)))) (.cs (.tup (.cs (.cst (.int 0)) (.cs (.cst (.int 7)) (.cs (.cst (.int 0)) .nl)))) .nl))) .nl))) (.cs (.cst .none) .nl))) (.cal 21 (.cs (.cal 161 (.cs (.var 10) (.cs (.tup (.cs (.tup (.cs (.cst (.int 0)) (.cs (.cst (.int 1000)) (.cs (.cst (.int 0)) .nl)))) (.cs (.tup (.cs (.cst (.int 900)) (.cs (.cst (.int 950)) (.cs (.cst (.int 60)) .nl)))) .nl))) .nl))) (.cs (.tup (.cs (.cst (.int 964)) (.cs (.tup (.cs (.cst (.int 1)) .nl)) .nl))) .nl)))))))
def t_law_k07_13 : Sm := (.seq (.ite (.or (.not (.cal 21 (.cs (.cal 161 (.cs (.var 10) (.cs (.tup (.cs (.tup (.cs (.cst (.int 5)) (.cs (.cst (.int 20)) (.cs (.cst (.int 100)) .nl)))) (.cs (.tup (.cs (.cst (.int 0)) (.cs (.cst (.int 8)) (.cs (.cst (.int 8)) .nl)))) .nl))) .nl))) (.cs (.tup (.cs (.cst (.int 20)) (.cs (.tup (.cs (.cst (.int 1)) .nl)) .nl))) .nl)))) (.or (.not (.cal 21 (.cs (.cal 161 (.cs (.var 10) (.cs (.tup (.cs (.tup (.cs (.cst (.int 5)) (.cs (.cst (.int 19)) (.cs (.cst (.int 0)) .nl)))) (.cs (.tup (.cs (.cst (.int 0)) (.cs (.cst (.int 8)) (.cs (.cst (.int 8)) .nl)))) .nl))) .nl))) (.cs (.cst .none) .nl)))) (.not (.cal 21 (.cs (.cal 162 (.cs (.var 10) (.cs (.tup (.cs (.tup (.cs (.cst (.int 5)) (.cs (.cst (.int 19)) (.cs (.cst (.int 0)) .nl)))) (.cs (.tup (.cs (.cst (.int 0)) (.cs (.cst (.int 8)) (.cs (.cst (.int 8)) .nl)))) .nl))) .nl))) (.cs (.tup (.cs (.cst (.int 0)) (.cs (.tup .nl) .nl))) .nl))))))
   (.ret (.cst (.bool false)))
   .nop)
   t_law_k07_14)
def t_law_k07_12 : Sm := (.seq (.ite (.or (.not (.cal 21 (.cs (.cal 161 (.cs (.var 10) (.cs (.tup (.cs (.tup (.cs (.cst (.int 0)) (.cs (.cst (.int 1000)) (.cs (.cst (.int 0)) .nl)))) (.cs (.tup (.cs (.cst (.int 5)) (.cs (.cst (.int 5)) (.cs (.cst (.int 0)) .nl)))) .nl))) .nl))) (.cs (.tup (.cs (.cst (.int 9)) (.cs (.tup (.cs (.cst (.int 1)) .nl)) .nl))) .nl)))) (.or (.not (.cal 21 (.cs (.cal 161 (.cs (.var 10) (.cs (.tup (.cs (.tup (.cs (.cst (.int 0)) (.cs (.cst (.int 1000)) (.cs (.cst (.int 200)) .nl)))) (.cs (.tup (.cs (.cst (.int 1000)) (.cs (.cst (.int 1000)) (.cs (.cst (.int 200)) .nl)))) .nl))) .nl))) (.cs (.cst .none) .nl)))) (.or (.not (.cal 21 (.cs (.cal 162 (.cs (.var 10) (.cs (.tup (.cs (.tup (.cs (.cst (.int 1000)) (.cs (.cst (.int 1000)) (.cs (.cst (.int 0)) .nl)))) (.cs (.tup (.cs (.cst (.int 0)) (.cs (.cst (.int 0)) (.cs (.cst (.int 0)) .nl)))) .nl))) .nl))) (.cs (.tup (.cs (.cst (.int 0)) (.cs (.tup .nl) .nl))) .nl)))) (.not (.cal 21 (.cs (.cal 161 (.cs (.tup (.cs (.tup (.cs (.cst (.int 0)) (.cs (.cst (.int 200)) .nl))) (.cs (.tup (.cs (.cst (.int 200)) (.cs (.cst (.int 0)) .nl))) .nl))) (.cs (.tup (.cs (.tup (.cs (.cst (.int 0)) (.cs (.cst (.int 600)) (.cs (.cst (.int 0)) .nl)))) (.cs (.tup (.cs (.cst (.int 0)) (.cs (.cst (.int 200)) (.cs (.cst (.int 200)) .nl)))) .nl))) .nl))) (.cs (.tup (.cs (.cst (.int 600)) (.cs (.tup (.cs (.cst (.int 1)) .nl)) .nl))) .nl)))))))
   (.ret (.cst (.bool false)))
   .nop)
   t_law_k07_13)
def t_law_k07_11 : Sm := (.seq (.set 10 (.tup (.cs (.tup (.cs (.cst (.int 0)) (.cs (.cst (.int 3)) .nl))) (.cs (.tup (.cs (.cst (.int 4)) (.cs (.cst (.int 0)) .nl))) .nl))))
   t_law_k07_12)
def t_law_k07_10 : Sm := (.seq (.forr (.nm 9) (.lst (.cs (.tup .nl) (.cs (.tup (.cs (.tup (.cs (.cst (.int 5)) (.cs (.cst (.int 4)) (.cs (.cst (.int 0)) .nl)))) .nl)) (.cs (.tup (.cs (.tup (.cs (.neg (.cst (.int 1))) (.cs (.cst (.int 4)) (.cs (.cst (.int 0)) .nl)))) .nl)) (.cs (.tup (.cs (.tup (.cs (.cst (.int 0)) (.cs (.cst (.int 1001)) (.cs (.cst (.int 0)) .nl)))) .nl)) (.cs (.tup (.cs (.tup (.cs (.cst (.int 0)) (.cs (.cst (.int 5)) (.cs (.neg (.cst (.int 1))) .nl)))) .nl)) (.cs (.tup (.cs (.tup (.cs (.cst (.int 0)) (.cs (.cst (.int 5)) (.cs (.cst (.int 201)) .nl)))) .nl)) (.cs (.tup (.cs (.tup (.cs (.cst (.int 0)) (.cs (.cst (.int 5)) .nl))) .nl)) (.cs (.cst .none) (.cs (.tup (.cs (.tup (.cs (.cst (.int 0)) (.cs (.cst (.bool true)) (.cs (.cst (.int 0)) .nl)))) .nl)) (.cs (.tup (.cs (.tup (.cs (.cst (.int 0)) (.cs (.cst (.int 5)) (.cs (.cst (.int 0)) .nl)))) (.cs (.tup (.cs (.cst (.int 0)) (.cs (.cst (.int 5)) (.cs (.cst (.int 0)) .nl)))) .nl))) (.cs (.tup (.cs (.cst (.int 0)) (.cs (.cst (.int 5)) (.cs (.cst (.int 0)) .nl)))) .nl)))))))))))) b_law_k07_4)
   t_law_k07_11)
def t_law_k07_9 : Sm := (.seq (.forr (.nm 9) (.lst (.cs (.tup .nl) (.cs (.tup (.cs (.tup (.cs (.cst (.int 1)) .nl)) .nl)) (.cs (.tup (.cs (.tup (.cs (.cst (.int 0)) (.cs (.cst (.int 1)) .nl))) .nl)) (.cs (.tup (.cs (.tup (.cs (.cst (.int 0)) (.cs (.cst (.int 201)) .nl))) (.cs (.tup (.cs (.cst (.int 1)) (.cs (.cst (.int 0)) .nl))) .nl))) (.cs (.tup (.cs (.tup (.cs (.cst (.int 0)) (.cs (.neg (.cst (.int 1))) .nl))) (.cs (.tup (.cs (.cst (.int 1)) (.cs (.cst (.int 0)) .nl))) .nl))) (.cs (.tup (.cs (.tup (.cs (.cst (.int 0)) (.cs (.cst (.bool true)) .nl))) (.cs (.tup (.cs (.cst (.int 1)) (.cs (.cst (.int 0)) .nl))) .nl))) (.cs (.tup (.cs (.cst (.int 0)) .nl)) (.cs (.cst .none) (.cs (.bin .mul (.tup (.cs (.bin .mul (.tup (.cs (.cst (.int 0)) .nl)) (.cst (.int 7))) .nl)) (.cst (.int 7))) .nl)))))))))) b_law_k07_3)
   t_law_k07_10)
def t_law_k07_8 : Sm := (.seq (.ite (.or (.not (.cal 21 (.cs (.cal 161 (.cs (.cal 26 (.cs (.var 1) (.io 2 (.cs (.var 3) .nl)))) (.cs (.cal 26 (.cs (.var 1) (.io 2 (.cs (.var 5) .nl)))) .nl))) (.cs (.var 6) .nl)))) (.not (.cal 21 (.cs (.cal 162 (.cs (.cal 26 (.cs (.var 1) (.io 2 (.cs (.var 3) .nl)))) (.cs (.cal 26 (.cs (.var 1) (.io 2 (.cs (.var 5) .nl)))) .nl))) (.cs (.tup (.cs (.neg (.idx (.var 7) (.cst (.int 0)))) (.cs (.idx (.var 7) (.cst (.int 2))) .nl))) .nl)))))
   (.ret (.cst (.bool false)))
   .nop)
   t_law_k07_9)
def t_law_k07_7 : Sm := (.seq (.forr (.nm 8) (.cal 63 (.cs (.lcp [14] (.nm 14) (.rng (.cs (.cst (.int 1)) (.cs (.var 4) .nl))) .nl e_law_k07_1) .nl)) b_law_k07_1)
   t_law_k07_8)
def t_law_k07_6 : Sm := (.seq (.set 7 (.cst .none))
   t_law_k07_7)
def t_law_k07_5 : Sm := (.seq (.set 6 (.cst .none))
   t_law_k07_6)
def t_law_k07_4 : Sm := (.seq (.set 5 (.cal 165 (.cs (.var 1) (.io 2 (.cs (.var 4) .nl)))))
   t_law_k07_5)
def t_law_k07_3 : Sm := (.seq (.set 4 (.blt .len (.cs (.var 3) .nl)))
   t_law_k07_4)
def t_law_k07_2 : Sm := (.seq (.set 3 (.cal 164 (.cs (.var 1) (.io 2 (.cs (.cst (.int 5)) .nl)))))
   t_law_k07_3)
def t_law_k07_1 : Sm := (.seq (.own 2 (.lst (.cs (.cst (.int 0)) .nl)))
   t_law_k07_2)
def d_law_k07 : Df := ⟨"law", ["script"], [], ["script", "row", "spot", "ways", "many", "calls", "whole", "most", "some", "bad", "two", "order", "line", "minute", "k", "key"],
   (.seq (.set 1 (.cal 22 (.cs (.var 0) .nl)))
   t_law_k07_1)⟩
def noDf : Df := ⟨"", [], [], [], .nop⟩
def G : List Df := [d_is_whole, d_need_whole, d_is_row, d_need_row, d_is_tuple_of, d_need_tuples, noDf, noDf, noDf, noDf, noDf, noDf, noDf, noDf, noDf, noDf, noDf, noDf, noDf, noDf, noDf, d_law_so, d_law_numbers, d_law_draw, d_law_take, d_law_listed, d_law_handed, d_law_pick, noDf, d_law_told, noDf, noDf, noDf, noDf, noDf, noDf, noDf, noDf, noDf, noDf, noDf, noDf, noDf, noDf, noDf, noDf, d_need, d_need_wholes, noDf, noDf, noDf, noDf, noDf, noDf, noDf, noDf, noDf, noDf, noDf, noDf, noDf, noDf, noDf, d_law_sets, noDf, noDf, noDf, noDf, noDf, noDf, noDf, noDf, noDf, noDf, noDf, noDf, noDf, noDf, noDf, noDf, noDf, noDf, noDf, noDf, noDf, noDf, noDf, noDf, noDf, noDf, noDf, noDf, noDf, noDf, noDf, noDf, noDf, noDf, noDf, noDf, noDf, noDf, noDf, noDf, noDf, noDf, noDf, noDf, noDf, noDf, noDf, noDf, noDf, noDf, noDf, noDf, noDf, noDf, noDf, noDf, noDf, noDf, noDf, noDf, noDf, noDf, noDf, noDf, noDf, noDf, noDf, noDf, noDf, noDf, noDf, noDf, noDf, noDf, noDf, noDf, noDf, noDf, noDf, noDf, noDf, noDf, noDf, noDf, noDf, noDf, noDf, noDf, noDf, noDf, d_leaves, d_back_at, d_rounds_in_time, d_first_back, d_need_ways, d_calls_need, d_need_both, d_round_of, d_most, d_law_perms, d_law_ways, d_law_calls, d_law_called_at, d_law_k07]
theorem g_is_whole {n : Nat} {as : List Ar} : call G (n + 1) 0 as = runDef d_is_whole (call G n) as := call_s rfl
theorem g_need_whole {n : Nat} {as : List Ar} : call G (n + 1) 1 as = runDef d_need_whole (call G n) as := call_s rfl
theorem g_is_row {n : Nat} {as : List Ar} : call G (n + 1) 2 as = runDef d_is_row (call G n) as := call_s rfl
theorem g_need_row {n : Nat} {as : List Ar} : call G (n + 1) 3 as = runDef d_need_row (call G n) as := call_s rfl
theorem g_is_tuple_of {n : Nat} {as : List Ar} : call G (n + 1) 4 as = runDef d_is_tuple_of (call G n) as := call_s rfl
theorem g_need_tuples {n : Nat} {as : List Ar} : call G (n + 1) 5 as = runDef d_need_tuples (call G n) as := call_s rfl
theorem g_law_so {n : Nat} {as : List Ar} : call G (n + 1) 21 as = runDef d_law_so (call G n) as := call_s rfl
theorem g_law_numbers {n : Nat} {as : List Ar} : call G (n + 1) 22 as = runDef d_law_numbers (call G n) as := call_s rfl
theorem g_law_draw {n : Nat} {as : List Ar} : call G (n + 1) 23 as = runDef d_law_draw (call G n) as := call_s rfl
theorem g_law_take {n : Nat} {as : List Ar} : call G (n + 1) 24 as = runDef d_law_take (call G n) as := call_s rfl
theorem g_law_listed {n : Nat} {as : List Ar} : call G (n + 1) 25 as = runDef d_law_listed (call G n) as := call_s rfl
theorem g_law_handed {n : Nat} {as : List Ar} : call G (n + 1) 26 as = runDef d_law_handed (call G n) as := call_s rfl
theorem g_law_pick {n : Nat} {as : List Ar} : call G (n + 1) 27 as = runDef d_law_pick (call G n) as := call_s rfl
theorem g_law_told {n : Nat} {as : List Ar} : call G (n + 1) 29 as = runDef d_law_told (call G n) as := call_s rfl
theorem g_need {n : Nat} {as : List Ar} : call G (n + 1) 46 as = runDef d_need (call G n) as := call_s rfl
theorem g_need_wholes {n : Nat} {as : List Ar} : call G (n + 1) 47 as = runDef d_need_wholes (call G n) as := call_s rfl
theorem g_law_sets {n : Nat} {as : List Ar} : call G (n + 1) 63 as = runDef d_law_sets (call G n) as := call_s rfl
theorem g_leaves {n : Nat} {as : List Ar} : call G (n + 1) 154 as = runDef d_leaves (call G n) as := call_s rfl
theorem g_back_at {n : Nat} {as : List Ar} : call G (n + 1) 155 as = runDef d_back_at (call G n) as := call_s rfl
theorem g_rounds_in_time {n : Nat} {as : List Ar} : call G (n + 1) 156 as = runDef d_rounds_in_time (call G n) as := call_s rfl
theorem g_first_back {n : Nat} {as : List Ar} : call G (n + 1) 157 as = runDef d_first_back (call G n) as := call_s rfl
theorem g_need_ways {n : Nat} {as : List Ar} : call G (n + 1) 158 as = runDef d_need_ways (call G n) as := call_s rfl
theorem g_calls_need {n : Nat} {as : List Ar} : call G (n + 1) 159 as = runDef d_calls_need (call G n) as := call_s rfl
theorem g_need_both {n : Nat} {as : List Ar} : call G (n + 1) 160 as = runDef d_need_both (call G n) as := call_s rfl
theorem g_round_of {n : Nat} {as : List Ar} : call G (n + 1) 161 as = runDef d_round_of (call G n) as := call_s rfl
theorem g_most {n : Nat} {as : List Ar} : call G (n + 1) 162 as = runDef d_most (call G n) as := call_s rfl
theorem g_law_perms {n : Nat} {as : List Ar} : call G (n + 1) 163 as = runDef d_law_perms (call G n) as := call_s rfl
theorem g_law_ways {n : Nat} {as : List Ar} : call G (n + 1) 164 as = runDef d_law_ways (call G n) as := call_s rfl
theorem g_law_calls {n : Nat} {as : List Ar} : call G (n + 1) 165 as = runDef d_law_calls (call G n) as := call_s rfl
theorem g_law_called_at {n : Nat} {as : List Ar} : call G (n + 1) 166 as = runDef d_law_called_at (call G n) as := call_s rfl
theorem g_law_k07 {n : Nat} {as : List Ar} : call G (n + 1) 167 as = runDef d_law_k07 (call G n) as := call_s rfl
end Sw

end
section
set_option maxRecDepth 100000
set_option maxHeartbeats 4000000
namespace Sw
open PySem (PyData Str)
abbrev ints_ (row : List Int) : List D := row.map PyData.int
theorem intsFrom_map : ∀ (n : Nat) (lo : Int), intsFrom lo n = (List.range n).map fun (i : Nat) => PyData.int (lo + (i : Int))
  | 0, _ => rfl
  | n + 1, lo => by
    rw [intsFrom, intsFrom_map n (lo + 1), List.range_succ_eq_map, List.map_cons, List.map_map]
    congr 1
    · congr 1; simp
    · apply List.map_congr_left
      intro i _
      simp only [Function.comp]
      congr 1
      omega
theorem intsFrom0 (n : Nat) : intsFrom 0 n = (List.range n).map fun (i : Nat) => PyData.int (i : Int) := by
  rw [intsFrom_map]
  apply List.map_congr_left
  intro i _
  simp
theorem enumFrom_map {α : Type} (enc : α → D) : ∀ (xs : List α) (k : Nat), enumFrom k (xs.map enc) = (xs.zipIdx k).map fun p => PyData.tuple [.int (p.2 : Nat), enc p.1]
  | [], _ => rfl
  | x :: r, k => by
    rw [List.map_cons, enumFrom, List.zipIdx_cons, List.map_cons, ← enumFrom_map enc r (k + 1)]
    congr 1
theorem enum_map {α : Type} (enc : α → D) (xs : List α) : enumFrom 0 (xs.map enc) = xs.zipIdx.map fun p => PyData.tuple [.int (p.2 : Nat), enc p.1] := enumFrom_map enc xs 0
theorem zip_map {α β : Type} (e1 : α → D) (e2 : β → D) : ∀ (xs : List α) (ys : List β), zipD (xs.map e1) (ys.map e2) = (xs.zip ys).map fun p => PyData.tuple [e1 p.1, e2 p.2]
  | [], _ => rfl
  | _ :: _, [] => rfl
  | x :: xs, y :: ys => by
    rw [List.map_cons, List.map_cons, zipD, List.zip_cons_cons, List.map_cons, zip_map e1 e2 xs ys]
/-- the numbers from lo on, n of them -/
def upI (lo : Int) : Nat → List Int
  | 0 => []
  | n + 1 => lo :: upI (lo + 1) n
theorem intsFrom_up : ∀ (n : Nat) (lo : Int), intsFrom lo n = (upI lo n).map PyData.int
  | 0, _ => rfl
  | n + 1, lo => by rw [intsFrom, upI, List.map_cons, intsFrom_up n (lo + 1)]
theorem up_len : ∀ (n : Nat) (lo : Int), (upI lo n).length = n
  | 0, _ => rfl
  | n + 1, lo => by rw [upI, List.length_cons, up_len n]
theorem mem_up : ∀ {n : Nat} {lo x : Int}, x ∈ upI lo n ↔ lo ≤ x ∧ x < lo + n
  | 0, lo, x => by simp [upI]
  | n + 1, lo, x => by
    rw [upI, List.mem_cons, mem_up]
    omega
theorem up_at : ∀ (n : Nat) (lo : Int) (i : Nat), i < n → (upI lo n)[i]? = some (lo + i)
  | n + 1, lo, 0, _ => by simp [upI]
  | n + 1, lo, i + 1, h => by
    rw [upI, List.getElem?_cons_succ, up_at n (lo + 1) i (by omega)]
    congr 1
    omega
theorem up_append : ∀ (n m : Nat) (lo : Int), upI lo (n + m) = upI lo n ++ upI (lo + n) m
  | 0, m, lo => by simp [upI]
  | n + 1, m, lo => by
    have e : lo + 1 + (n : Int) = lo + ((n + 1 : Nat) : Int) := by omega
    rw [← e, show n + 1 + m = (n + m) + 1 by omega, upI, upI, List.cons_append, up_append n m (lo + 1)]
theorem ints_idx {α : Type} (xs : List α) : intsFrom 0 xs.length = xs.zipIdx.map fun p => PyData.int (p.2 : Nat) := by
  rw [intsFrom0]
  have : xs.zipIdx.map (fun p => PyData.int (p.2 : Nat)) = (xs.zipIdx.map (·.2)).map fun i => PyData.int (i : Nat) := by rw [List.map_map]; rfl
  rw [this, List.zipIdx_map_snd, List.range'_eq_map_range]
  simp
/-- what a turn does -/
inductive Step (σ : Type) where
  | nx (s : σ) | bk (s : σ) | rt (v : VT) (s : σ) | er (x : Exn) (s : σ)
def Step.fl {σ : Type} (st : σ → Env) : Step σ → Fl
  | .nx s => .nx (st s)
  | .bk s => .bk (st s)
  | .rt v s => .rt v (st s)
  | .er x s => .er x (st s)
def loopS {α σ : Type} (step : σ → α → Step σ) : List α → σ → Step σ
  | [], s => .nx s
  | a :: r, s => match step s a with
    | .nx s => loopS step r s
    | .bk s => .nx s
    | .rt v s => .rt v s
    | .er x s => .er x s
def Fl.ct2 : Fl → Fl
  | .ct ρ => .nx ρ
  | o => o
/-- a for, as a loop over states of one's own; I holds ahead of each turn -/
theorem for_S {α σ : Type} {turn : D → Env → Fl} (enc : α → D) (st : σ → Env) (step : σ → α → Step σ) (I : σ → Prop) : ∀ (xs : List α) (s : σ), I s →
    (∀ s a, a ∈ xs → I s → (turn (enc a) (st s)).ct2 = (step s a).fl st ∧ ∀ s', step s a = .nx s' → I s') → forLoop turn (xs.map enc) (st s) = (loopS step xs s).fl st
  | [], s, _, _ => rfl
  | a :: r, s, h, ht => by
    obtain ⟨e, hi⟩ := ht s a List.mem_cons_self h
    have rec_ : ∀ s', step s a = .nx s' → forLoop turn (r.map enc) (st s') = (loopS step r s').fl st := fun s' q => for_S enc st step I r s' (hi s' q) fun s a ha => ht s a (List.mem_cons_of_mem _ ha)
    rw [List.map_cons, forLoop, loopS]
    cases q : step s a with
    | nx s' =>
      rw [q] at e
      cases q2 : turn (enc a) (st s) with
      | nx ρ => rw [q2] at e; cases e; exact rec_ s' q
      | ct ρ => rw [q2] at e; cases e; exact rec_ s' q
      | _ => rw [q2] at e; cases e
    | bk s' =>
      rw [q] at e
      cases q2 : turn (enc a) (st s) with
      | bk ρ => rw [q2] at e; cases e; rfl
      | _ => rw [q2] at e; cases e
    | rt v s' =>
      rw [q] at e
      cases q2 : turn (enc a) (st s) with
      | rt w ρ => rw [q2] at e; cases e; rfl
      | _ => rw [q2] at e; cases e
    | er x s' =>
      rw [q] at e
      cases q2 : turn (enc a) (st s) with
      | er w ρ => rw [q2] at e; cases e; rfl
      | _ => rw [q2] at e; cases e
/-- a for that always goes on -/
theorem for_F {α σ : Type} {turn : D → Env → Fl} (enc : α → D) (st : σ → Env) (step : σ → α → σ) (I : σ → Prop) : ∀ (xs : List α) (s : σ), I s →
    (∀ s a, a ∈ xs → I s → (turn (enc a) (st s)).ct2 = .nx (st (step s a)) ∧ I (step s a)) → forLoop turn (xs.map enc) (st s) = .nx (st (xs.foldl step s)) ∧ I (xs.foldl step s)
  | [], s, h, _ => ⟨rfl, h⟩
  | a :: r, s, h, ht => by
    obtain ⟨e, hi⟩ := ht s a List.mem_cons_self h
    obtain ⟨r1, r2⟩ := for_F enc st step I r (step s a) hi fun s a ha => ht s a (List.mem_cons_of_mem _ ha)
    refine ⟨?_, r2⟩
    rw [List.map_cons, forLoop, List.foldl_cons]
    cases q2 : turn (enc a) (st s) with
    | nx ρ => rw [q2] at e; cases e; exact r1
    | ct ρ => rw [q2] at e; cases e; exact r1
    | _ => rw [q2] at e; cases e
/-- a for, by what holds ahead of each turn -/
theorem for_I {turn : D → Env → Fl} {N B C : Env → Prop} {R : VT → Env → Prop} (I : Env → Prop) : ∀ (items : List D) (ρ : Env), I ρ → (∀ d ρ, d ∈ items → I ρ → WF (turn d ρ) I N I R) → (∀ ρ, I ρ → N ρ) → WF (forLoop turn items ρ) N B C R
  | [], ρ, h, _, e => e ρ h
  | d :: r, ρ, h, st, e => by
    have s0 := st d ρ List.mem_cons_self h
    have nxt : ∀ ρ1, I ρ1 → WF (forLoop turn r ρ1) N B C R := fun ρ1 h1 => for_I I r ρ1 h1 (fun d ρ hd => st d ρ (List.mem_cons_of_mem _ hd)) e
    unfold forLoop
    cases q : turn d ρ with
    | nx ρ1 => rw [q] at s0; exact nxt ρ1 s0
    | ct ρ1 => rw [q] at s0; exact nxt ρ1 s0
    | bk ρ1 => rw [q] at s0; exact s0
    | rt v ρ1 => rw [q] at s0; exact s0
    | er x ρ1 => rw [q] at s0; exact s0
    | no => rw [q] at s0; exact s0
@[simp] theorem ct2_nx {ρ : Env} : (Fl.nx ρ).ct2 = .nx ρ := Eq.trans rfl rfl
@[simp] theorem ct2_ct {ρ : Env} : (Fl.ct ρ).ct2 = .nx ρ := Eq.trans rfl rfl
@[simp] theorem ct2_bk {ρ : Env} : (Fl.bk ρ).ct2 = .bk ρ := Eq.trans rfl rfl
@[simp] theorem ct2_rt {v : VT} {ρ : Env} : (Fl.rt v ρ).ct2 = .rt v ρ := Eq.trans rfl rfl
@[simp] theorem ct2_er {v : Exn} {ρ : Env} : (Fl.er v ρ).ct2 = .er v ρ := Eq.trans rfl rfl
@[simp] theorem ct2_if {c : Prop} [Decidable c] {a b : Fl} : (if c then a else b).ct2 = if c then a.ct2 else b.ct2 := by split <;> rfl
theorem wiped_len (ρ : Env) : ∀ vs : List Nat, (wiped ρ vs).length = ρ.length
  | [] => rfl
  | v :: vs => by rw [wiped, List.length_set, wiped_len ρ vs]
theorem rest_len (ρ₀ ρ : Env) : ∀ vs : List Nat, (restore ρ₀ vs ρ).length = ρ.length
  | [] => rfl
  | v :: vs => by rw [restore, List.length_set, rest_len ρ₀ ρ vs]
theorem wiped_at (ρ : Env) (j : Nat) : ∀ vs : List Nat, (wiped ρ vs)[j]? = if j ∈ vs ∧ j < ρ.length then some .em else ρ[j]?
  | [] => by simp [wiped]
  | v :: vs => by
    rw [wiped, List.getElem?_set, wiped_len, wiped_at ρ j vs]
    by_cases c : v = j
    · subst c
      by_cases l : v < ρ.length
      · simp [l]
      · simp [l]
    · have c' : ¬ j = v := fun h => c h.symm
      simp [c, c']
theorem restore_at (ρ₀ ρ : Env) (j : Nat) : ∀ vs : List Nat, (restore ρ₀ vs ρ)[j]? = if j ∈ vs ∧ j < ρ.length then some ((ρ₀[j]?).getD .em) else ρ[j]?
  | [] => by simp [restore]
  | v :: vs => by
    rw [restore, List.getElem?_set, rest_len, restore_at ρ₀ ρ j vs]
    by_cases c : v = j
    · subst c
      by_cases l : v < ρ.length
      · simp [l]
      · simp [l]
    · have c' : ¬ j = v := fun h => c h.symm
      simp [c, c']
theorem restore_wiped (ρ₀ ρ : Env) (vs : List Nat) : restore ρ₀ vs (wiped ρ vs) = restore ρ₀ vs ρ := by
  apply List.ext_getElem?
  intro j
  rw [restore_at, restore_at, wiped_len, wiped_at]
  split <;> rfl
theorem wipeE_wiped {ρ : Env} : ∀ {vs : List Nat} {ρ' : Env}, wipeE vs ρ = some ρ' → ρ' = wiped ρ vs
  | [], ρ', h => by cases h; rfl
  | v :: vs, ρ', h => by
    unfold wipeE at h
    cases q : wipeE vs ρ with
    | none => rw [q] at h; cases h
    | some ρ1 =>
      rw [q] at h
      have e := wipeE_wiped q
      subst e
      simp only [Option.bind_some] at h
      rw [wiped]
      split at h
      · cases h; rfl
      · cases h; rfl
      · cases h
theorem wipeE_in {ρ : Env} : ∀ {vs : List Nat} {ρ' : Env}, wipeE vs ρ = some ρ' → ∀ v ∈ vs, v < ρ.length
  | v :: vs, ρ', h, x, hx => by
    unfold wipeE at h
    cases q : wipeE vs ρ with
    | none => rw [q] at h; cases h
    | some ρ1 =>
      rw [q] at h
      simp only [Option.bind_some] at h
      rcases List.mem_cons.mp hx with e | hx
      · subst e
        split at h
        · rename_i e; exact (List.getElem?_eq_some_iff.mp e).1
        · rename_i e; exact (List.getElem?_eq_some_iff.mp e).1
        · cases h
      · exact wipeE_in q x hx
theorem restore_self {ρ : Env} {vs : List Nat} {ρ' : Env} (h : wipeE vs ρ = some ρ') : restore ρ vs ρ' = ρ := by
  have e := wipeE_wiped h
  subst e
  rw [restore_wiped]
  apply List.ext_getElem?
  intro j
  rw [restore_at]
  by_cases c : j ∈ vs ∧ j < ρ.length
  · rw [if_pos c, List.getElem?_eq_getElem c.2]
    rfl
  · rw [if_neg c]
@[simp] theorem wipeE_nil {ρ : Env} : wipeE [] ρ = some ρ := Eq.trans rfl rfl
@[simp] theorem wipeE_cons {ρ : Env} {v : Nat} {vs : List Nat} : wipeE (v :: vs) ρ = (wipeE vs ρ).bind fun ρ' => match ρ[v]? with | some x => if x.wp then some (ρ'.set v .em) else none | none => none := by
  rw [wipeE]
  congr 1
  funext ρ'
  cases ρ[v]? with
  | none => rfl
  | some x => cases x <;> rfl
@[simp] theorem wiped_nil {ρ : Env} : wiped ρ [] = ρ := Eq.trans rfl rfl
@[simp] theorem wiped_cons {ρ : Env} {v : Nat} {vs : List Nat} : wiped ρ (v :: vs) = (wiped ρ vs).set v .em := Eq.trans rfl rfl
@[simp] theorem restore_nil {ρ₀ ρ : Env} : restore ρ₀ [] ρ = ρ := Eq.trans rfl rfl
@[simp] theorem restore_cons {ρ₀ ρ : Env} {v : Nat} {vs : List Nat} : restore ρ₀ (v :: vs) ρ = (restore ρ₀ vs ρ).set v ((ρ₀[v]?).getD .em) := Eq.trans rfl rfl
/-- what is kept, with a state -/
def keepS {α σ : Type} (f : σ → α → Option D) (g : σ → α → σ) : List α → σ → List D
  | [], _ => []
  | a :: r, s => match f s a with
    | some v => v :: keepS f g r (g s a)
    | none => keepS f g r (g s a)
theorem keepS_len {α σ : Type} (f : σ → α → Option D) (g : σ → α → σ) : ∀ (xs : List α) (s : σ), (keepS f g xs s).length ≤ xs.length
  | [], _ => Nat.le_refl _
  | a :: r, s => by
    rw [keepS]
    have := keepS_len f g r (g s a)
    cases f s a <;> simp only [List.length_cons] <;> omega
theorem lcL {α σ : Type} {turn : D → Env → Out (Option D)} {own : List Nat} (enc : α → D) (st : σ → Env) (f : σ → α → Option D) (g : σ → α → σ) (I : σ → Prop) : ∀ (xs : List α) (s : σ) (acc : List D) (ρ : Env), I s → wiped ρ own = st s → acc.length + xs.length ≤ SZ →
    (∀ s a, a ∈ xs → I s → I (g s a) ∧ ∃ ρ', turn (enc a) (st s) = .ok (f s a) ρ' ∧ wiped ρ' own = st (g s a)) → ∃ ρ', lcLoop turn own (xs.map enc) acc ρ = .ok (acc ++ keepS f g xs s) ρ' ∧ wiped ρ' own = st (xs.foldl g s) ∧ I (xs.foldl g s)
  | [], s, acc, ρ, h, hw, _, _ => ⟨ρ, by simp [lcLoop, keepS], hw, h⟩
  | a :: r, s, acc, ρ, h, hw, hz, ht => by
    obtain ⟨h1, ρ1, e1, w1⟩ := ht s a List.mem_cons_self h
    rw [List.length_cons] at hz
    have ht' : ∀ s a, a ∈ r → I s → I (g s a) ∧ ∃ ρ', turn (enc a) (st s) = .ok (f s a) ρ' ∧ wiped ρ' own = st (g s a) := fun s a ha => ht s a (List.mem_cons_of_mem _ ha)
    rw [List.map_cons, lcLoop, hw, e1]
    cases q : f s a with
    | none =>
      obtain ⟨ρ2, e2, w2, i2⟩ := lcL enc st f g I r (g s a) acc ρ1 h1 w1 (by omega) ht'
      exact ⟨ρ2, by rw [keepS, q]; exact e2, w2, i2⟩
    | some v =>
      obtain ⟨ρ2, e2, w2, i2⟩ := lcL enc st f g I r (g s a) (acc ++ [v]) ρ1 h1 w1 (by rw [List.length_append, List.length_singleton]; omega) ht'
      refine ⟨ρ2, ?_, w2, i2⟩
      show (if acc.length < SZ then lcLoop turn own (r.map enc) (acc ++ [v]) ρ1 else .no) = _
      rw [if_pos (by omega), e2, keepS, q, List.append_assoc]
      rfl
/-- a comprehension that changes what lies round it -/
theorem lc_S {α σ : Type} {turn : D → Env → Out (Option D)} {own : List Nat} {ρ0 : Env} (enc : α → D) (st : σ → Env) (f : σ → α → Option D) (g : σ → α → σ) (I : σ → Prop) (xs : List α) (s : σ)
    (hw : wipeE own ρ0 = some (st s)) (hi : I s) (hz : xs.length ≤ SZ) (h : ∀ s a, a ∈ xs → I s → I (g s a) ∧ ∃ ρ', turn (enc a) (st s) = .ok (f s a) ρ' ∧ wiped ρ' own = st (g s a)) :
    lcAll own turn (xs.map enc) ρ0 = .ok (.fr (keepS f g xs s)) (restore ρ0 own (st (xs.foldl g s))) ∧ I (xs.foldl g s) := by
  have e := wipeE_wiped hw
  obtain ⟨ρ', e1, w1, i1⟩ := lcL (turn := turn) (own := own) enc st f g I xs s [] (st s) hi (by
    rw [e]
    apply List.ext_getElem?
    intro j
    rw [wiped_at, wiped_len, wiped_at]
    split <;> rfl) (by simpa using hz) h
  refine ⟨?_, i1⟩
  unfold lcAll
  rw [hw]
  show lcFin ρ0 own _ = _
  rw [e1]
  show Out.ok _ _ = _
  rw [List.nil_append, ← w1, restore_wiped]
def mapS {α β σ : Type} (f : σ → α → β) (g : σ → α → σ) : List α → σ → List β
  | [], _ => []
  | a :: r, s => f s a :: mapS f g r (g s a)
theorem keepS_map {α β σ : Type} (enc : β → D) (f : σ → α → β) (g : σ → α → σ) : ∀ (xs : List α) (s : σ), keepS (fun s a => some (enc (f s a))) g xs s = (mapS f g xs s).map enc
  | [], _ => rfl
  | a :: r, s => by rw [keepS, mapS, List.map_cons, keepS_map enc f g r]
theorem mapS_len {α β σ : Type} (f : σ → α → β) (g : σ → α → σ) : ∀ (xs : List α) (s : σ), (mapS f g xs s).length = xs.length
  | [], _ => rfl
  | a :: r, s => by rw [mapS, List.length_cons, List.length_cons, mapS_len f g r]
theorem mapS_all {α β σ : Type} {f : σ → α → β} {g : σ → α → σ} (I : σ → Prop) (P : β → Prop) : ∀ (xs : List α) (s : σ), I s → (∀ s a, a ∈ xs → I s → I (g s a) ∧ P (f s a)) → ∀ x ∈ mapS f g xs s, P x
  | [], _, _, _ => fun x h => by cases h
  | a :: r, s, h, ht => fun x hx => by
    rw [mapS] at hx
    obtain ⟨h1, h2⟩ := ht s a List.mem_cons_self h
    rcases List.mem_cons.mp hx with e | hx
    · subst e; exact h2
    · exact mapS_all I P r (g s a) h1 (fun s a ha => ht s a (List.mem_cons_of_mem _ ha)) x hx
theorem keepS_unit {α : Type} (f : α → Option D) : ∀ xs : List α, keepS (σ := Unit) (fun _ a => f a) (fun _ _ => ()) xs () = xs.filterMap f
  | [] => rfl
  | a :: r => by
    rw [keepS, List.filterMap_cons, keepS_unit f r]
    cases f a <;> rfl
/-- a comprehension that changes nothing -/
theorem lc_P {α : Type} {turn : D → Env → Out (Option D)} {own : List Nat} {ρ0 ρw : Env} (enc : α → D) (f : α → Option D) (xs : List α)
    (hw : wipeE own ρ0 = some ρw) (hz : xs.length ≤ SZ) (h : ∀ a ∈ xs, ∃ ρ', turn (enc a) ρw = .ok (f a) ρ' ∧ wiped ρ' own = ρw) :
    lcAll own turn (xs.map enc) ρ0 = .ok (.fr (xs.filterMap f)) ρ0 := by
  have := (lc_S (σ := Unit) enc (fun _ => ρw) (fun _ a => f a) (fun _ _ => ()) (fun _ => True) xs () hw trivial hz fun s a ha _ => ⟨trivial, h a ha⟩).1
  rw [this, keepS_unit, restore_self hw]
/-- .. and keeps all -/
theorem lc_M {α : Type} {turn : D → Env → Out (Option D)} {own : List Nat} {ρ0 ρw : Env} (enc : α → D) (f : α → D) (xs : List α)
    (hw : wipeE own ρ0 = some ρw) (hz : xs.length ≤ SZ) (h : ∀ a ∈ xs, ∃ ρ', turn (enc a) ρw = .ok (some (f a)) ρ' ∧ wiped ρ' own = ρw) :
    lcAll own turn (xs.map enc) ρ0 = .ok (.fr (xs.map f)) ρ0 := by
  rw [lc_P enc (fun a => some (f a)) xs hw hz h, List.filterMap_eq_map']
@[simp] theorem at_0 {α : Type} {a : α} {r : List α} : atI (a :: r) 0 = some a := by
  have := atI_nat (l := a :: r) (i := 0) (by simp)
  simpa using this
@[simp] theorem at_1 {α : Type} {a b : α} {r : List α} : atI (a :: b :: r) 1 = some b := by
  have := atI_nat (l := a :: b :: r) (i := 1) (by simp)
  simpa using this
@[simp] theorem at_2 {α : Type} {a b c : α} {r : List α} : atI (a :: b :: c :: r) 2 = some c := by
  have := atI_nat (l := a :: b :: c :: r) (i := 2) (by simp)
  simpa using this
@[simp] theorem at_3 {α : Type} {a b c d : α} {r : List α} : atI (a :: b :: c :: d :: r) 3 = some d := by
  have := atI_nat (l := a :: b :: c :: d :: r) (i := 3) (by simp)
  simpa using this
theorem atI_map {α : Type} {xs : List α} {f : α → D} {i : Nat} {x : α} (h : xs[i]? = some x) : atI (xs.map f) (i : Int) = some (f x) := by
  have := (List.getElem?_eq_some_iff.mp h).1
  rw [atI_nat (by simpa using this), List.getElem?_map, h]
  rfl
theorem at_last {α : Type} {l : List α} {x : α} (h : l.getLast? = some x) : atI l (-1) = some x := by
  have hl : 0 < l.length := by
    cases l with
    | nil => cases h
    | cons _ _ => simp
  rw [List.getLast?_eq_getElem?] at h
  unfold atI ixN
  rw [if_neg (by decide), if_pos (by omega)]
  show l[((-1 : Int) + (l.length : Int)).toNat]? = _
  rw [show ((-1 : Int) + (l.length : Int)).toNat = l.length - 1 by omega, h]
theorem foldl_1 {α β γ : Type} {f : α × β → γ → α × β} {g : α → γ → α} (h : ∀ s a, (f s a).1 = g s.1 a) : ∀ (xs : List γ) (s : α × β), (xs.foldl f s).1 = xs.foldl g s.1
  | [], _ => rfl
  | a :: r, s => by rw [List.foldl_cons, List.foldl_cons, foldl_1 h r, h]
@[simp] theorem neg_int {i : Int} : negV (.int i) = some (.pl (.int (-i))) := Eq.trans rfl rfl
/-- places beside each other -/
def adj {α : Type} (ps : List α) : List (α × α) := ps.zip ps.tail
theorem adj_len {α : Type} (ps : List α) : (adj ps).length = ps.length - 1 := by simp [adj]
theorem adj_at {α : Type} {ps : List α} {k : Nat} {a b : α} (h : (adj ps)[k]? = some (a, b)) : ps[k]? = some a ∧ ps[k + 1]? = some b := by
  unfold adj at h
  rw [List.getElem?_zip_eq_some] at h
  obtain ⟨h1, h2⟩ := h
  exact ⟨h1, by rw [← h2, List.getElem?_tail]⟩
@[simp] theorem adj_cons {α : Type} {a b : α} {r : List α} : adj (a :: b :: r) = (a, b) :: adj (b :: r) := Eq.trans rfl rfl
@[simp] theorem adj_one {α : Type} {a : α} : adj [a] = [] := Eq.trans rfl rfl
@[simp] theorem adj_nil {α : Type} : adj ([] : List α) = [] := Eq.trans rfl rfl
theorem run_w {df : Df} {cl : Nat → List Ar → Ret} {as : List Ar} {v : VT} (hl : as.length = df.ps.length) (hio : df.io = []) (hp : ioPos 0 as = []) (h : WF (ex cl df.body (as.map Ar.slot ++ List.replicate (df.N.length - as.length) .em)) (fun _ => False) (fun _ => False) (fun _ => False) fun w _ => w = v) : runDef df cl as = .ok v [] := by
  unfold runDef
  rw [if_pos ⟨hl, by rw [hio, hp]⟩]
  generalize ex cl df.body _ = fl at h ⊢
  cases fl with
  | rt w ρ => cases h; rw [hio]; rfl
  | _ => exact h.elim
/-- .. and what it gives back -/
theorem run_w2 {df : Df} {cl : Nat → List Ar → Ret} {as : List Ar} {P : VT → List (List D) → Prop} (hl : as.length = df.ps.length) (hio : df.io = ioPos 0 as)
    (h : WF (ex cl df.body (as.map Ar.slot ++ List.replicate (df.N.length - as.length) .em)) (fun _ => False) (fun _ => False) (fun _ => False) fun v ρ => ∃ o, outs ρ df.io = some o ∧ P v o) : ∃ v o, runDef df cl as = .ok v o ∧ P v o := by
  unfold runDef
  rw [if_pos ⟨hl, hio⟩]
  generalize ex cl df.body _ = fl at h ⊢
  cases fl with
  | rt w ρ =>
    obtain ⟨o, h1, h2⟩ := h
    refine ⟨w, o, ?_, h2⟩
    simp [h1]
  | _ => exact h.elim
/-- a run whose end is known -/
def Fl.val : Fl → Option VT
  | .rt v _ => some v
  | _ => none
theorem WF_val {o : Fl} {v : VT} (h : o.val = some v) {N B C : Env → Prop} {R : VT → Env → Prop} (hr : ∀ ρ, R v ρ) : WF o N B C R := by
  cases o with
  | rt w ρ => cases h; exact hr ρ
  | _ => cases h
end Sw

end
section
set_option maxRecDepth 100000
set_option maxHeartbeats 4000000
namespace Sw
open PySem (PyData Str)
def hDraw : Df := ⟨"_law_draw", ["row", "at", "limit"], [], ["row", "at", "limit", "stirred"],
   (.seq (.ite (.cmp .lt (.var 1) (.blt .len (.cs (.var 0) .nl)))
   (.ret (.bin .mod (.blt .int (.cs (.idx (.var 0) (.var 1)) .nl)) (.var 2)))
   .nop)
   (.seq (.set 3 (.bin .mod (.blt .int (.cs (.bin .add (.bin .add (.bin .mul (.idx (.var 0) (.bin .mod (.blt .int (.cs (.var 1) .nl)) (.blt .len (.cs (.var 0) .nl)))) (.cst (.int 40692))) (.bin .mul (.var 1) (.cst (.int 7919)))) (.cst (.int 3))) .nl)) (.cst (.int 2147483399))))
   (.ret (.bin .mod (.blt .int (.cs (.bin .mod (.blt .int (.cs (.bin .add (.bin .mul (.var 3) (.cst (.int 48271))) (.var 1)) .nl)) (.cst (.int 2147483647))) .nl)) (.var 2)))))⟩
def hTake (a : Nat) : Df := ⟨"_law_take", ["row", "spot", "limit"], [1], ["row", "spot", "limit"],
   (.seq (.sti 1 (.cst (.int 0)) (.bin .add (.idx (.bor 1) (.cst (.int 0))) (.cst (.int 1))))
   (.ret (.cal a (.cs (.var 0) (.cs (.bin .sub (.idx (.bor 1) (.cst (.int 0))) (.cst (.int 1))) (.cs (.var 2) .nl))))))⟩
def hListed (a : Nat) : Df := ⟨"_law_listed", ["value"], [], ["value", "one"],
   (.seq (.ite (.blt (.isi .tuple) (.cs (.var 0) .nl))
   (.ret (.lcp [1] (.nm 1) (.var 0) .nl (.cal a (.cs (.var 1) .nl))))
   .nop)
   (.ret (.var 0)))⟩
def hHanded (a : Nat) (b : Nat) : Df := ⟨"_law_handed", ["row", "spot", "value"], [1], ["row", "spot", "value"],
   (.ret (.ite (.cmp .eq (.cal a (.cs (.var 0) (.io 1 (.cs (.cst (.int 2)) .nl)))) (.cst (.int 0))) (.cal b (.cs (.var 2) .nl)) (.var 2)))⟩
def hPick (a : Nat) : Df := ⟨"_law_pick", ["row", "spot", "things"], [1], ["row", "spot", "things"],
   (.ret (.idx (.var 2) (.cal a (.cs (.var 0) (.io 1 (.cs (.blt .len (.cs (.var 2) .nl)) .nl))))))⟩
def hSo (a : Nat) : Df := ⟨"_law_so", ["found", "meant"], [], ["found", "meant", "k"],
   (.seq (.ite (.cmp .isn (.var 1) (.cst .none))
   (.ret (.cmp .isn (.var 0) (.cst .none)))
   .nop)
   (.seq (.ite (.blt (.isi .tuple) (.cs (.var 1) .nl))
   (.seq (.ite (.or (.not (.blt (.isi .tuple) (.cs (.var 0) .nl))) (.cmp .ne (.blt .len (.cs (.var 0) .nl)) (.blt .len (.cs (.var 1) .nl))))
   (.ret (.cst (.bool false)))
   .nop)
   (.seq (.forr (.nm 2) (.rng (.cs (.blt .len (.cs (.var 1) .nl)) .nl))
   (.ite (.not (.cal a (.cs (.idx (.var 0) (.var 2)) (.cs (.idx (.var 1) (.var 2)) .nl))))
   (.ret (.cst (.bool false)))
   .nop))
   (.ret (.cst (.bool true)))))
   .nop)
   (.seq (.ite (.or (.blt (.isi .bool) (.cs (.var 1) .nl)) (.blt (.isi .bool) (.cs (.var 0) .nl)))
   (.ret (.and (.blt (.isi .bool) (.cs (.var 1) .nl)) (.and (.blt (.isi .bool) (.cs (.var 0) .nl)) (.cmp .eq (.var 0) (.var 1)))))
   .nop)
   (.seq (.ite (.blt (.isi .int) (.cs (.var 1) .nl))
   (.ret (.and (.blt (.isi .int) (.cs (.var 0) .nl)) (.cmp .eq (.var 0) (.var 1))))
   .nop)
   (.ret (.and (.blt (.isi .str) (.cs (.var 1) .nl)) (.and (.blt (.isi .str) (.cs (.var 0) .nl)) (.cmp .eq (.var 0) (.var 1)))))))))⟩
def hNumbers : Df := ⟨"_law_numbers", ["script"], [], ["script", "row", "single", "left", "k", "stirred"],
   (.seq (.own 1 (.lst .nl))
   (.seq (.forr (.nm 2) (.sli (.var 0) .nl (.cst (.int 63)))
   (.ite (.cmp .ge (.var 2) (.bin .pow (.cst (.int 10)) (.cst (.int 18))))
   (.seq (.set 3 (.var 2))
   (.forr (.nm 4) (.rng (.cs (.cst (.int 60)) .nl))
   (.seq (.ite (.cmp .eq (.var 3) (.cst (.int 0)))
   .brk
   .nop)
   (.seq (.app 1 (.bin .mod (.blt .int (.cs (.var 3) .nl)) (.cst (.int 997))))
   (.set 3 (.bin .fdiv (.var 3) (.cst (.int 997))))))))
   (.forr (.nm 4) (.rng (.cs (.cst (.int 4)) .nl))
   (.seq (.set 5 (.bin .mod (.blt .int (.cs (.bin .add (.bin .add (.bin .mul (.var 2) (.cst (.int 48271))) (.bin .mul (.var 4) (.cst (.int 69621)))) (.cst (.int 11))) .nl)) (.cst (.int 2147483647))))
   (.app 1 (.bin .mod (.blt .int (.cs (.bin .add (.bin .mul (.var 5) (.cst (.int 16807))) (.var 4)) .nl)) (.cst (.int 2147483629))))))))
   (.seq (.ite (.cmp .eq (.blt .len (.cs (.bor 1) .nl)) (.cst (.int 0)))
   (.app 1 (.cst (.int 0)))
   .nop)
   (.ret (.mov 1)))))⟩
def hIsWhole : Df := ⟨"is_whole", ["value", "low", "high"], [], ["value", "low", "high"],
   (.seq (.ite (.or (.blt (.isi .bool) (.cs (.var 0) .nl)) (.not (.blt (.isi .int) (.cs (.var 0) .nl))))
   (.ret (.cst (.bool false)))
   .nop)
   (.seq (.ite (.and (.cmp .notn (.var 1) (.cst .none)) (.cmp .lt (.var 0) (.var 1)))
   (.ret (.cst (.bool false)))
   .nop)
   (.ret (.or (.cmp .isn (.var 2) (.cst .none)) (.cmp .le (.var 0) (.var 2))))))⟩
def hNeedWhole (a : Nat) : Df := ⟨"need_whole", ["value", "low", "high", "at"], [], ["value", "low", "high", "at"],
   (.seq (.ite (.not (.cal a (.cs (.var 0) (.cs (.var 1) (.cs (.var 2) .nl)))))
   (.rais "BadValue" (.var 3))
   .nop)
   (.ret (.var 0)))⟩
def hIsRow : Df := ⟨"is_row", ["value", "least", "most"], [], ["value", "least", "most"],
   (.seq (.ite (.not (.blt (.isis [.list, .tuple]) (.cs (.var 0) .nl)))
   (.ret (.cst (.bool false)))
   .nop)
   (.ret (.and (.cmp .ge (.blt .len (.cs (.var 0) .nl)) (.var 1)) (.or (.cmp .isn (.var 2) (.cst .none)) (.cmp .le (.blt .len (.cs (.var 0) .nl)) (.var 2))))))⟩
def hNeedRow (a : Nat) : Df := ⟨"need_row", ["value", "least", "most", "at"], [], ["value", "least", "most", "at"],
   (.seq (.ite (.not (.cal a (.cs (.var 0) (.cs (.var 1) (.cs (.var 2) .nl)))))
   (.rais "BadValue" (.var 3))
   .nop)
   (.ret (.blt .tuple (.cs (.var 0) .nl))))⟩
def hIsTupleOf (a : Nat) (b : Nat) : Df := ⟨"is_tuple_of", ["value", "bounds"], [], ["value", "bounds", "thing", "low", "high"],
   (.seq (.ite (.not (.cal b (.cs (.var 0) (.cs (.blt .len (.cs (.var 1) .nl)) (.cs (.blt .len (.cs (.var 1) .nl)) .nl)))))
   (.ret (.cst (.bool false)))
   .nop)
   (.ret (.blt .all (.cs (.lcp [2, 3, 4] (.tp (.cs (.nm 2) (.cs (.tp (.cs (.nm 3) (.cs (.nm 4) .nl))) .nl))) (.zip (.var 0) (.var 1)) .nl (.cal a (.cs (.var 2) (.cs (.var 3) (.cs (.var 4) .nl))))) .nl))))⟩
def hNeedTuples (a : Nat) (b : Nat) : Df := ⟨"need_tuples", ["value", "least", "most", "bounds", "at"], [], ["value", "least", "most", "bounds", "at", "rows", "row"],
   (.seq (.set 5 (.cal a (.cs (.var 0) (.cs (.var 1) (.cs (.var 2) (.cs (.var 4) .nl))))))
   (.seq (.forr (.nm 6) (.var 5)
   (.ite (.not (.cal b (.cs (.var 6) (.cs (.var 3) .nl))))
   (.rais "BadValue" (.var 4))
   .nop))
   (.ret (.blt .tuple (.cs (.lcp [6] (.nm 6) (.var 5) .nl (.blt .tuple (.cs (.var 6) .nl))) .nl)))))⟩
/-- a row of numbers -/
structure RowOk (row : List Int) : Prop where
  ne : row ≠ []
  sz : row.length ≤ 100000

theorem mulOk_r {i j : Int} (h : -1000000 ≤ j ∧ j ≤ 1000000) : mulOk i j = true := by
  unfold mulOk
  simp
  right
  omega
theorem atI_int {row : List Int} {i : Int} (h0 : 0 ≤ i) (h1 : i < row.length) : ∃ x, x ∈ row ∧ atI (ints_ row) i = some (.int x) := by
  obtain ⟨n, rfl⟩ := Int.eq_ofNat_of_zero_le h0
  have h : n < row.length := by omega
  refine ⟨row[n], List.getElem_mem h, ?_⟩
  rw [atI_nat (by simpa using h)]
  simp [h]
theorem fmod_lo {i j : Int} (h : 0 < j) : 0 ≤ i.fmod j := Int.fmod_nonneg_of_pos i h
theorem fmod_hi {i j : Int} (h : 0 < j) : i.fmod j < j := Int.fmod_lt_of_pos i h
theorem draw_ok {Γ : List Df} {n f : Nat} (hf : Γ[f]? = some hDraw) {row : List Int} (hr : RowOk row) {k l : Int} (hk : 0 ≤ k) (hl : 0 < l) :
    ∃ r, 0 ≤ r ∧ r < l ∧ call Γ (n + 1) f [.pl (.list (ints_ row)), .pl (.int k), .pl (.int l)] = .ok (.pl (.int r)) [] := by
  rw [call_s hf]
  have l0 : ¬ l = 0 := by omega
  have p : 0 < (row.length : Int) := by
    have := hr.ne
    cases row with
    | nil => exact absurd rfl this
    | cons _ _ => simp
  by_cases c : k < row.length
  · obtain ⟨x, _, hx⟩ := atI_int hk c
    refine ⟨x.fmod l, fmod_lo hl, fmod_hi hl, ?_⟩
    simp [runDef, hDraw, c, hx, l0]
  · obtain ⟨x, _, hx⟩ := atI_int (row := row) (i := k.fmod row.length) (fmod_lo p) (fmod_hi p)
    have p0 : ¬ (row.length : Int) = 0 := by omega
    have m1 : mulOk x 40692 = true := mulOk_r (by omega)
    have m2 : mulOk k 7919 = true := mulOk_r (by omega)
    have m3 : ∀ y, mulOk y 48271 = true := fun y => mulOk_r (by omega)
    refine ⟨((((x * 40692 + k * 7919 + 3).fmod 2147483399) * 48271 + k).fmod 2147483647).fmod l, fmod_lo hl, fmod_hi hl, ?_⟩
    simp [runDef, hDraw, c, hx, l0, hr.ne, m1, m2, m3]
/-- a draw: the next number below l -/
theorem take_ok {Γ : List Df} {n f g : Nat} (hf : Γ[f]? = some hDraw) (hg : Γ[g]? = some (hTake f)) {row : List Int} (hr : RowOk row) {k l : Int} (hk : 0 ≤ k) (hl : 0 < l) :
    ∃ r, 0 ≤ r ∧ r < l ∧ call Γ (n + 2) g [.pl (.list (ints_ row)), .io [.int k], .pl (.int l)] = .ok (.pl (.int r)) [[.int (k + 1)]] := by
  obtain ⟨r, h0, h1, e⟩ := draw_ok (n := n) hf hr hk hl
  refine ⟨r, h0, h1, ?_⟩
  rw [call_s hg]
  have a0 : ∀ x : D, atI [x] 0 = some x := fun x => rfl
  have i0 : ixN 1 0 = some 0 := rfl
  have s : k + 1 - 1 = k := by omega
  simp [runDef, hTake, a0, i0, s, e]
/-- one of several -/
theorem pick_ok {Γ : List Df} {n f g p : Nat} (hf : Γ[f]? = some hDraw) (hg : Γ[g]? = some (hTake f)) (hp : Γ[p]? = some (hPick g)) {row : List Int} (hr : RowOk row) {k : Int} {xs : List D} (hk : 0 ≤ k) (hx : 0 < xs.length) :
    ∃ x, x ∈ xs ∧ call Γ (n + 3) p [.pl (.list (ints_ row)), .io [.int k], .pl (.list xs)] = .ok (.pl x) [[.int (k + 1)]] := by
  obtain ⟨r, h0, h1, e⟩ := take_ok (n := n) hf hg hr hk (l := (xs.length : Int)) (by omega)
  obtain ⟨i, rfl⟩ := Int.eq_ofNat_of_zero_le h0
  have hi : i < xs.length := by omega
  refine ⟨xs[i], List.getElem_mem hi, ?_⟩
  rw [call_s hp]
  have ea : atI xs (i : Int) = some xs[i] := by rw [atI_nat hi]; simp [hi]
  simp [runDef, hPick, e, ea]
mutual
def listed : D → D
  | .tuple l => .list (listeds l)
  | d => d
def listeds : List D → List D
  | [] => []
  | d :: r => listed d :: listeds r
end
mutual
def dep : D → Nat
  | .tuple l => deps l + 1
  | _ => 1
def deps : List D → Nat
  | [] => 0
  | d :: r => max (dep d) (deps r)
end
mutual
def noDct : D → Bool
  | .dict _ => false
  | .tuple l => noDcts l && decide (l.length ≤ 1000000)
  | _ => true
def noDcts : List D → Bool
  | [] => true
  | d :: r => noDct d && noDcts r
end
theorem listeds_map : ∀ l : List D, listeds l = l.map listed
  | [] => rfl
  | d :: r => by rw [listeds, listeds_map r]; rfl
theorem deps_mem : ∀ {l : List D} {d : D}, d ∈ l → dep d ≤ deps l
  | x :: r, d, h => by
    rcases List.mem_cons.mp h with e | h
    · subst e
      exact Nat.le_max_left _ _
    · exact Nat.le_trans (deps_mem h) (Nat.le_max_right _ _)
theorem noDcts_mem : ∀ {l : List D} {d : D}, noDcts l = true → d ∈ l → noDct d = true
  | x :: r, d, q, h => by
    have q := Bool.and_eq_true_iff.mp q
    rcases List.mem_cons.mp h with e | h
    · subst e
      exact q.1
    · exact noDcts_mem q.2 h
/-- a comprehension over the items, each turned by f -/
theorem lc_map {turn : D → Env → Out (Option D)} {own : List Nat} {f : D → D} {P : Env → Prop} : ∀ (items acc : List D) (ρ : Env), P ρ → acc.length + items.length ≤ SZ → (∀ d ∈ items, ∀ ρ, P ρ → ∃ ρ', P ρ' ∧ turn d (wiped ρ own) = .ok (some (f d)) ρ') →
    ∃ ρ', P ρ' ∧ lcLoop turn own items acc ρ = .ok (acc ++ items.map f) ρ'
  | [], acc, ρ, h, _, _ => ⟨ρ, h, by simp [lcLoop]⟩
  | d :: r, acc, ρ, h, hz, st => by
    obtain ⟨ρ1, h1, e1⟩ := st d List.mem_cons_self ρ h
    rw [List.length_cons] at hz
    obtain ⟨ρ2, h2, e2⟩ := lc_map r (acc ++ [f d]) ρ1 h1 (by rw [List.length_append, List.length_singleton]; omega) fun d hd => st d (List.mem_cons_of_mem _ hd)
    refine ⟨ρ2, h2, ?_⟩
    unfold lcLoop
    rw [e1]
    show (if acc.length < SZ then lcLoop turn own r (acc ++ [f d]) ρ1 else .no) = _
    rw [if_pos (by omega), e2, List.map_cons, List.append_assoc]
    rfl
def listedV : D → VT
  | .tuple l => .fr (l.map listed)
  | v => .pl v
theorem listedV_d (v : D) : (listedV v).d = listed v := by
  cases v with
  | tuple l => show PyData.list (l.map listed) = _; rw [listed, listeds_map]
  | _ => rfl
theorem listed_ok {Γ : List Df} {f : Nat} (hf : Γ[f]? = some (hListed f)) : ∀ (n : Nat) (v : D), noDct v = true → dep v ≤ n → call Γ n f [.pl v] = .ok (listedV v) []
  | 0, v, h, hd => by cases v <;> simp [dep] at hd
  | n + 1, v, h, hd => by
    rw [call_s hf]
    cases v with
    | tuple l =>
      have hd : deps l + 1 ≤ n + 1 := by simpa [dep] using hd
      obtain ⟨h1, h2⟩ := Bool.and_eq_true_iff.mp (show (noDcts l && decide (l.length ≤ 1000000)) = true by simpa [noDct] using h)
      obtain ⟨ρ', hρ, e⟩ := lc_map (turn := lcTurn (.nm 1) (ev (call Γ n) .nl).t (ev (call Γ n) (.cal f (.cs (.var 1) .nl))).v) (own := [1]) (f := listed) (P := fun ρ => ∃ x, ρ = [.pl (.tuple l), x] ∧ ∀ ds, x ≠ .io ds ∧ x ≠ .ow ds) l [] [.pl (.tuple l), .em] ⟨.em, rfl, fun ds => ⟨by simp, by simp⟩⟩
        (by have := of_decide_eq_true h2; simp [SZ]; omega) fun d hd2 ρ hρ => by
          obtain ⟨x, rfl, _⟩ := hρ
          have q2 := listed_ok hf n d (noDcts_mem h1 hd2) (by have := deps_mem hd2; omega)
          have q1 := listedV_d d
          refine ⟨[.pl (.tuple l), .pl d], ⟨_, rfl, fun ds => ⟨by simp, by simp⟩⟩, ?_⟩
          simp [q2, q1]
      obtain ⟨x, rfl, hx⟩ := hρ
      simp only [List.nil_append] at e
      simp [runDef, hListed, isTy, lcAll, e, lcFin, listedV]
    | dict _ => simp [noDct] at h
    | none => simp [runDef, hListed, isTy, listedV]
    | bool b => simp [runDef, hListed, isTy, listedV]
    | int b => simp [runDef, hListed, isTy, listedV]
    | str b => simp [runDef, hListed, isTy, bfn, isiF, isDict, listedV]
    | list b => simp [runDef, hListed, isTy, listedV]
mutual
def soD : D → Bool
  | .tuple l => soDs l && decide (l.length ≤ 1000000)
  | .list _ => false
  | .dict _ => false
  | .str x => PySem.SeqAt.shaped (.str x)
  | _ => true
def soDs : List D → Bool
  | [] => true
  | d :: r => soD d && soDs r
end
theorem soDs_mem : ∀ {l : List D} {d : D}, soDs l = true → d ∈ l → soD d = true
  | x :: r, d, q, h => by
    have q := Bool.and_eq_true_iff.mp q
    rcases List.mem_cons.mp h with e | h
    · subst e
      exact q.1
    · exact soDs_mem q.2 h
theorem intsFrom_at : ∀ (n : Nat) (lo : Int) (i : Nat) (d : D), (intsFrom lo n)[i]? = some d → i < n ∧ d = .int (lo + i)
  | 0, _, i, d, h => by simp [intsFrom] at h
  | n + 1, lo, 0, d, h => by
    simp [intsFrom] at h
    exact ⟨Nat.succ_pos _, by rw [← h]; simp⟩
  | n + 1, lo, i + 1, d, h => by
    obtain ⟨h1, h2⟩ := intsFrom_at n (lo + 1) i d (by simpa [intsFrom] using h)
    refine ⟨Nat.succ_lt_succ h1, ?_⟩
    rw [h2]
    congr 1
    omega
theorem ok62_n {n : Nat} (h : n ≤ 1000000) : ok62 (n : Int) = true := by
  unfold ok62
  rw [Bool.and_eq_true]
  exact ⟨decide_eq_true (by omega), decide_eq_true (by omega)⟩
theorem soD_tup {l : List D} (h : soD (.tuple l) = true) : soDs l = true ∧ l.length ≤ 1000000 := by
  unfold soD at h
  obtain ⟨a, b⟩ := Bool.and_eq_true_iff.mp h
  exact ⟨a, of_decide_eq_true b⟩
theorem soD_str {x : Str} (h : soD (.str x) = true) : PySem.SeqAt.shaped (.str x) = true := by
  unfold soD at h
  exact h
theorem eqv_refl_b (b : Bool) : PyData.eqv (.bool b) (.bool b) = true := by cases b <;> rfl

def soB (f : Nat) : Sm := .ite (.not (.cal f (.cs (.idx (.var 0) (.var 2)) (.cs (.idx (.var 1) (.var 2)) .nl)))) (.ret (.cst (.bool false))) .nop
theorem so_loop {cl : Nat → List Ar → Ret} {f : Nat} {l : List D} (es : ∀ d ∈ l, cl f [.pl d, .pl d] = .ok (.pl (.bool true)) []) {N B C : Env → Prop} {R : VT → Env → Prop} (hN : ∀ x, N [.pl (.tuple l), .pl (.tuple l), x]) :
    WF (forLoop (forTurn (.nm 2) (ex cl (soB f))) (intsFrom 0 l.length) [.pl (.tuple l), .pl (.tuple l), .em]) N B C R := by
  refine for_inv (fun _ ρ => ∃ x, ρ = [.pl (.tuple l), .pl (.tuple l), x] ∧ ∀ ds, x ≠ .io ds) _ 0 _ ⟨.em, rfl, by simp⟩ (fun i d ρ hd2 hI => ?_) fun ρ hI => by
    obtain ⟨x, rfl, _⟩ := hI
    exact hN x
  obtain ⟨x, rfl, hx⟩ := hI
  obtain ⟨hi, rfl⟩ := intsFrom_at _ _ _ _ hd2
  have ea : atI l (i : Int) = some l[i] := by rw [atI_nat hi]; simp [hi]
  rw [Int.zero_add]
  have es := es l[i] (List.getElem_mem hi)
  cases x with
  | io ds => exact absurd rfl (hx ds)
  | _ => simp [soB, ea, es]

theorem so_ok {Γ : List Df} {f : Nat} (hf : Γ[f]? = some (hSo f)) (n : Nat) : ∀ (v : D), soD v = true → dep v ≤ n → call Γ n f [.pl v, .pl v] = .ok (.pl (.bool true)) [] := by
  induction n with
  | zero => intro v h hd; cases v <;> simp [dep] at hd
  | succ n ih =>
    intro v h hd
    rw [call_s hf]
    cases v with
    | tuple l =>
      have hd : deps l + 1 ≤ n + 1 := by simpa [dep] using hd
      obtain ⟨h1, h2⟩ := soD_tup h
      have lp := so_loop (cl := call Γ n) (f := f) (l := l) (N := fun ρ => ∃ x, ρ = [.pl (.tuple l), .pl (.tuple l), x]) (B := fun _ => False) (C := fun _ => False) (R := fun _ _ => False) (fun d hd2 => ih d (soDs_mem h1 hd2) (by have := deps_mem hd2; omega)) fun x => ⟨x, rfl⟩
      unfold soB at lp
      generalize hL : forLoop _ _ _ = L at lp
      cases L with
      | nx ρ =>
        obtain ⟨x, rfl⟩ := lp
        simp [runDef, hSo, isTy, rng_n h2, hL]
      | _ => exact lp.elim
    | dict _ => simp [soD] at h
    | list _ => simp [soD] at h
    | none => simp [runDef, hSo, isTy]
    | bool b => simp [runDef, hSo, isTy]
    | int b => simp [runDef, hSo, isTy]
    | str b => simp [runDef, hSo, isTy, bfn, isiF, isDict, eq_self_str (soD_str h), isNone]
def nB1 : Sm := .seq (.ite (.cmp .eq (.var 3) (.cst (.int 0))) .brk .nop) (.seq (.app 1 (.bin .mod (.blt .int (.cs (.var 3) .nl)) (.cst (.int 997)))) (.set 3 (.bin .fdiv (.var 3) (.cst (.int 997)))))
def nB2 : Sm := .seq (.set 5 (.bin .mod (.blt .int (.cs (.bin .add (.bin .add (.bin .mul (.var 2) (.cst (.int 48271))) (.bin .mul (.var 4) (.cst (.int 69621)))) (.cst (.int 11))) .nl)) (.cst (.int 2147483647))))
   (.app 1 (.bin .mod (.blt .int (.cs (.bin .add (.bin .mul (.var 5) (.cst (.int 16807))) (.var 4)) .nl)) (.cst (.int 2147483629))))
def nB : Sm := .ite (.cmp .ge (.var 2) (.bin .pow (.cst (.int 10)) (.cst (.int 18)))) (.seq (.set 3 (.var 2)) (.forr (.nm 4) (.rng (.cs (.cst (.int 60)) .nl)) nB1)) (.forr (.nm 4) (.rng (.cs (.cst (.int 4)) .nl)) nB2)
theorem intsFrom_len_ : ∀ (n : Nat) (lo : Int), (intsFrom lo n).length = n
  | 0, _ => rfl
  | n + 1, lo => congrArg Nat.succ (intsFrom_len_ n (lo + 1))
def slotPl : Slot → Prop
  | .io _ => False
  | .ow _ => False
  | _ => True
/-- the slots while the row is filled: m numbers at most -/
def NumI (sc : D) (m : Nat) (ρ : Env) : Prop := ∃ (row : List Int) (a b c d : Slot), ρ = [.pl sc, .ow (ints_ row), a, b, c, d] ∧ row.length ≤ m ∧ slotPl a ∧ slotPl b ∧ slotPl c ∧ slotPl d
theorem ten18 : bop .pow (.int 10) (.int 18) = some (.pl (.int 1000000000000000000)) := by
  show (if (0 : Int) ≤ 18 ∧ (18 : Int) ≤ 1000000 ∧ (10 : Int).natAbs < 2 ^ 64 then some (VT.pl (.int ((10 : Int) ^ (18 : Int).toNat))) else none) = _
  rw [if_pos (by decide)]
  rfl
theorem ints_app {row : List Int} {x : Int} : ints_ row ++ [PyData.int x] = ints_ (row ++ [x]) := by simp [ints_]
theorem nb1 {cl : Nat → List Ar → Ret} {sc : D} {m : Nat} (hm : m ≤ 100000) {N B C : Env → Prop} {R : VT → Env → Prop} {row : List Int} {a d : Slot} {l k : Int} (hr : row.length ≤ m) (ha : slotPl a) (hd : slotPl d)
    (hB : ∀ ρ, NumI sc (m + 1) ρ → B ρ) (hN : ∀ row' l', row'.length ≤ m + 1 → N [.pl sc, .ow (ints_ row'), a, .pl (.int l'), .pl (.int k), d]) :
    WF (ex cl nB1 [.pl sc, .ow (ints_ row), a, .pl (.int l), .pl (.int k), d]) N B C R := by
  have sz : row.length < SZ := by simp [SZ]; omega
  by_cases c : l = 0
  · subst c
    simp [nB1]
    exact hB _ ⟨row, a, _, _, d, rfl, by omega, ha, trivial, trivial, hd⟩
  · have := hN (row ++ [l.fmod 997]) (l.fdiv 997) (by simp; omega)
    rw [← ints_app] at this
    simp [nB1, c, sz]
    simpa using this
theorem nb2 {cl : Nat → List Ar → Ret} {sc : D} {m : Nat} (hm : m ≤ 100000) {N B C : Env → Prop} {R : VT → Env → Prop} {row : List Int} {b d : Slot} {l k : Int} (hr : row.length ≤ m) (hk : 0 ≤ k ∧ k ≤ 4) (hd : slotPl d)
    (hN : ∀ row' l', row'.length ≤ m + 1 → N [.pl sc, .ow (ints_ row'), .pl (.int l), b, .pl (.int k), .pl (.int l')]) :
    WF (ex cl nB2 [.pl sc, .ow (ints_ row), .pl (.int l), b, .pl (.int k), d]) N B C R := by
  have sz : row.length < SZ := by simp [SZ]; omega
  have m1 : ∀ y, mulOk y 48271 = true := fun y => mulOk_r (by omega)
  have m2 : ∀ y, mulOk y 69621 = true := fun y => mulOk_r (by omega)
  have m3 : ∀ y, mulOk y 16807 = true := fun y => mulOk_r (by omega)
  have := hN (row ++ [(((l * 48271 + k * 69621 + 11).fmod 2147483647) * 16807 + k).fmod 2147483629]) ((l * 48271 + k * 69621 + 11).fmod 2147483647) (by simp; omega)
  rw [← ints_app] at this
  cases d with
  | io _ => exact hd.elim
  | ow _ => exact hd.elim
  | _ => simp [nB2, sz, m1, m2, m3]; simpa using this

theorem nb {cl : Nat → List Ar → Ret} {sc : D} {m : Nat} (hm : m + 60 ≤ 100000) {N B C : Env → Prop} {R : VT → Env → Prop} {row : List Int} {b c d : Slot} {l : Int} (hr : row.length ≤ m) (hb : slotPl b) (hc : slotPl c) (hd : slotPl d)
    (hN : ∀ ρ, NumI sc (m + 60) ρ → N ρ) : WF (ex cl nB [.pl sc, .ow (ints_ row), .pl (.int l), b, c, d]) N B C R := by
  by_cases g : (1000000000000000000 : Int) ≤ l
  · have loop : ∀ x : Slot, slotPl x → WF (forLoop (forTurn (.nm 4) (ex cl nB1)) (intsFrom 0 60) [.pl sc, .ow (ints_ row), .pl (.int l), .pl (.int l), x, d]) N B C R := fun x hx => by
      refine for_inv (fun i ρ => ∃ (row : List Int) (l' : Int) (x : Slot), ρ = [.pl sc, .ow (ints_ row), .pl (.int l), .pl (.int l'), x, d] ∧ row.length ≤ m + i ∧ slotPl x) _ 0 _ ⟨row, l, x, rfl, by omega, hx⟩ (fun i y ρ hy hI => ?_) fun ρ hI => by
        obtain ⟨row', l', x', rfl, h1, h2⟩ := hI
        exact hN _ ⟨row', _, _, _, _, rfl, by simpa [intsFrom_len_] using h1, trivial, trivial, h2, hd⟩
      obtain ⟨row', l', x', rfl, h1, h2⟩ := hI
      obtain ⟨hi, rfl⟩ := intsFrom_at _ _ _ _ hy
      have q := nb1 (cl := cl) (sc := sc) (m := m + i) (by omega) (N := fun ρ => ∃ (row : List Int) (l' : Int) (x : Slot), ρ = [.pl sc, .ow (ints_ row), .pl (.int l), .pl (.int l'), x, d] ∧ row.length ≤ m + (0 + i + 1) ∧ slotPl x) (B := N) (C := fun ρ => ∃ (row : List Int) (l' : Int) (x : Slot), ρ = [.pl sc, .ow (ints_ row), .pl (.int l), .pl (.int l'), x, d] ∧ row.length ≤ m + (0 + i + 1) ∧ slotPl x) (R := R) (row := row') (a := .pl (.int l)) (d := d) (l := l') (k := 0 + (i : Int)) (by omega) trivial hd
        (fun ρ hρ => hN ρ (by obtain ⟨r, a, b, c, d, e, h3, h4⟩ := hρ; exact ⟨r, a, b, c, d, e, by omega, h4⟩)) fun row2 l2 h3 => ⟨row2, l2, _, rfl, by omega, trivial⟩
      cases x' with
      | io _ => exact h2.elim
      | ow _ => exact h2.elim
      | _ => simpa using q
    have lp := loop c hc
    cases b with
    | io _ => exact hb.elim
    | ow _ => exact hb.elim
    | _ => simp [nB, ten18, g, rng_1]; exact lp
  · have loop : WF (forLoop (forTurn (.nm 4) (ex cl nB2)) (intsFrom 0 4) [.pl sc, .ow (ints_ row), .pl (.int l), b, c, d]) N B C R := by
      refine for_inv (fun i ρ => ∃ (row : List Int) (x y : Slot), ρ = [.pl sc, .ow (ints_ row), .pl (.int l), b, x, y] ∧ row.length ≤ m + i ∧ slotPl x ∧ slotPl y) _ 0 _ ⟨row, c, d, rfl, by omega, hc, hd⟩ (fun i y ρ hy hI => ?_) fun ρ hI => by
        obtain ⟨row', x', y', rfl, h1, h2, h3⟩ := hI
        refine hN _ ⟨row', _, _, _, _, rfl, ?_, trivial, hb, h2, h3⟩
        have : row'.length ≤ m + (0 + 4) := h1
        omega
      obtain ⟨row', x', y', rfl, h1, h2, h3⟩ := hI
      obtain ⟨hi, rfl⟩ := intsFrom_at _ _ _ _ hy
      have q := nb2 (cl := cl) (sc := sc) (m := m + i) (by omega) (N := fun ρ => ∃ (row : List Int) (x y : Slot), ρ = [.pl sc, .ow (ints_ row), .pl (.int l), b, x, y] ∧ row.length ≤ m + (0 + i + 1) ∧ slotPl x ∧ slotPl y) (B := N) (C := fun ρ => ∃ (row : List Int) (x y : Slot), ρ = [.pl sc, .ow (ints_ row), .pl (.int l), b, x, y] ∧ row.length ≤ m + (0 + i + 1) ∧ slotPl x ∧ slotPl y) (R := R) (row := row') (b := b) (d := y') (l := l) (k := 0 + (i : Int)) (by omega) ⟨by omega, by omega⟩ h3
        fun row2 l2 h4 => ⟨row2, _, _, rfl, by omega, trivial, trivial⟩
      cases x' with
      | io _ => exact h2.elim
      | ow _ => exact h2.elim
      | _ => simpa using q
    simp [nB, ten18, g, rng_1]
    exact loop
theorem numbers_ok {Γ : List Df} {n f : Nat} (hf : Γ[f]? = some hNumbers) (ns : List Int) : ∃ row, RowOk row ∧ call Γ (n + 1) f [.pl (.list (ns.map .int))] = .ok (.fr (ints_ row)) [] := by
  rw [call_s hf]
  have ec : cut (ns.map PyData.int) none (some 63) = (ns.take 63).map PyData.int := by
    unfold cut sIx
    simp only [List.drop_zero, Nat.sub_zero]
    rw [if_neg (by decide), ← List.map_take]
    have e : min (63 : Int).toNat (ns.map PyData.int).length = min 63 ns.length := by simp
    rw [e]
    congr 1
    rw [List.take_eq_take_iff]
    omega
  have hz : (ns.take 63).length ≤ 63 := by rw [List.length_take]; omega
  generalize ns.take 63 = us at ec hz
  have loop : WF (forLoop (forTurn (.nm 2) (ex (call Γ n) nB)) (us.map PyData.int) [.pl (.list (ns.map .int)), .ow (ints_ []), .em, .em, .em, .em]) (fun ρ => NumI (.list (ns.map .int)) 3780 ρ) (fun _ => False) (fun _ => False) fun _ _ => False := by
    refine for_inv (fun i ρ => NumI (.list (ns.map .int)) (60 * i) ρ) _ 0 _ ⟨[], .em, .em, .em, .em, rfl, by simp, trivial, trivial, trivial, trivial⟩ (fun i y ρ hy hI => ?_) fun ρ hI => by
      obtain ⟨row, a, b, c, d, e, h1, h2⟩ := hI
      refine ⟨row, a, b, c, d, e, ?_, h2⟩
      rw [List.length_map] at h1
      omega
    obtain ⟨row, a, b, c, d, rfl, h1, h2, h3, h4, h5⟩ := hI
    rw [List.getElem?_map] at hy
    cases q : us[i]? with
    | none => rw [q] at hy; cases hy
    | some x =>
      rw [q] at hy
      cases hy
      have hi : i < us.length := (List.getElem?_eq_some_iff.mp q).1
      have := nb (cl := call Γ n) (sc := .list (ns.map .int)) (m := 60 * (0 + i)) (by omega) (N := fun ρ => NumI (.list (ns.map .int)) (60 * (0 + i + 1)) ρ) (B := fun ρ => NumI (.list (ns.map .int)) 3780 ρ) (C := fun ρ => NumI (.list (ns.map .int)) (60 * (0 + i + 1)) ρ) (R := fun _ _ => False) (row := row) (b := b) (c := c) (d := d) (l := x) h1 h3 h4 h5
        fun ρ hρ => by
          obtain ⟨row, a, b, c, d, e, k1, k2⟩ := hρ
          exact ⟨row, a, b, c, d, e, by omega, k2⟩
      cases a with
      | io _ => exact h2.elim
      | ow _ => exact h2.elim
      | _ => simpa using this
  generalize hL : forLoop _ _ _ = L at loop
  cases L with
  | nx ρ =>
    obtain ⟨row, a, b, c, d, rfl, h1, h2⟩ := (show NumI _ _ _ from loop)
    unfold nB nB1 nB2 at hL
    cases row with
    | nil =>
      refine ⟨[0], ⟨by simp, by simp⟩, ?_⟩
      have z : (0 : Nat) < SZ := by decide
      simp only [ints_, List.map_nil] at hL
      simp [runDef, hNumbers, sliD, ec, hL, z]
    | cons x r =>
      refine ⟨x :: r, ⟨by simp, by omega⟩, ?_⟩
      have z : ¬ ((r.length : Int) + 1 = 0) := by omega
      simp only [ints_, List.map_nil] at hL
      simp [runDef, hNumbers, sliD, ec, hL, z]
  | _ => exact loop.elim
theorem is_whole_ok {Γ : List Df} {n f : Nat} (hf : Γ[f]? = some hIsWhole) {v lo hi : Int} (h0 : lo ≤ v) (h1 : v ≤ hi) : call Γ (n + 1) f [.pl (.int v), .pl (.int lo), .pl (.int hi)] = .ok (.pl (.bool true)) [] := by
  rw [call_s hf]
  have c : ¬ v < lo := by omega
  simp [runDef, hIsWhole, isTy, c, h1]
theorem need_whole_ok {Γ : List Df} {n f g : Nat} (hf : Γ[f]? = some hIsWhole) (hg : Γ[g]? = some (hNeedWhole f)) {v lo hi : Int} {at_ : D} (h0 : lo ≤ v) (h1 : v ≤ hi) : call Γ (n + 2) g [.pl (.int v), .pl (.int lo), .pl (.int hi), .pl at_] = .ok (.pl (.int v)) [] := by
  rw [call_s hg]
  simp [runDef, hNeedWhole, is_whole_ok hf h0 h1]
/-- a list or a tuple of these -/
def Sq (v : D) (l : List D) : Prop := v = .list l ∨ v = .tuple l
theorem is_row_ok {Γ : List Df} {n f : Nat} (hf : Γ[f]? = some hIsRow) {v : D} {l : List D} {lo hi : Int} (h : Sq v l) (h0 : lo ≤ l.length) (h1 : (l.length : Int) ≤ hi) : call Γ (n + 1) f [.pl v, .pl (.int lo), .pl (.int hi)] = .ok (.pl (.bool true)) [] := by
  rw [call_s hf]
  rcases h with rfl | rfl
  · simp [runDef, hIsRow, bfn, isiF, isDict, isTy, lenF, h0, h1]
  · simp [runDef, hIsRow, bfn, isiF, isDict, isTy, lenF, h0, h1]
theorem need_row_ok {Γ : List Df} {n f g : Nat} (hf : Γ[f]? = some hIsRow) (hg : Γ[g]? = some (hNeedRow f)) {v : D} {l : List D} {lo hi : Int} {at_ : D} (h : Sq v l) (h0 : lo ≤ l.length) (h1 : (l.length : Int) ≤ hi) : call Γ (n + 2) g [.pl v, .pl (.int lo), .pl (.int hi), .pl at_] = .ok (.pl (.tuple l)) [] := by
  rw [call_s hg]
  have e := is_row_ok (n := n) hf h h0 h1
  rcases h with rfl | rfl
  · simp [runDef, hNeedRow, e]
  · simp [runDef, hNeedRow, e]
end Sw

end
section
set_option maxRecDepth 100000
set_option maxHeartbeats 4000000
namespace Sw
open PySem (PyData Str)
theorem mulOk_l {i j : Int} (h : -1000000 ≤ i ∧ i ≤ 1000000) : mulOk i j = true := by
  unfold mulOk
  simp
  left
  omega
/-- the number that is drawn at k -/
def drw (row : List Int) (k l : Int) : Int :=
  if k < row.length then (row.getD k.toNat 0).fmod l
  else ((((row.getD (k.fmod row.length).toNat 0) * 40692 + k * 7919 + 3).fmod 2147483399 * 48271 + k).fmod 2147483647).fmod l
theorem drw0 {row : List Int} {k l : Int} (h : 0 < l) : 0 ≤ drw row k l := by unfold drw; split <;> exact fmod_lo h
theorem drw1 {row : List Int} {k l : Int} (h : 0 < l) : drw row k l < l := by unfold drw; split <;> exact fmod_hi h
theorem atI_getD {row : List Int} {i : Int} (h0 : 0 ≤ i) (h1 : i < row.length) : atI (ints_ row) i = some (.int (row.getD i.toNat 0)) := by
  obtain ⟨n, rfl⟩ := Int.eq_ofNat_of_zero_le h0
  have h : n < row.length := by omega
  rw [atI_nat (by simpa using h)]
  simp [h]
theorem draw_e {row : List Int} (hr : RowOk row) {k l : Int} (hk : 0 ≤ k) (hl : 0 < l) ⦃m : Nat⦄ (hm : 1 ≤ m) :
    call G m 23 [.pl (.list (ints_ row)), .pl (.int k), .pl (.int l)] = .ok (.pl (.int (drw row k l))) [] := by
  obtain ⟨n, rfl⟩ : ∃ n, m = n + 1 := ⟨m - 1, by omega⟩
  rw [g_law_draw]
  have l0 : ¬ l = 0 := by omega
  have p : 0 < (row.length : Int) := by
    have := hr.ne
    cases row with
    | nil => exact absurd rfl this
    | cons _ _ => simp
  by_cases c : k < row.length
  · have hx := atI_getD hk c
    simp [runDef, d_law_draw, c, hx, l0, drw]
  · have hx := atI_getD (row := row) (i := k.fmod row.length) (fmod_lo p) (fmod_hi p)
    have m1 : ∀ x, mulOk x 40692 = true := fun x => mulOk_r (by omega)
    have m2 : mulOk k 7919 = true := mulOk_r (by omega)
    have m3 : ∀ y, mulOk y 48271 = true := fun y => mulOk_r (by omega)
    simp [runDef, d_law_draw, c, hx, l0, hr.ne, m1, m2, m3, drw]
/-- a draw: the next number below l -/
theorem take_e {row : List Int} (hr : RowOk row) {k l : Int} (hk : 0 ≤ k) (hl : 0 < l) ⦃m : Nat⦄ (hm : 2 ≤ m) :
    call G m 24 [.pl (.list (ints_ row)), .io [.int k], .pl (.int l)] = .ok (.pl (.int (drw row k l))) [[.int (k + 1)]] := by
  obtain ⟨n, rfl⟩ : ∃ n, m = n + 2 := ⟨m - 2, by omega⟩
  have e := draw_e hr hk hl
  rw [g_law_take]
  have a0 : ∀ x : D, atI [x] 0 = some x := fun x => rfl
  have i0 : ixN 1 0 = some 0 := rfl
  have s : k + 1 - 1 = k := by omega
  simp [runDef, d_law_take, a0, i0, s, e]
/-- one of several -/
def pck (row : List Int) (k : Int) (xs : List D) : D := xs.getD (drw row k xs.length).toNat .none
def pci (row : List Int) (k : Int) (xs : List Int) : Int := xs.getD (drw row k xs.length).toNat 0
theorem pick_e {row : List Int} (hr : RowOk row) {k : Int} {xs : List D} (hk : 0 ≤ k) (hx : 0 < xs.length) ⦃m : Nat⦄ (hm : 3 ≤ m) :
    call G m 27 [.pl (.list (ints_ row)), .io [.int k], .pl (.list xs)] = .ok (.pl (pck row k xs)) [[.int (k + 1)]] := by
  obtain ⟨n, rfl⟩ : ∃ n, m = n + 3 := ⟨m - 3, by omega⟩
  have e := take_e hr hk (l := (xs.length : Int)) (by omega)
  have ea : atI xs (drw row k xs.length) = some (pck row k xs) := by
    have h0 := drw0 (row := row) (k := k) (l := (xs.length : Int)) (by omega)
    have h1 := drw1 (row := row) (k := k) (l := (xs.length : Int)) (by omega)
    unfold pck
    generalize drw row k xs.length = r at h0 h1 ⊢
    obtain ⟨i, rfl⟩ := Int.eq_ofNat_of_zero_le h0
    have hi : i < xs.length := by omega
    rw [atI_nat hi]
    simp [hi]
  rw [g_law_pick]
  simp [runDef, d_law_pick, e, ea]
theorem pck_mem {row : List Int} {k : Int} {xs : List D} (hx : 0 < xs.length) : pck row k xs ∈ xs := by
  have h0 := drw0 (row := row) (k := k) (l := (xs.length : Int)) (by omega)
  have h1 := drw1 (row := row) (k := k) (l := (xs.length : Int)) (by omega)
  unfold pck
  have hi : (drw row k xs.length).toNat < xs.length := by omega
  rw [List.getD_eq_getElem?_getD, List.getElem?_eq_getElem hi]
  exact List.getElem_mem hi
theorem pck_ints {row : List Int} {k : Int} {xs : List Int} (hx : 0 < xs.length) : pck row k (xs.map .int) = .int (pci row k xs) := by
  have h0 := drw0 (row := row) (k := k) (l := (xs.length : Int)) (by omega)
  have h1 := drw1 (row := row) (k := k) (l := (xs.length : Int)) (by omega)
  unfold pck pci
  have hi : (drw row k xs.length).toNat < xs.length := by omega
  rw [List.length_map, List.getD_eq_getElem?_getD, List.getD_eq_getElem?_getD, List.getElem?_map, List.getElem?_eq_getElem hi]
  rfl
theorem pci_mem {row : List Int} {k : Int} {xs : List Int} (hx : 0 < xs.length) : pci row k xs ∈ xs := by
  have h0 := drw0 (row := row) (k := k) (l := (xs.length : Int)) (by omega)
  have h1 := drw1 (row := row) (k := k) (l := (xs.length : Int)) (by omega)
  unfold pci
  have hi : (drw row k xs.length).toNat < xs.length := by omega
  rw [List.getD_eq_getElem?_getD, List.getElem?_eq_getElem hi]
  exact List.getElem_mem hi
@[simp] theorem pck_1 {row : List Int} {k a : Int} : pck row k [.int a] = .int (pci row k [a]) := pck_ints (xs := [a]) (by simp)
@[simp] theorem pck_2 {row : List Int} {k a b : Int} : pck row k [.int a, .int b] = .int (pci row k [a, b]) := pck_ints (xs := [a, b]) (by simp)
@[simp] theorem pck_3 {row : List Int} {k a b c : Int} : pck row k [.int a, .int b, .int c] = .int (pci row k [a, b, c]) := pck_ints (xs := [a, b, c]) (by simp)
@[simp] theorem pck_4 {row : List Int} {k a b c d : Int} : pck row k [.int a, .int b, .int c, .int d] = .int (pci row k [a, b, c, d]) := pck_ints (xs := [a, b, c, d]) (by simp)
@[simp] theorem pck_5 {row : List Int} {k a b c d e : Int} : pck row k [.int a, .int b, .int c, .int d, .int e] = .int (pci row k [a, b, c, d, e]) := pck_ints (xs := [a, b, c, d, e]) (by simp)
/-- handed over as it is, or as lists -/
def hnd (row : List Int) (k : Int) (v : D) : D := if drw row k 2 = 0 then listed v else v
theorem hnd_or {row : List Int} {k : Int} {v : D} : hnd row k v = v ∨ hnd row k v = listed v := by
  unfold hnd
  split
  · exact .inr rfl
  · exact .inl rfl
def hndV (row : List Int) (k : Int) (v : D) : VT := if drw row k 2 = 0 then listedV v else .pl v
@[simp] theorem hndV_d {row : List Int} {k : Int} {v : D} : (hndV row k v).d = hnd row k v := by
  unfold hndV hnd
  split
  · exact listedV_d v
  · rfl
theorem listed_e {v : D} (h : noDct v = true) ⦃m : Nat⦄ (hd : dep v ≤ m) : call G m 25 [.pl v] = .ok (listedV v) [] := listed_ok rfl m v h hd
theorem handed_e {row : List Int} (hr : RowOk row) {k : Int} {v : D} (hk : 0 ≤ k) (hv : noDct v = true) ⦃m : Nat⦄ (hd : dep v + 1 ≤ m) (hm : 3 ≤ m) :
    call G m 26 [.pl (.list (ints_ row)), .io [.int k], .pl v] = .ok (hndV row k v) [[.int (k + 1)]] := by
  obtain ⟨n, rfl⟩ : ∃ n, m = n + 3 := ⟨m - 3, by omega⟩
  have e := take_e hr hk (l := 2) (by omega)
  have q2 := listed_e hv (m := n + 2) (by omega)
  rw [g_law_handed]
  by_cases c : drw row k 2 = 0 <;> simp [runDef, d_law_handed, e, c, q2, hndV]
/-- what is found is what is meant -/
theorem so_e {v : D} (h : soD v = true) ⦃m : Nat⦄ (hd : dep v ≤ m) : call G m 21 [.pl v, .pl v] = .ok (.pl (.bool true)) [] := so_ok rfl m v h hd
theorem numbers_e (ns : List Int)  ⦃m : Nat⦄ (hm : 1 ≤ m) :
    ∃ row, RowOk row ∧ call G m 22 [.pl (.list (ns.map .int))] = .ok (.fr (ints_ row)) [] := by
  obtain ⟨n, rfl⟩ : ∃ n, m = n + 1 := ⟨m - 1, by omega⟩
  exact numbers_ok rfl ns
theorem is_whole_e {v lo hi : Int} (h0 : lo ≤ v) (h1 : v ≤ hi) ⦃m : Nat⦄ (hm : 1 ≤ m) :
    call G m 0 [.pl (.int v), .pl (.int lo), .pl (.int hi)] = .ok (.pl (.bool true)) [] := by
  obtain ⟨n, rfl⟩ : ∃ n, m = n + 1 := ⟨m - 1, by omega⟩
  exact is_whole_ok rfl h0 h1
theorem need_whole_e {v lo hi : Int} {at_ : D} (h0 : lo ≤ v) (h1 : v ≤ hi) ⦃m : Nat⦄ (hm : 2 ≤ m) :
    call G m 1 [.pl (.int v), .pl (.int lo), .pl (.int hi), .pl at_] = .ok (.pl (.int v)) [] := by
  obtain ⟨n, rfl⟩ : ∃ n, m = n + 2 := ⟨m - 2, by omega⟩
  exact need_whole_ok rfl rfl h0 h1
theorem need_row_e {v : D} {l : List D} {lo hi : Int} {at_ : D} (h : Sq v l) (h0 : lo ≤ l.length) (h1 : (l.length : Int) ≤ hi) ⦃m : Nat⦄ (hm : 2 ≤ m) :
    call G m 3 [.pl v, .pl (.int lo), .pl (.int hi), .pl at_] = .ok (.pl (.tuple l)) [] := by
  obtain ⟨n, rfl⟩ : ∃ n, m = n + 2 := ⟨m - 2, by omega⟩
  exact need_row_ok rfl rfl h h0 h1
theorem is_row_e {v : D} {l : List D} {lo hi : Int} (h : Sq v l) (h0 : lo ≤ l.length) (h1 : (l.length : Int) ≤ hi) ⦃m : Nat⦄ (hm : 1 ≤ m) :
    call G m 2 [.pl v, .pl (.int lo), .pl (.int hi)] = .ok (.pl (.bool true)) [] := by
  obtain ⟨n, rfl⟩ : ∃ n, m = n + 1 := ⟨m - 1, by omega⟩
  exact is_row_ok rfl h h0 h1
/-- bounds of places -/
def bnd (bs : List (Int × Int)) : D := .tuple (bs.map fun b => .tuple [.int b.1, .int b.2])
def within (xs : List Int) (bs : List (Int × Int)) : Prop := xs.length = bs.length ∧ ∀ p ∈ xs.zip bs, p.2.1 ≤ p.1 ∧ p.1 ≤ p.2.2
theorem boolsD_map {α : Type} (f : α → Bool) : ∀ xs : List α, boolsD (xs.map fun a => PyData.bool (f a)) = some (xs.map f)
  | [] => rfl
  | x :: r => by rw [List.map_cons, boolsD, boolsD_map f r]; rfl
theorem intsD_ints : ∀ xs : List Int, intsD (ints_ xs) = some xs
  | [] => rfl
  | x :: r => by
    show intsD (PyData.int x :: ints_ r) = _
    rw [intsD, intsD_ints r]; rfl
theorem seq_of {v : D} {l : List D} (h : Sq v l) : seqD v = some l := by rcases h with rfl | rfl <;> rfl
theorem len_of {v : D} {l : List D} (h : Sq v l) : bfn .len [v] = some (.pl (.int l.length)) := by rcases h with rfl | rfl <;> rfl
theorem tup_of {v : D} {l : List D} (h : Sq v l) : bfn .tuple [v] = some (.pl (.tuple l)) := by rcases h with rfl | rfl <;> rfl
theorem is_tuple_of_e {v : D} {xs : List Int} {bs : List (Int × Int)} (h : Sq v (ints_ xs)) (hw : within xs bs) (hz : bs.length ≤ 1000) ⦃m : Nat⦄ (hm : 2 ≤ m) :
    call G m 4 [.pl v, .pl (bnd bs)] = .ok (.pl (.bool true)) [] := by
  obtain ⟨n, rfl⟩ : ∃ n, m = n + 2 := ⟨m - 2, by omega⟩
  obtain ⟨hl, hw⟩ := hw
  rw [g_is_tuple_of]
  have e := is_row_e (lo := (bs.length : Int)) (hi := (bs.length : Int)) h (by simp [hl]) (by simp [hl])
  have lc : ∀ a b c, lcAll [2, 3, 4] (lcTurn (.tp (.cs (.nm 2) (.cs (.tp (.cs (.nm 3) (.cs (.nm 4) .nl))) .nl))) (ev (call G (n + 1)) .nl).t (ev (call G (n + 1)) e_is_tuple_of_1).v) ((xs.zip bs).map fun p => PyData.tuple [.int p.1, .tuple [.int p.2.1, .int p.2.2]]) [.pl v, .pl (bnd bs), sl a, sl b, sl c] = .ok (.fr ((xs.zip bs).map fun _ => .bool true)) [.pl v, .pl (bnd bs), sl a, sl b, sl c] := fun a b c =>
    lc_M (ρw := [.pl v, .pl (bnd bs), .em, .em, .em]) _ _ _ (by simp) (by simp [SZ]; omega) fun p hp => by
      have := is_whole_e (hw p hp).1 (hw p hp).2
      refine ⟨_, by simp [e_is_tuple_of_1, this]; rfl, by simp⟩
  have lc := lc none none none
  have ez : zip2 v (bnd bs) = some ((xs.zip bs).map fun p => PyData.tuple [.int p.1, .tuple [.int p.2.1, .int p.2.2]]) := by
    unfold zip2 bnd
    rw [seq_of h, seqD_tup]
    exact congrArg some (zip_map _ _ _ _)
  have eb := boolsD_map (fun _ : Int × (Int × Int) => true) (xs.zip bs)
  have lb : bfn .len [bnd bs] = some (.pl (.int bs.length)) := by simp [bnd]
  simp only [sl_none] at lc
  simp [runDef, d_is_tuple_of, lb, e, ez, lc, eb]
def rowsD (rows : List (List Int)) : D := .tuple (rows.map fun r => .tuple (ints_ r))
/-- v is a sequence of sequences of these -/
inductive Rws : List D → List (List Int) → Prop where
  | nil : Rws [] []
  | cons {v : D} {xs : List Int} {vs : List D} {r : List (List Int)} (h : Sq v (ints_ xs)) (t : Rws vs r) : Rws (v :: vs) (xs :: r)
theorem Rws.len {vs : List D} {rows : List (List Int)} (h : Rws vs rows) : vs.length = rows.length := by induction h <;> simp [*]
theorem Rws.at {vs : List D} {rows : List (List Int)} (h : Rws vs rows) : ∀ v ∈ vs, ∃ xs ∈ rows, Sq v (ints_ xs) := by
  induction h with
  | nil => intro v h; cases h
  | cons h t ih =>
    intro v hv
    rcases List.mem_cons.mp hv with e | hv
    · subst e; exact ⟨_, List.mem_cons_self, h⟩
    · obtain ⟨xs, a, b⟩ := ih v hv; exact ⟨xs, List.mem_cons_of_mem _ a, b⟩
/-- the items of a sequence -/
def itm (v : D) : List D := (seqD v).getD []
theorem itm_of {v : D} {l : List D} (h : Sq v l) : itm v = l := by rcases h with rfl | rfl <;> rfl
theorem Rws.map {vs : List D} {rows : List (List Int)} (h : Rws vs rows) : vs.map (fun v => PyData.tuple (itm v)) = rows.map fun r => PyData.tuple (ints_ r) := by
  induction h with
  | nil => rfl
  | cons h t ih => rw [List.map_cons, List.map_cons, ih, itm_of h]
theorem need_tuples_e {v : D} {vs : List D} {rows : List (List Int)} {bs : List (Int × Int)} {lo hi : Int} {at_ : D} (h : Sq v vs) (hr : Rws vs rows) (hw : ∀ r ∈ rows, within r bs) (hz : bs.length ≤ 1000) (h0 : lo ≤ rows.length) (h1 : (rows.length : Int) ≤ hi) (h2 : rows.length ≤ 100000) ⦃m : Nat⦄ (hm : 3 ≤ m) :
    call G m 5 [.pl v, .pl (.int lo), .pl (.int hi), .pl (bnd bs), .pl at_] = .ok (.pl (rowsD rows)) [] := by
  obtain ⟨n, rfl⟩ : ∃ n, m = n + 3 := ⟨m - 3, by omega⟩
  rw [g_need_tuples]
  have e := need_row_e (at_ := at_) h (by rw [hr.len]; exact h0) (by rw [hr.len]; exact h1)
  have lp := (for_F (turn := forTurn (.nm 6) (ex (call G (n + 2)) b_need_tuples_1)) (fun d : D => d) (fun o => [.pl v, .pl (.int lo), .pl (.int hi), .pl (bnd bs), .pl at_, .pl (.tuple vs), sl o]) (fun _ d => some d) (fun _ => True) vs none trivial fun s a ha _ => by
    obtain ⟨xs, q1, q2⟩ := hr.at a ha
    have := is_tuple_of_e q2 (hw xs q1) hz
    refine ⟨by simp [b_need_tuples_1, this], trivial⟩).1
  have lc : ∀ o, lcAll [6] (lcTurn (.nm 6) (ev (call G (n + 2)) .nl).t (ev (call G (n + 2)) e_need_tuples_1).v) (vs.map fun d : D => d) [.pl v, .pl (.int lo), .pl (.int hi), .pl (bnd bs), .pl at_, .pl (.tuple vs), sl o] = .ok (.fr (vs.map fun v => PyData.tuple (itm v))) [.pl v, .pl (.int lo), .pl (.int hi), .pl (bnd bs), .pl at_, .pl (.tuple vs), sl o] := fun o =>
    lc_M (ρw := [.pl v, .pl (.int lo), .pl (.int hi), .pl (bnd bs), .pl at_, .pl (.tuple vs), .em]) _ _ _ (by simp) (by rw [hr.len]; simp [SZ]; omega) fun a ha => by
      obtain ⟨xs, q1, q2⟩ := hr.at a ha
      refine ⟨_, by simp [e_need_tuples_1, tup_of q2, itm_of q2]; rfl, by simp⟩
  rw [hr.map] at lc
  simp only [List.map_id', sl_none] at lp lc
  simp [runDef, d_need_tuples, e, lp, lc, rowsD]
def oI : Option Int → D
  | none => .none
  | some i => .int i
@[simp] theorem oI_none : oI none = .none := Eq.trans rfl rfl
@[simp] theorem oI_some {i : Int} : oI (some i) = .int i := Eq.trans rfl rfl
theorem soD_oI : ∀ x, soD (oI x) = true
  | none => rfl
  | some i => rfl
theorem dep_oI : ∀ x, dep (oI x) = 1
  | none => rfl
  | some i => rfl
theorem soDs_ints : ∀ xs : List Int, soDs (ints_ xs) = true
  | [] => rfl
  | x :: r => by show (soD (.int x) && soDs (ints_ r)) = true; rw [soDs_ints r]; rfl
theorem deps_ints : ∀ xs : List Int, deps (ints_ xs) ≤ 1
  | [] => Nat.zero_le _
  | x :: r => by
    show max (dep (.int x)) (deps (ints_ r)) ≤ 1
    have := deps_ints r
    rw [show dep (.int x) = 1 from rfl]
    omega
theorem so_oI {x : Option Int} ⦃m : Nat⦄ (hm : 1 ≤ m) :
    call G m 21 [.pl (oI x), .pl (oI x)] = .ok (.pl (.bool true)) [] := by
  obtain ⟨n, rfl⟩ : ∃ n, m = n + 1 := ⟨m - 1, by omega⟩
  exact so_e (soD_oI x) (by rw [dep_oI]; omega)
theorem so_bool {x : Bool} ⦃m : Nat⦄ (hm : 1 ≤ m) :
    call G m 21 [.pl (.bool x), .pl (.bool x)] = .ok (.pl (.bool true)) [] := by
  obtain ⟨n, rfl⟩ : ∃ n, m = n + 1 := ⟨m - 1, by omega⟩
  exact so_e rfl (by simp [dep])
theorem so_int {x : Int} ⦃m : Nat⦄ (hm : 1 ≤ m) :
    call G m 21 [.pl (.int x), .pl (.int x)] = .ok (.pl (.bool true)) [] := by
  obtain ⟨n, rfl⟩ : ∃ n, m = n + 1 := ⟨m - 1, by omega⟩
  exact so_e rfl (by simp [dep])
theorem so_ints {xs : List Int} (h : xs.length ≤ 1000000) ⦃m : Nat⦄ (hm : 2 ≤ m) :
    call G m 21 [.pl (.tuple (ints_ xs)), .pl (.tuple (ints_ xs))] = .ok (.pl (.bool true)) [] := by
  obtain ⟨n, rfl⟩ : ∃ n, m = n + 2 := ⟨m - 2, by omega⟩
  exact so_e (by
  show (soDs (ints_ xs) && decide ((ints_ xs).length ≤ 1000000)) = true
  rw [soDs_ints]
  simp
  exact h) (by have := deps_ints xs; simp only [dep]; omega)
theorem listed_ints (xs : List Int) : listed (.tuple (ints_ xs)) = .list (ints_ xs) := by
  rw [listed, listeds_map, List.map_map]
  rfl
theorem noDcts_ints : ∀ xs : List Int, noDcts (ints_ xs) = true
  | [] => rfl
  | x :: r => by show (noDct (.int x) && noDcts (ints_ r)) = true; rw [noDcts_ints r]; rfl
theorem hnd_ints {row : List Int} {k : Int} {xs : List Int} : Sq (hnd row k (.tuple (ints_ xs))) (ints_ xs) := by
  rcases hnd_or (row := row) (k := k) (v := .tuple (ints_ xs)) with h | h
  · exact .inr h
  · exact .inl (by rw [h, listed_ints])
theorem handed_ints {row : List Int} (hr : RowOk row) {k : Int} {xs : List Int} (hk : 0 ≤ k) (hz : xs.length ≤ 1000000) ⦃m : Nat⦄ (hm : 4 ≤ m) :
    call G m 26 [.pl (.list (ints_ row)), .io [.int k], .pl (.tuple (ints_ xs))] = .ok (hndV row k (.tuple (ints_ xs))) [[.int (k + 1)]] := handed_e hr hk (by
  show (noDcts (ints_ xs) && decide ((ints_ xs).length ≤ 1000000)) = true
  rw [noDcts_ints]
  simp
  exact hz) (by have := deps_ints xs; simp only [dep]; omega) (by omega)
end Sw

end
section
set_option maxRecDepth 100000
set_option maxHeartbeats 4000000
namespace Sw
open PySem (PyData Str)
abbrev Pt := Int × Int
def pr (p : Pt) : D := .tuple [.int p.1, .int p.2]
theorem pr_def (p : Pt) : pr p = .tuple [.int p.1, .int p.2] := rfl
def prs (ps : List Pt) : D := .tuple (ps.map pr)
/-- v is a sequence of such pairs -/
def Prs (v : D) (ps : List Pt) : Prop := ∃ vs, Sq v vs ∧ Rws vs (ps.map fun p => [p.1, p.2])
theorem rws_prs : ∀ ps : List Pt, Rws (ps.map pr) (ps.map fun p => [p.1, p.2])
  | [] => .nil
  | p :: r => .cons (.inr rfl) (rws_prs r)
theorem rws_lst : ∀ ps : List Pt, Rws (ps.map fun p => .list [.int p.1, .int p.2]) (ps.map fun p => [p.1, p.2])
  | [] => .nil
  | p :: r => .cons (.inl rfl) (rws_lst r)
theorem prs_prs (ps : List Pt) : Prs (prs ps) ps := ⟨_, .inr rfl, rws_prs ps⟩
theorem listed_prs (ps : List Pt) : listed (prs ps) = .list (ps.map fun p => .list [.int p.1, .int p.2]) := by
  rw [prs, listed, listeds_map, List.map_map]
  rfl
theorem prs_hnd {row : List Int} {k : Int} {ps : List Pt} : Prs (hnd row k (prs ps)) ps := by
  rcases hnd_or (row := row) (k := k) (v := prs ps) with h | h
  · rw [h]; exact prs_prs ps
  · exact ⟨_, .inl (by rw [h, listed_prs]), rws_lst ps⟩
theorem noDct_prs : ∀ ps : List Pt, noDcts (ps.map pr) = true
  | [] => rfl
  | p :: r => by show (noDct (pr p) && noDcts (r.map pr)) = true; rw [noDct_prs r]; rfl
theorem dep_prs : ∀ ps : List Pt, deps (ps.map pr) ≤ 2
  | [] => Nat.zero_le _
  | p :: r => by
    show max (dep (pr p)) (deps (r.map pr)) ≤ 2
    have := dep_prs r
    rw [show dep (pr p) = 2 by simp [pr_def, dep, deps]]
    omega
theorem handed_prs {row : List Int} (hr : RowOk row) {k : Int} {ps : List Pt} (hk : 0 ≤ k) (hz : ps.length ≤ 1000000) ⦃m : Nat⦄ (hm : 5 ≤ m) :
    call G m 26 [.pl (.list (ints_ row)), .io [.int k], .pl (prs ps)] = .ok (hndV row k (prs ps)) [[.int (k + 1)]] := handed_e hr hk (by
  show (noDcts (ps.map pr) && decide ((ps.map pr).length ≤ 1000000)) = true
  rw [noDct_prs]
  simp
  exact hz) (by have := dep_prs ps; simp only [dep, prs]; omega) (by omega)
theorem need_pairs_e {v : D} {ps : List Pt} (h : Prs v ps) {b1 b2 : Int × Int} {lo hi : Int} {at_ : D} (hb : ∀ p ∈ ps, b1.1 ≤ p.1 ∧ p.1 ≤ b1.2 ∧ b2.1 ≤ p.2 ∧ p.2 ≤ b2.2) (h0 : lo ≤ ps.length) (h1 : (ps.length : Int) ≤ hi) (h2 : ps.length ≤ 100000) ⦃m : Nat⦄ (hm : 3 ≤ m) :
    call G m 5 [.pl v, .pl (.int lo), .pl (.int hi), .pl (.tuple [.tuple [.int b1.1, .int b1.2], .tuple [.int b2.1, .int b2.2]]), .pl at_] = .ok (.pl (prs ps)) [] := by
  obtain ⟨vs, s, r⟩ := h
  have := need_tuples_e (bs := [b1, b2]) (lo := lo) (hi := hi) (at_ := at_) s r (fun r hr => by
    obtain ⟨p, hp, rfl⟩ := List.mem_map.mp hr
    obtain ⟨q1, q2, q3, q4⟩ := hb p hp
    simp [within]
    omega) (by simp) (by simpa using h0) (by simpa using h1) (by simpa using h2) hm
  rw [show rowsD (ps.map fun p => [p.1, p.2]) = prs ps by unfold rowsD prs; rw [List.map_map]; rfl] at this
  exact this
theorem need_e {at_ : D} ⦃m : Nat⦄ (hm : 1 ≤ m) : call G m 46 [.pl (.bool true), .pl at_] = .ok (.pl .none) [] := by
  obtain ⟨f, rfl⟩ : ∃ n, m = n + 1 := ⟨m - 1, by omega⟩
  rw [g_need]
  simp [runDef, d_need]
end Sw

end
section
set_option maxRecDepth 100000
set_option maxHeartbeats 1000000
namespace Sw
open PySem (PyData Str)
open PySem.W (dataLt keyToks keyToksAll alike)
def sortB {α : Type} (le : α → α → Bool) : List α → List α
  | [] => []
  | x :: r => insB le x (sortB le r)
where insB (le : α → α → Bool) (x : α) : List α → List α
  | [] => [x]
  | y :: r => if le x y then x :: y :: r else y :: insB le x r
theorem ins_map {α : Type} (enc : α → D) (x : α) : ∀ l : List α, insD (enc x) (l.map enc) = (sortB.insB (fun a b => leD (enc a) (enc b)) x l).map enc
  | [] => rfl
  | y :: r => by
    show (if leD (enc x) (enc y) then enc x :: enc y :: r.map enc else enc y :: insD (enc x) (r.map enc)) = _
    rw [ins_map enc x r, sortB.insB]
    split <;> rfl
theorem sort_map {α : Type} (enc : α → D) : ∀ l : List α, sortD (l.map enc) = (sortB (fun a b => leD (enc a) (enc b)) l).map enc
  | [] => rfl
  | x :: r => by
    show insD (enc x) (sortD (r.map enc)) = _
    rw [sort_map enc r, ins_map]
    rfl
theorem insB_perm {α : Type} {le : α → α → Bool} (x : α) : ∀ l : List α, (sortB.insB le x l).Perm (x :: l)
  | [] => .refl _
  | y :: r => by
    rw [sortB.insB]
    split
    · exact .refl _
    · exact ((insB_perm x r).cons y).trans (.swap x y r)
theorem sortB_perm {α : Type} {le : α → α → Bool} : ∀ l : List α, (sortB le l).Perm l
  | [] => .refl _
  | x :: r => (insB_perm x _).trans ((sortB_perm r).cons x)
theorem sortB_pw {α : Type} (enc : α → D) (l : List α) : (sortB (fun a b => leD (enc a) (enc b)) l).Pairwise fun a b => leD (enc a) (enc b) = true := by
  have := sort_pw (l.map enc)
  rw [sort_map] at this
  exact List.pairwise_map.mp this
theorem dl_int (a b : Int) : dataLt (.int a) (.int b) = decide (a < b) := by
  have e : dataLt (.int a) (.int b) = (decide (a < b) || (!decide (b < a) && false)) := rfl
  rw [e]; simp
def dlA (xs ys : List D) : Bool := PyProof.Rows.lexLt PyProof.Rows.itemOrd (keyToksAll xs) (keyToksAll ys)
theorem dl_tup (xs ys : List D) : dataLt (.tuple xs) (.tuple ys) = dlA xs ys := by simp [dataLt, dlA, keyToks]
theorem dlA_int (a b : Int) (xs ys : List D) : dlA (.int a :: xs) (.int b :: ys) = (decide (a < b) || (decide (a = b) && dlA xs ys)) := by
  have hk : alike (.int a) (.int b) = true := by simp [alike]
  by_cases e : a = b
  · subst e
    have := PySem.W.dataLt_all_yes (xs := xs) (ys := ys) hk (by simp [PyData.eqv])
    simp [dlA, this]
  · have := PySem.W.dataLt_all_no (xs := xs) (ys := ys) hk (by simp [PyData.eqv, e])
    simp [dlA, this, e, dl_int]
theorem dlA_nn : dlA [] [] = false := rfl
theorem dlA_nc (y : D) (ys : List D) : dlA [] (y :: ys) = true := by
  have : dlA [] (y :: ys) = (decide ((0 : Int) < 1) || (!decide ((1 : Int) < 0) && PyProof.Rows.lexLt PyProof.Rows.itemOrd [] (keyToks y ++ keyToksAll ys))) := rfl
  rw [this]; simp
theorem dlA_cn (y : D) (ys : List D) : dlA (y :: ys) [] = false := by
  have : dlA (y :: ys) [] = (decide ((1 : Int) < 0) || (!decide ((0 : Int) < 1) && PyProof.Rows.lexLt PyProof.Rows.itemOrd (keyToks y ++ keyToksAll ys) [])) := rfl
  rw [this]; simp
theorem dlA_ints : ∀ xs ys : List Int, dlA (ints_ xs) (ints_ ys) = lexI xs ys
  | [], [] => dlA_nn
  | [], y :: t => dlA_nc _ _
  | x :: s, [] => dlA_cn _ _
  | x :: s, y :: t => by
    show dlA (.int x :: ints_ s) (.int y :: ints_ t) = _
    rw [dlA_int, dlA_ints s t, lexI]
    by_cases e : x = y
    · simp [e]
    · simp [e]
theorem dl_pr (p q : Pt) : dataLt (pr p) (pr q) = (decide (p.1 < q.1) || (decide (p.1 = q.1) && decide (p.2 < q.2))) := by
  rw [pr_def, pr_def, dl_tup, dlA_int, dlA_int, dlA_nn]; simp
theorem le_pr {p q : Pt} (h : leD (pr p) (pr q) = true) : p.1 ≤ q.1 := by
  simp [leD, dl_pr] at h
  omega
theorem leI_ {a b : Int} : leD (.int a) (.int b) = decide (a ≤ b) := by
  simp only [leD, dl_int]
  by_cases h : b < a
  · have : ¬ a ≤ b := by omega
    simp [h, this]
  · have : a ≤ b := by omega
    simp [h, this]
def sortP (l : List Pt) : List Pt := sortB (fun a b => leD (pr a) (pr b)) l
def sortI (l : List Int) : List Int := sortB (fun a b => leD (.int a) (.int b)) l
theorem alikeI_ (l : List Int) : alikeL (ints_ l) = true := by simp [alikeL, intsD_ints]
theorem sortableI_s (l : List Int) : sortableL (ints_ l) = true := by simp [sortableL]
theorem alike_prs (l : List Pt) : alikeL (l.map pr) = true := by
  simp [alikeL, pr_def, alike, PySem.W.alikeAll]
theorem sortable_prs (l : List Pt) : sortableL (l.map pr) = true := by simp [sortableL, pr_def]
theorem depthI_ : ∀ l : List Int, PyData.depthAll (ints_ l) ≤ 1
  | [] => by simp [PyData.depthAll]
  | x :: r => by have := depthI_ r; simp [PyData.depthAll, PyData.depth] at *; omega
theorem depth_prs : ∀ l : List Pt, PyData.depthAll (l.map pr) ≤ 3
  | [] => by simp [PyData.depthAll]
  | x :: r => by have := depth_prs r; simp [PyData.depthAll, PyData.depth, pr_def] at *; omega
theorem sorted_ints (l : List Int) : bfn .sorted [.list (ints_ l)] = some (.fr (ints_ (sortI l))) := by
  show (if alikeL (ints_ l) && sortableL (ints_ l) && decide (PyData.depthAll (ints_ l) ≤ 50) then some (VT.fr (sortD (ints_ l))) else none) = _
  rw [alikeI_, sortableI_s, sort_map]
  have := depthI_ l
  simp [sortI]; omega
theorem sorted_prs (l : List Pt) : bfn .sorted [.list (l.map pr)] = some (.fr ((sortP l).map pr)) := by
  show (if alikeL (l.map pr) && sortableL (l.map pr) && decide (PyData.depthAll (l.map pr) ≤ 50) then some (VT.fr (sortD (l.map pr))) else none) = _
  rw [alike_prs, sortable_prs, sort_map]
  have := depth_prs l
  simp [sortP]; omega
theorem sortP_perm (l : List Pt) : (sortP l).Perm l := sortB_perm l
theorem sortP_pw (l : List Pt) : (sortP l).Pairwise fun p q => p.1 ≤ q.1 := (sortB_pw pr l).imp le_pr
theorem sortI_perm (l : List Int) : (sortI l).Perm l := sortB_perm l
theorem sortI_pw (l : List Int) : (sortI l).Pairwise (· ≤ ·) := (sortB_pw PyData.int l).imp fun h => by simpa [leI_] using h
end Sw

end
section
namespace Sw
abbrev Sp := Int × Int
def Apart (p q : Sp) : Prop := p.2 < q.1 ∨ q.2 < p.1
theorem Apart.symm {p q : Sp} (h : Apart p q) : Apart q p := h.elim Or.inr Or.inl
def Nu (P : Sp → Prop) (m : Nat) : Prop :=
  (∀ Y : List Sp, Y.Pairwise Apart → (∀ y ∈ Y, P y) → Y.length ≤ m) ∧ ∃ Y : List Sp, Y.Pairwise Apart ∧ (∀ y ∈ Y, P y) ∧ Y.length = m
theorem Nu.mono {P Q : Sp → Prop} {m n : Nat} (a : Nu P m) (b : Nu Q n) (h : ∀ p, P p → Q p) : m ≤ n := by
  obtain ⟨Y, h1, h2, h3⟩ := a.2
  exact h3 ▸ b.1 Y h1 fun y hy => h y (h2 y hy)
theorem Nu.uniq {P : Sp → Prop} {m n : Nat} (a : Nu P m) (b : Nu P n) : m = n := Nat.le_antisymm (a.mono b fun _ h => h) (b.mono a fun _ h => h)
theorem Nu.iff {P Q : Sp → Prop} {m : Nat} (a : Nu P m) (h : ∀ p, P p ↔ Q p) : Nu Q m := by
  have : P = Q := funext fun p => propext (h p)
  exact this ▸ a
/-- spans that all hold one place are never apart -/
theorem one_hit {e : Int} : ∀ Y : List Sp, Y.Pairwise Apart → (∀ y ∈ Y, y.1 ≤ e ∧ e ≤ y.2) → Y.length ≤ 1
  | [], _, _ => by simp
  | [y], _, _ => by simp
  | y :: z :: t, h, k => by
    have h1 : Apart y z := List.rel_of_pairwise_cons h (by simp)
    have a := k y (by simp)
    have b := k z (by simp)
    rcases h1 with h1 | h1 <;> omega
theorem len_split (Y : List Sp) (e : Int) : Y.length = (Y.filter fun y => decide (y.1 > e)).length + (Y.filter fun y => decide (y.1 ≤ e)).length := by
  induction Y with
  | nil => rfl
  | cons y t ih =>
    by_cases h : y.1 > e
    · have h' : ¬ y.1 ≤ e := by omega
      simp [List.filter_cons, h, h', ih]; omega
    · have h' : y.1 ≤ e := by omega
      simp [List.filter_cons, h, h', ih]; omega
/-- all ends lie at `e` or behind: leaving those that begin before costs one at most -/
theorem nu_le {P : Sp → Prop} {m n : Nat} {e : Int} (a : Nu P m) (b : Nu (fun p => P p ∧ p.1 > e) n) (h : ∀ p, P p → e ≤ p.2) : m ≤ n + 1 := by
  obtain ⟨Y, h1, h2, h3⟩ := a.2
  have k1 := b.1 (Y.filter fun y => decide (y.1 > e)) (h1.filter _) fun y hy => by
    have := List.mem_filter.mp hy
    exact ⟨h2 y this.1, of_decide_eq_true this.2⟩
  have k2 := one_hit (e := e) (Y.filter fun y => decide (y.1 ≤ e)) (h1.filter _) fun y hy => by
    have := List.mem_filter.mp hy
    exact ⟨of_decide_eq_true this.2, h y (h2 y this.1)⟩
  have := len_split Y e
  omega
theorem nu_ge {P : Sp → Prop} {m n : Nat} {p : Sp} (a : Nu P m) (b : Nu (fun q => P q ∧ q.1 > p.2) n) (h : P p) : n + 1 ≤ m := by
  obtain ⟨Y, h1, h2, h3⟩ := b.2
  have := a.1 (p :: Y) (List.pairwise_cons.mpr ⟨fun y hy => Or.inl (h2 y hy).2, h1⟩) (by
    intro y hy
    rcases List.mem_cons.mp hy with rfl | hy
    · exact h
    · exact (h2 y hy).1)
  simp at this
  omega
/-- the walk through the spans by their ends; `q = (end, start)` -/
def cG : List (Int × Int) → Int → Nat
  | [], _ => 0
  | q :: t, s => if q.2 > s then 1 + cG t q.1 else cG t s
theorem cG_nu : ∀ (S : List (Int × Int)) (s : Int), S.Pairwise (fun p q => p.1 ≤ q.1) → (∀ q ∈ S, q.2 ≤ q.1) → Nu (fun p => (p.2, p.1) ∈ S ∧ p.1 > s) (cG S s)
  | [], s, _, _ => ⟨fun Y _ h => by
      cases Y with
      | nil => simp
      | cons y t => exact absurd (h y (by simp)).1 (by simp), [], List.Pairwise.nil, by simp, rfl⟩
  | q :: t, s, hs, ho => by
    obtain ⟨h1, h2⟩ := List.pairwise_cons.mp hs
    have ho' : ∀ q ∈ t, q.2 ≤ q.1 := fun x hx => ho x (List.mem_cons_of_mem _ hx)
    have hq := ho q (by simp)
    by_cases h : q.2 > s
    · have e : cG (q :: t) s = 1 + cG t q.1 := by simp [cG, h]
      rw [e]
      have ih := cG_nu t q.1 h2 ho'
      constructor
      · intro Y y1 y2
        have k1 := ih.1 (Y.filter fun y => decide (y.1 > q.1)) (y1.filter _) fun y hy => by
          have := List.mem_filter.mp hy
          have g := of_decide_eq_true this.2
          have m := (y2 y this.1).1
          rcases List.mem_cons.mp m with m | m
          · subst m
            simp at hq g
            omega
          · exact ⟨m, g⟩
        have k2 := one_hit (e := q.1) (Y.filter fun y => decide (y.1 ≤ q.1)) (y1.filter _) fun y hy => by
          have := List.mem_filter.mp hy
          have m := (y2 y this.1).1
          refine ⟨of_decide_eq_true this.2, ?_⟩
          rcases List.mem_cons.mp m with m | m
          · subst m; simp
          · exact h1 _ m
        have := len_split Y q.1
        omega
      · obtain ⟨Y, y1, y2, y3⟩ := ih.2
        refine ⟨(q.2, q.1) :: Y, List.pairwise_cons.mpr ⟨fun y hy => Or.inl (y2 y hy).2, y1⟩, ?_, by simp [y3]; omega⟩
        intro y hy
        rcases List.mem_cons.mp hy with rfl | hy
        · exact ⟨by simp, h⟩
        · have := y2 y hy
          exact ⟨List.mem_cons_of_mem _ this.1, by omega⟩
    · have e : cG (q :: t) s = cG t s := by simp [cG, h]
      rw [e]
      refine (cG_nu t s h2 ho').iff fun p => ⟨fun k => ⟨List.mem_cons_of_mem _ k.1, k.2⟩, fun k => ⟨?_, k.2⟩⟩
      rcases List.mem_cons.mp k.1 with m | m
      · subst m
        exact absurd k.2 h
      · exact m
end Sw

end
section
namespace Sw
def Fine (l : List Sp) : Prop := ∀ p ∈ l, 1 ≤ p.1 ∧ p.1 ≤ p.2 ∧ p.2 ≤ 100
def byEnd (l : List Sp) : List (Int × Int) := (l.map fun p => (p.2, p.1)).mergeSort fun p q => decide (p.1 ≤ q.1)
theorem mem_swap {l : List Sp} {p : Sp} : (p.2, p.1) ∈ l.map (fun p => (p.2, p.1)) ↔ p ∈ l := by
  constructor
  · intro h
    obtain ⟨q, h1, h2⟩ := List.mem_map.mp h
    have : q = p := by
      injection h2 with a b
      exact Prod.ext b a
    exact this ▸ h1
  · intro h
    exact List.mem_map.mpr ⟨p, h, rfl⟩
/-- any list of the same swapped spans in the order of their ends counts alike -/
theorem nu_of {l : List Sp} {S : List (Int × Int)} (hl : Fine l) (hs : S.Pairwise fun p q => p.1 ≤ q.1) (hm : ∀ q, q ∈ S ↔ q ∈ l.map fun p => (p.2, p.1)) (s : Int) :
    Nu (fun p => p ∈ l ∧ p.1 > s) (cG S s) := by
  refine (cG_nu S s hs fun q hq => ?_).iff fun p => ?_
  · obtain ⟨p, h1, rfl⟩ := List.mem_map.mp ((hm q).mp hq)
    exact (hl p h1).2.1
  · rw [hm, mem_swap]
theorem byEnd_sorted (l : List Sp) : (byEnd l).Pairwise fun p q => p.1 ≤ q.1 :=
  (List.pairwise_mergeSort (le := fun p q : Int × Int => decide (p.1 ≤ q.1)) (fun a b c h1 h2 => by simp at *; omega) (fun a b => by simp; omega) _).imp fun h => by simpa using h
def nuL (l : List Sp) (s : Int) : Nat := cG (byEnd l) s
theorem nuL_nu {l : List Sp} (hl : Fine l) (s : Int) : Nu (fun p => p ∈ l ∧ p.1 > s) (nuL l s) :=
  nu_of hl (byEnd_sorted l) (fun q => by simp [byEnd]) s
def beh (l : List Sp) (s : Int) : List Sp := l.filter fun p => decide (p.1 > s)
theorem Fine.beh {l : List Sp} (h : Fine l) (s : Int) : Fine (beh l s) := fun p hp => h p (List.mem_filter.mp hp).1
theorem Fine.sub {l k : List Sp} (h : Fine l) (q : ∀ p ∈ k, p ∈ l) : Fine k := fun p hp => h p (q p hp)
theorem nuL_beh {l : List Sp} (hl : Fine l) {s : Int} (h0 : 0 ≤ s) : nuL (beh l s) 0 = nuL l s := by
  refine (nuL_nu (hl.beh s) 0).uniq ((nuL_nu hl s).iff fun p => ?_)
  simp only [beh, List.mem_filter, decide_eq_true_eq]
  constructor
  · intro k
    exact ⟨k, by omega⟩
  · intro k
    exact k.1
theorem beh_beh {l : List Sp} {s t : Int} (h : s ≤ t) : beh (beh l s) t = beh l t := by
  simp only [beh, List.filter_filter]
  refine List.filter_congr fun p _ => ?_
  by_cases k : p.1 > t
  · have : p.1 > s := by omega
    simp [k, this]
  · simp [k]
theorem beh_zero {l : List Sp} (hl : Fine l) : beh l 0 = l := List.filter_eq_self.mpr fun p hp => by
  have := hl p hp
  simp; omega
theorem nuL_zero_of {l : List Sp} (hl : Fine l) {s : Int} (h : ∀ p ∈ l, p.1 ≤ s) : nuL l s = 0 := by
  obtain ⟨Y, h1, h2, h3⟩ := (nuL_nu hl s).2
  cases Y with
  | nil => exact h3.symm
  | cons y t =>
    have := h2 y (by simp)
    have := h y this.1
    omega
theorem nuL_zero {l : List Sp} (hl : Fine l) {s : Int} : nuL l s = 0 ↔ beh l s = [] := by
  constructor
  · intro h
    refine List.filter_eq_nil_iff.mpr fun p hp => ?_
    intro k
    have k := of_decide_eq_true k
    have := (nuL_nu hl s).1 [p] (by simp) (by simp; exact ⟨hp, k⟩)
    simp at this
    omega
  · intro h
    refine nuL_zero_of hl fun p hp => ?_
    have := List.filter_eq_nil_iff.mp h p hp
    simpa using this
theorem nuL_anti {l : List Sp} (hl : Fine l) {s t : Int} (h : s ≤ t) : nuL l t ≤ nuL l s :=
  (nuL_nu hl t).mono (nuL_nu hl s) fun p hp => ⟨hp.1, by omega⟩
theorem nuL_hundred {l : List Sp} (hl : Fine l) {s : Int} (h : 100 ≤ s) : nuL l s = 0 := nuL_zero_of hl fun p hp => by
  have := hl p hp
  omega
/-- a place up to which no open span ends costs one at most -/
theorem nuL_drop {l : List Sp} (hl : Fine l) {s x : Int} (hx : s ≤ x) (h : ∀ p ∈ l, p.1 > s → x ≤ p.2) : nuL l s ≤ nuL l x + 1 :=
  nu_le (nuL_nu hl s) ((nuL_nu hl x).iff fun p => ⟨fun k => ⟨⟨k.1, by omega⟩, k.2⟩, fun k => ⟨k.1.1, k.2⟩⟩) fun p hp => h p hp.1 hp.2
theorem nuL_end {l : List Sp} (hl : Fine l) {s : Int} {p : Sp} (h : p ∈ l) (hs : p.1 > s) : nuL l p.2 + 1 ≤ nuL l s :=
  nu_ge (nuL_nu hl s) ((nuL_nu hl p.2).iff fun q => by
    have := hl p h
    exact ⟨fun k => ⟨⟨k.1, by omega⟩, k.2⟩, fun k => ⟨k.1.1, k.2⟩⟩) ⟨h, hs⟩
/-- the first place at which fewer are left -/
def nxF (l : List Sp) (m : Nat) : Nat → Int → Int
  | 0, x => x
  | f + 1, x => if nuL l x = m then nxF l m f (x + 1) else x
theorem nxF_spec {l : List Sp} {m : Nat} : ∀ (f : Nat) (x : Int), nuL l (x + f) ≠ m → nuL l (nxF l m f x) ≠ m ∧ x ≤ nxF l m f x ∧ nxF l m f x ≤ x + f ∧ ∀ y, x ≤ y → y < nxF l m f x → nuL l y = m
  | 0, x, h => ⟨by simpa [nxF] using h, by simp [nxF], by simp [nxF], fun y h1 h2 => by simp [nxF] at h2; omega⟩
  | f + 1, x, h => by
    by_cases e : nuL l x = m
    · have k := nxF_spec f (x + 1) (by rw [show x + 1 + (f : Int) = x + ((f + 1 : Nat) : Int) by omega]; exact h)
      simp only [nxF, e, if_true]
      refine ⟨k.1, by omega, by have := k.2.2.1; omega, fun y h1 h2 => ?_⟩
      by_cases g : y = x
      · exact g ▸ e
      · exact k.2.2.2 y (by omega) h2
    · simp only [nxF, e, if_false]
      exact ⟨e, by omega, by omega, fun y h1 h2 => by omega⟩
def nxt (l : List Sp) (s : Int) : Int := nxF l (nuL l s) 100 (s + 1)
structure Nxt (l : List Sp) (s x : Int) : Prop where
  gt : s < x
  le : x ≤ s + 101
  same : ∀ y, s ≤ y → y < x → nuL l y = nuL l s
  drop : nuL l x + 1 = nuL l s
  start : ∃ p ∈ l, p.1 = x
  meet : ∀ p ∈ l, p.1 > s → x ≤ p.2
theorem nxt_spec {l : List Sp} (hl : Fine l) {s : Int} (h0 : 0 ≤ s) (hm : nuL l s ≠ 0) : Nxt l s (nxt l s) := by
  have k := nxF_spec (l := l) (m := nuL l s) 100 (s + 1) (by rw [nuL_hundred hl (by omega)]; exact fun h => hm h.symm)
  have hne : nuL l (nxt l s) ≠ nuL l s := k.1
  have h1 : s + 1 ≤ nxt l s := k.2.1
  have h2 : nxt l s ≤ s + 101 := by have := k.2.2.1; simp only [nxt]; omega
  have h3 : ∀ y, s ≤ y → y < nxt l s → nuL l y = nuL l s := fun y a b => by
    by_cases e : y = s
    · rw [e]
    · exact k.2.2.2 y (by omega) b
  have meet : ∀ p ∈ l, p.1 > s → nxt l s ≤ p.2 := fun p hp hs => by
    by_cases e : nxt l s ≤ p.2
    · exact e
    · have a := h3 p.2 (by have := hl p hp; omega) (by omega)
      have b := nuL_end hl hp hs
      omega
  have d := nuL_drop hl (by omega : s ≤ nxt l s) meet
  have a := nuL_anti hl (by omega : s ≤ nxt l s)
  refine ⟨by omega, h2, h3, by omega, ?_, meet⟩
  by_cases e : ∃ p ∈ l, p.1 = nxt l s
  · exact e
  · have : beh l (nxt l s) = beh l (nxt l s - 1) := List.filter_congr fun p hp => by
      have : p.1 ≠ nxt l s := fun g => e ⟨p, hp, g⟩
      by_cases g : p.1 > nxt l s
      · have : p.1 > nxt l s - 1 := by omega
        simp [g, this]
      · have : ¬ p.1 > nxt l s - 1 := by omega
        simp [g, this]
    have x := h3 (nxt l s - 1) (by omega) (by omega)
    rw [← nuL_beh hl (by omega), ← this, nuL_beh hl (by omega)] at x
    exact absurd x hne
/-- the places themselves -/
def Fz (l : List Sp) : Nat → Int → List Int
  | 0, _ => []
  | m + 1, s => nxt l s :: Fz l m (nxt l s)
theorem Fz_len {l : List Sp} : ∀ (m : Nat) (s : Int), (Fz l m s).length = m
  | 0, _ => rfl
  | m + 1, s => by simp [Fz, Fz_len m]
/-- the law's choice among the marks -/
def stB (l : List Sp) (b : Option Int) (y : Int) : Option Int :=
  match b with
  | none => some y
  | some x => if nuL l y < nuL l x then some y else some x
theorem stB_stay {l : List Sp} {x : Int} : ∀ (ys : List Int), (∀ y ∈ ys, nuL l x ≤ nuL l y) → ys.foldl (stB l) (some x) = some x
  | [], _ => rfl
  | y :: t, h => by
    have := h y (by simp)
    rw [List.foldl_cons, show stB l (some x) y = some x by simp [stB]; omega]
    exact stB_stay t fun z hz => h z (List.mem_cons_of_mem _ hz)
theorem stB_find {l : List Sp} {s x : Int} (hx : Nxt l s x) : ∀ (ys : List Int) (b : Option Int), ys.Pairwise (· ≤ ·) → (∀ y ∈ ys, s < y ∧ nuL l s ≤ nuL l y + 1) → x ∈ ys →
    (∀ z, b = some z → nuL l z = nuL l s) → ys.foldl (stB l) b = some x
  | y :: t, b, hp, hy, hm, hb => by
    obtain ⟨p1, p2⟩ := List.pairwise_cons.mp hp
    have hd := hx.drop
    rw [List.foldl_cons]
    by_cases e : y = x
    · subst e
      have : stB l b y = some y := by
        cases b with
        | none => rfl
        | some z =>
          have := hb z rfl
          simp [stB]; omega
      rw [this]
      exact stB_stay t fun z hz => by have := hy z (List.mem_cons_of_mem _ hz); omega
    · have ht : x ∈ t := by
        rcases List.mem_cons.mp hm with h | h
        · exact absurd h.symm e
        · exact h
      have lt : y < x := by have := p1 x ht; omega
      have ey := hx.same y (by have := hy y (by simp); omega) lt
      refine stB_find hx t _ p2 (fun z hz => hy z (List.mem_cons_of_mem _ hz)) ht fun z hz => ?_
      cases b with
      | none =>
        simp [stB] at hz
        subst hz
        exact ey
      | some w =>
        have hw := hb w rfl
        have : stB l (some w) y = some w := by simp [stB]; omega
        rw [this] at hz
        injection hz with hz
        subst hz
        exact hw
/-- the places meet all spans -/
theorem Fz_meets {l : List Sp} (hl : Fine l) : ∀ (m : Nat) (s : Int), 0 ≤ s → nuL l s = m → ∀ p ∈ l, p.1 > s → ∃ x ∈ Fz l m s, p.1 ≤ x ∧ x ≤ p.2
  | 0, s, h0, hm, p, hp, hs => by
    have := (nuL_zero hl).mp hm
    have := List.filter_eq_nil_iff.mp this p hp
    simp at this
    omega
  | m + 1, s, h0, hm, p, hp, hs => by
    have k := nxt_spec hl h0 (by omega)
    by_cases e : p.1 ≤ nxt l s
    · exact ⟨nxt l s, by simp [Fz], e, k.meet p hp hs⟩
    · obtain ⟨x, h1, h2⟩ := Fz_meets hl m (nxt l s) (by have := k.gt; omega) (by have := k.drop; omega) p hp (by omega)
      exact ⟨x, by simp [Fz, h1], h2⟩
end Sw

end
section
namespace Sw
instance (p q : Sp) : Decidable (Apart p q) := inferInstanceAs (Decidable (_ ∨ _))
def atS (l : List Sp) (i : Nat) : Sp := l.getD i (0, 0)
def aw (p : Sp) (l : List Sp) : List Sp := l.filter fun o => decide (Apart p o)
structure Ind (l : List Sp) (X : List Nat) : Prop where
  ap : X.Pairwise fun i j => Apart (atS l i) (atS l j)
  lt : ∀ i ∈ X, i < l.length
theorem atS_mem {l : List Sp} {i : Nat} (h : i < l.length) : atS l i ∈ l := by
  simp [atS, List.getD, List.getElem?_eq_getElem h]
theorem atS_idx {l : List Sp} {p : Sp} (h : p ∈ l) : atS l (l.idxOf p) = p ∧ l.idxOf p < l.length := by
  have k := List.idxOf_lt_length_iff.mpr h
  refine ⟨?_, k⟩
  simp [atS, List.getD, List.getElem?_eq_getElem k]
theorem apart_self {l : List Sp} (hl : Fine l) {p : Sp} (h : p ∈ l) : ¬ Apart p p := fun k => by
  have := hl p h
  rcases k with k | k <;> omega
theorem pw_both {α : Type} {R : α → α → Prop} (hs : ∀ a b, R a b → R b a) : ∀ {X : List α}, X.Pairwise R → ∀ a ∈ X, ∀ b ∈ X, a ≠ b → R a b
  | x :: t, h, a, ha, b, hb, e => by
    obtain ⟨h1, h2⟩ := List.pairwise_cons.mp h
    rcases List.mem_cons.mp ha with ka | ka
    · rcases List.mem_cons.mp hb with kb | kb
      · exact absurd (ka.trans kb.symm) e
      · exact ka ▸ h1 b kb
    · rcases List.mem_cons.mp hb with kb | kb
      · exact hs _ _ (kb ▸ h1 a ka)
      · exact pw_both hs h2 a ka b kb e
theorem Ind.both {l : List Sp} {X : List Nat} (h : Ind l X) {i j : Nat} (hi : i ∈ X) (hj : j ∈ X) (e : i ≠ j) : Apart (atS l i) (atS l j) :=
  pw_both (R := fun i j => Apart (atS l i) (atS l j)) (fun a b h => h.symm) h.ap i hi j hj e
theorem Ind.nodup {l : List Sp} (hl : Fine l) {X : List Nat} (h : Ind l X) : X.Nodup := by
  refine List.Pairwise.imp_of_mem ?_ h.ap
  intro a b ha hb k e
  subst e
  exact apart_self hl (atS_mem (h.lt a ha)) k
theorem Ind.le {l : List Sp} (hl : Fine l) {X : List Nat} (h : Ind l X) : X.length ≤ nuL l 0 := by
  have := (nuL_nu hl 0).1 (X.map (atS l)) (List.pairwise_map.mpr h.ap) fun y hy => by
    obtain ⟨i, hi, rfl⟩ := List.mem_map.mp hy
    have m := atS_mem (h.lt i hi)
    have := hl _ m
    exact ⟨m, by omega⟩
  simpa using this
theorem sub_len : ∀ {X Y : List Nat}, X.Nodup → (∀ i ∈ X, i ∈ Y) → X.length ≤ Y.length
  | [], _, _, _ => by simp
  | x :: t, Y, hn, hs => by
    obtain ⟨h1, h2⟩ := List.nodup_cons.mp hn
    have hx := hs x (by simp)
    have := sub_len (X := t) (Y := Y.erase x) h2 fun i hi => by
      have : i ≠ x := fun e => h1 (e ▸ hi)
      exact (List.mem_erase_of_ne this).mpr (hs i (by simp [hi]))
    rw [List.length_erase_of_mem hx] at this
    have : 0 < Y.length := List.length_pos_of_mem hx
    simp; omega
theorem len_three (X : List Nat) (k : Nat) (h : X.Nodup) : X.length ≤ (X.filter fun i => decide (i < k)).length + 1 + (X.filter fun i => decide (k < i)).length := by
  induction X with
  | nil => simp
  | cons x t ih =>
    obtain ⟨h1, h2⟩ := List.nodup_cons.mp h
    have ih := ih h2
    by_cases a : x < k
    · have b : ¬ k < x := by omega
      simp [List.filter_cons, a, b]; omega
    · by_cases b : k < x
      · simp [List.filter_cons, a, b]; omega
      · have e : x = k := by omega
        subst e
        have : ∀ (t : List Nat), x ∉ t → t.length = (t.filter fun i => decide (i < x)).length + (t.filter fun i => decide (x < i)).length := by
          intro t
          induction t with
          | nil => simp
          | cons y t ih =>
            intro hy
            have hy1 : x ≠ y := fun e => hy (by simp [e])
            have := ih fun e => hy (by simp [e])
            by_cases a : y < x
            · have b : ¬ x < y := by omega
              simp [List.filter_cons, a, b]; omega
            · have b : x < y := by omega
              simp [List.filter_cons, a, b]; omega
        have := this t h1
        simp [List.filter_cons]; omega
/-- what holds of the choice so far -/
structure Fa (l : List Sp) (k : Nat) (T : List Nat) (L : List Sp) (m : Nat) : Prop where
  up : T.Pairwise (· < ·)
  lt : ∀ i ∈ T, i < k
  ind : Ind l T
  left : ∀ p, p ∈ L ↔ p ∈ l ∧ ∀ i ∈ T, Apart (atS l i) p
  many : m + T.length = nuL l 0
  one : ∃ X, Ind l X ∧ X.length = nuL l 0 ∧ ∀ i, i < k → (i ∈ X ↔ i ∈ T)
  two : ∀ i, i < k → i ∉ T → ¬ ∃ X, Ind l X ∧ X.length = nuL l 0 ∧ i ∈ X ∧ ∀ j, j < i → (j ∈ X ↔ j ∈ T)
theorem aw_mem {p q : Sp} {L : List Sp} : q ∈ aw p L ↔ q ∈ L ∧ Apart p q := by simp [aw]
theorem ind_idx {l : List Sp} (hl : Fine l) {Y : List Sp} (h : Y.Pairwise Apart) (hm : ∀ y ∈ Y, y ∈ l) : (Y.map fun y => l.idxOf y).Pairwise fun i j => Apart (atS l i) (atS l j) := by
  refine List.pairwise_map.mpr (List.Pairwise.imp_of_mem ?_ h)
  intro a b ha hb k
  rw [(atS_idx (hm a ha)).1, (atS_idx (hm b hb)).1]
  exact k
theorem fa_iff {l : List Sp} (hl : Fine l) {k : Nat} {T : List Nat} {L : List Sp} {m : Nat} (F : Fa l k T L m) (hk : k < l.length) :
    (atS l k ∈ L ∧ nuL (aw (atS l k) L) 0 + 1 = m) ↔ ∃ X, Ind l X ∧ X.length = nuL l 0 ∧ k ∈ X ∧ ∀ j, j < k → (j ∈ X ↔ j ∈ T) := by
  have hL : Fine (aw (atS l k) L) := hl.sub fun p hp => ((F.left p).mp (aw_mem.mp hp).1).1
  have mk := F.many
  constructor
  · rintro ⟨h1, h2⟩
    obtain ⟨Y, y1, y2, y3⟩ := (nuL_nu hL 0).2
    have ym : ∀ y ∈ Y, y ∈ L ∧ Apart (atS l k) y := fun y hy => aw_mem.mp (y2 y hy).1
    have yl : ∀ y ∈ Y, y ∈ l := fun y hy => ((F.left y).mp (ym y hy).1).1
    have hX : Ind l (T ++ k :: Y.map fun y => l.idxOf y) := by
      constructor
      · refine List.pairwise_append.mpr ⟨F.ind.ap, List.pairwise_cons.mpr ⟨?_, ind_idx hl y1 yl⟩, ?_⟩
        · intro j hj
          obtain ⟨y, hy, rfl⟩ := List.mem_map.mp hj
          rw [(atS_idx (yl y hy)).1]
          exact (ym y hy).2
        · intro i hi j hj
          rcases List.mem_cons.mp hj with rfl | hj
          · exact ((F.left _).mp h1).2 i hi
          · obtain ⟨y, hy, rfl⟩ := List.mem_map.mp hj
            rw [(atS_idx (yl y hy)).1]
            exact ((F.left y).mp (ym y hy).1).2 i hi
      · intro i hi
        rcases List.mem_append.mp hi with hi | hi
        · exact F.ind.lt i hi
        · rcases List.mem_cons.mp hi with rfl | hi
          · exact hk
          · obtain ⟨y, hy, rfl⟩ := List.mem_map.mp hi
            exact (atS_idx (yl y hy)).2
    refine ⟨_, hX, by simp; omega, by simp, fun j => ?_⟩
    induction j using Nat.strongRecOn with
    | ind j ih =>
      intro hj
      refine ⟨fun q => ?_, fun q => List.mem_append_left _ q⟩
      by_cases e : j ∈ T
      · exact e
      · exact absurd ⟨_, hX, by simp; omega, q, fun i hi => ih i hi (by omega)⟩ (F.two j hj e)
  · rintro ⟨X, x1, x2, x3, x4⟩
    have tx : ∀ i ∈ T, i ∈ X := fun i hi => (x4 i (F.lt i hi)).mpr hi
    have h1 : atS l k ∈ L := (F.left _).mpr ⟨atS_mem hk, fun i hi => x1.both (tx i hi) x3 (by have := F.lt i hi; omega)⟩
    refine ⟨h1, ?_⟩
    have a1 : X.length ≤ T.length + 1 + (X.filter fun i => decide (k < i)).length := by
      have p := len_three X k (x1.nodup hl)
      have q := sub_len (X := X.filter fun i => decide (i < k)) (Y := T) ((x1.nodup hl).filter _) fun i hi => by
        have := List.mem_filter.mp hi
        exact (x4 i (of_decide_eq_true this.2)).mp this.1
      omega
    have a2 : (X.filter fun i => decide (k < i)).length ≤ nuL (aw (atS l k) L) 0 := by
      have := (nuL_nu hL 0).1 ((X.filter fun i => decide (k < i)).map (atS l)) (List.pairwise_map.mpr (x1.ap.filter _)) fun y hy => by
        obtain ⟨i, hi, rfl⟩ := List.mem_map.mp hy
        have hi := List.mem_filter.mp hi
        have ki := of_decide_eq_true hi.2
        have m := atS_mem (x1.lt i hi.1)
        have := hl _ m
        refine ⟨aw_mem.mpr ⟨(F.left _).mpr ⟨m, fun j hj => x1.both (tx j hj) hi.1 (by have := F.lt j hj; omega)⟩, x1.both x3 hi.1 (by omega)⟩, by omega⟩
      simpa using this
    have a3 : T.length + 1 + nuL (aw (atS l k) L) 0 ≤ nuL l 0 := by
      obtain ⟨Y, y1, y2, y3⟩ := (nuL_nu hL 0).2
      have ym : ∀ y ∈ Y, y ∈ L ∧ Apart (atS l k) y := fun y hy => aw_mem.mp (y2 y hy).1
      have := (nuL_nu hl 0).1 (T.map (atS l) ++ atS l k :: Y) (List.pairwise_append.mpr ⟨List.pairwise_map.mpr F.ind.ap, List.pairwise_cons.mpr ⟨fun y hy => (ym y hy).2, y1⟩, fun a ha b hb => by
        obtain ⟨i, hi, rfl⟩ := List.mem_map.mp ha
        rcases List.mem_cons.mp hb with rfl | hb
        · exact ((F.left _).mp h1).2 i hi
        · exact ((F.left b).mp (ym b hb).1).2 i hi⟩) fun y hy => by
          have m : y ∈ l := by
            rcases List.mem_append.mp hy with hy | hy
            · obtain ⟨i, hi, rfl⟩ := List.mem_map.mp hy
              exact atS_mem (F.ind.lt i hi)
            · rcases List.mem_cons.mp hy with rfl | hy
              · exact atS_mem hk
              · exact ((F.left y).mp (ym y hy).1).1
          have := hl y m
          exact ⟨m, by omega⟩
      simp at this
      omega
    omega
theorem fa_take {l : List Sp} (hl : Fine l) {k : Nat} {T : List Nat} {L : List Sp} {m : Nat} (F : Fa l k T L m) (hk : k < l.length) (h : atS l k ∈ L ∧ nuL (aw (atS l k) L) 0 + 1 = m) :
    Fa l (k + 1) (T ++ [k]) (aw (atS l k) L) (m - 1) := by
  obtain ⟨X, x1, x2, x3, x4⟩ := (fa_iff hl F hk).mp h
  have mk := F.many
  refine ⟨?_, ?_, ?_, ?_, by simp; omega, ⟨X, x1, x2, ?_⟩, ?_⟩
  · refine List.pairwise_append.mpr ⟨F.up, by simp, fun a ha b hb => ?_⟩
    simp at hb
    have := F.lt a ha
    omega
  · intro i hi
    rcases List.mem_append.mp hi with hi | hi
    · have := F.lt i hi; omega
    · simp at hi; omega
  · refine ⟨List.pairwise_append.mpr ⟨F.ind.ap, by simp, fun a ha b hb => ?_⟩, fun i hi => ?_⟩
    · simp at hb
      subst hb
      exact ((F.left _).mp h.1).2 a ha
    · rcases List.mem_append.mp hi with hi | hi
      · exact F.ind.lt i hi
      · simp at hi; omega
  · intro p
    rw [aw_mem, F.left]
    constructor
    · rintro ⟨⟨a, b⟩, c⟩
      refine ⟨a, fun i hi => ?_⟩
      rcases List.mem_append.mp hi with hi | hi
      · exact b i hi
      · simp at hi; subst hi; exact c
    · rintro ⟨a, b⟩
      exact ⟨⟨a, fun i hi => b i (List.mem_append_left _ hi)⟩, b k (by simp)⟩
  · intro i hi
    by_cases e : i = k
    · subst e; simp [x3]
    · rw [x4 i (by omega)]
      simp [e]
  · intro i hi hn
    have e : i ≠ k := fun e => hn (by simp [e])
    have := F.two i (by omega) fun q => hn (List.mem_append_left _ q)
    rintro ⟨Z, z1, z2, z3, z4⟩
    refine this ⟨Z, z1, z2, z3, fun j hj => ?_⟩
    rw [z4 j hj]
    have : j ≠ k := by omega
    simp [this]
theorem fa_skip {l : List Sp} (hl : Fine l) {k : Nat} {T : List Nat} {L : List Sp} {m : Nat} (F : Fa l k T L m) (hk : k < l.length) (h : ¬ (atS l k ∈ L ∧ nuL (aw (atS l k) L) 0 + 1 = m)) :
    Fa l (k + 1) T L m := by
  have nc := fun c => h ((fa_iff hl F hk).mpr c)
  obtain ⟨X, x1, x2, x3⟩ := F.one
  refine ⟨F.up, fun i hi => by have := F.lt i hi; omega, F.ind, F.left, F.many, ⟨X, x1, x2, fun i hi => ?_⟩, fun i hi hn => ?_⟩
  · by_cases e : i = k
    · subst e
      constructor
      · intro q
        exact absurd ⟨X, x1, x2, q, x3⟩ nc
      · intro q
        have := F.lt i q
        omega
    · exact x3 i (by omega)
  · by_cases e : i = k
    · subst e; exact nc
    · exact F.two i (by omega) hn
theorem fa_start {l : List Sp} (hl : Fine l) : Fa l 0 [] l (nuL l 0) := by
  refine ⟨by simp, by simp, ⟨by simp, by simp⟩, by simp, by simp, ?_, by simp⟩
  obtain ⟨Y, y1, y2, y3⟩ := (nuL_nu hl 0).2
  refine ⟨Y.map fun y => l.idxOf y, ⟨ind_idx hl y1 fun y hy => (y2 y hy).1, fun i hi => ?_⟩, by simp [y3], by simp⟩
  obtain ⟨y, hy, rfl⟩ := List.mem_map.mp hi
  exact (atS_idx (y2 y hy).1).2
/-- order of rows of numbers as Python has it -/
def lexN : List Nat → List Nat → Prop
  | [], [] => False
  | [], _ :: _ => True
  | _ :: _, [] => False
  | x :: s, y :: t => x < y ∨ (x = y ∧ lexN s t)
theorem lexN_tri : ∀ X Y : List Nat, lexN X Y ∨ X = Y ∨ lexN Y X
  | [], [] => Or.inr (Or.inl rfl)
  | [], _ :: _ => Or.inl trivial
  | _ :: _, [] => Or.inr (Or.inr trivial)
  | x :: s, y :: t => by
    rcases Nat.lt_trichotomy x y with h | h | h
    · exact Or.inl (Or.inl h)
    · rcases lexN_tri s t with k | k | k
      · exact Or.inl (Or.inr ⟨h, k⟩)
      · exact Or.inr (Or.inl (by rw [h, k]))
      · exact Or.inr (Or.inr (Or.inr ⟨h.symm, k⟩))
    · exact Or.inr (Or.inr (Or.inl h))
theorem lexN_diff : ∀ (X T : List Nat), X.Pairwise (· < ·) → T.Pairwise (· < ·) → X.length = T.length → lexN X T → ∃ i ∈ X, i ∉ T ∧ ∀ j, j < i → (j ∈ X ↔ j ∈ T)
  | [], [], _, _, _, h => h.elim
  | x :: s, y :: t, hx, ht, hn, h => by
    obtain ⟨x1, x2⟩ := List.pairwise_cons.mp hx
    obtain ⟨t1, t2⟩ := List.pairwise_cons.mp ht
    rcases h with h | ⟨rfl, h⟩
    · refine ⟨x, by simp, ?_, fun j hj => ?_⟩
      · intro q
        rcases List.mem_cons.mp q with q | q
        · omega
        · have := t1 x q; omega
      · constructor
        · intro q
          rcases List.mem_cons.mp q with q | q
          · omega
          · have := x1 j q; omega
        · intro q
          rcases List.mem_cons.mp q with q | q
          · omega
          · have := t1 j q; omega
    · obtain ⟨i, h1, h2, h3⟩ := lexN_diff s t x2 t2 (by simpa using hn) h
      refine ⟨i, by simp [h1], ?_, fun j hj => ?_⟩
      · intro q
        rcases List.mem_cons.mp q with q | q
        · have := x1 i h1; omega
        · exact h2 q
      · simp [h3 j hj]
theorem fa_end {l : List Sp} (hl : Fine l) {T : List Nat} {L : List Sp} {m : Nat} (F : Fa l l.length T L m) :
    T.length = nuL l 0 ∧ ∀ X, X.Pairwise (· < ·) → Ind l X → X.length = nuL l 0 → ¬ lexN X T := by
  obtain ⟨X, x1, x2, x3⟩ := F.one
  have a := sub_len (x1.nodup hl) fun i hi => (x3 i (x1.lt i hi)).mp hi
  have b := F.ind.le hl
  refine ⟨by omega, fun Z z1 z2 z3 z4 => ?_⟩
  obtain ⟨i, h1, h2, h3⟩ := lexN_diff Z T z1 F.up (by omega) z4
  exact F.two i (z2.lt i h1) h2 ⟨Z, z2, z3, h1, h3⟩
/-- the law's choice -/
def keyLe (X Y : List Nat) : Prop := X.length < Y.length ∨ (X.length = Y.length ∧ ¬ lexN Y X)
def stM (l : List Sp) (g : List Nat → Bool) (b X : List Nat) : List Nat := if g X && decide (b.length < X.length) then X else b
theorem stM_stay {l : List Sp} {g : List Nat → Bool} {T : List Nat} : ∀ (Q : List (List Nat)), (∀ X ∈ Q, g X = true → X.length ≤ T.length) → Q.foldl (stM l g) T = T
  | [], _ => rfl
  | X :: t, h => by
    have : stM l g T X = T := by
      by_cases e : g X = true
      · have := h X (by simp) e
        simp [stM]; omega
      · simp [stM, e]
    rw [List.foldl_cons, this]
    exact stM_stay t fun Z hz => h Z (by simp [hz])
theorem stM_find {l : List Sp} {g : List Nat → Bool} {T : List Nat} (hT : g T = true) : ∀ (Q : List (List Nat)) (b : List Nat), Q.Pairwise keyLe → (∀ X ∈ Q, g X = true → X.length ≤ T.length ∧ (X.length = T.length → ¬ lexN X T)) → (b = T ∨ (T ∈ Q ∧ b.length < T.length)) → Q.foldl (stM l g) b = T
  | Q, b, hp, hq, Or.inl e => by
    subst e
    exact stM_stay Q fun X hX k => (hq X hX k).1
  | X :: t, b, hp, hq, Or.inr ⟨hm, hb⟩ => by
    obtain ⟨p1, p2⟩ := List.pairwise_cons.mp hp
    rw [List.foldl_cons]
    refine stM_find hT t _ p2 (fun Z hz => hq Z (by simp [hz])) ?_
    by_cases e : X = T
    · subst e
      exact Or.inl (by simp [stM, hT, hb])
    · have ht : T ∈ t := by
        rcases List.mem_cons.mp hm with h | h
        · exact absurd h.symm e
        · exact h
      refine Or.inr ⟨ht, ?_⟩
      by_cases k : (g X && decide (b.length < X.length)) = true
      · simp only [stM, k, if_true]
        have kx := (Bool.and_eq_true_iff.mp k).1
        have q := hq X (by simp) kx
        rcases p1 T ht with r | ⟨r, s⟩
        · exact r
        · rcases lexN_tri X T with u | u | u
          · exact absurd u (q.2 r)
          · exact absurd u e
          · exact absurd u s
      · simp only [stM, k]
        exact hb
end Sw

end
section
set_option maxRecDepth 100000
set_option maxHeartbeats 4000000
namespace Sw
open PySem (PyData Str)
open PySem.W (dataLt keyToks keyToksAll alike alikeAll)
abbrev nI (T : List Nat) : List Int := T.map fun i : Nat => (i : Int)
abbrev lN (X : List Nat) : D := .list (ints_ (nI X))
abbrev tN (X : List Nat) : D := .tuple (ints_ (nI X))
def kN (X : List Nat) : D := .tuple [.int (X.length : Nat), tN X]
def stS (made : List (List Nat)) (x : Nat) : List (List Nat) := made ++ made.map fun X => X ++ [x]
def subs (xs : List Nat) : List (List Nat) := xs.foldl stS [[]]
theorem lexI_N : ∀ X Y : List Nat, lexI (nI X) (nI Y) = true ↔ lexN X Y
  | [], [] => by simp [lexI, lexN]
  | [], _ :: _ => by simp [lexI, lexN]
  | _ :: _, [] => by simp [lexI, lexN]
  | x :: s, y :: t => by
    have ih := lexI_N s t
    show lexI ((x : Int) :: nI s) ((y : Int) :: nI t) = true ↔ _
    rw [lexI, lexN]
    by_cases e : x = y
    · subst e
      simp only [if_true, ih]
      simp
    · have e' : ¬ (x : Int) = (y : Int) := by omega
      rw [if_neg e']
      simp [e]
theorem alikeAll_ints : ∀ xs ys : List Int, alikeAll (ints_ xs) (ints_ ys) = true
  | [], [] => rfl
  | [], _ :: _ => by simp [alikeAll]
  | _ :: _, [] => by simp [alikeAll]
  | x :: s, y :: t => by
    have := alikeAll_ints s t
    simp [alikeAll, alike]
    exact this
theorem eqvAll_ints : ∀ xs ys : List Int, PyData.eqvAll (ints_ xs) (ints_ ys) = decide (xs = ys)
  | [], [] => by simp [PyData.eqvAll]
  | [], _ :: _ => by simp [PyData.eqvAll]
  | _ :: _, [] => by simp [PyData.eqvAll]
  | x :: s, y :: t => by
    have := eqvAll_ints s t
    simp [PyData.eqvAll, PyData.eqv] at *
    rw [this]
    by_cases e : x = y <;> simp [e]
theorem dlA_tup (xs ys : List Int) : dlA [.tuple (ints_ xs)] [.tuple (ints_ ys)] = lexI xs ys := by
  have hk : alike (.tuple (ints_ xs)) (.tuple (ints_ ys)) = true := by simp only [alike]; exact alikeAll_ints xs ys
  by_cases e : xs = ys
  · subst e
    have := PySem.W.dataLt_all_yes (xs := []) (ys := []) hk (by simp only [PyData.eqv, eqvAll_ints]; simp)
    have h : dlA [.tuple (ints_ xs)] [.tuple (ints_ xs)] = dlA [] [] := this
    have irr : ∀ xs : List Int, lexI xs xs = false := by
      intro xs
      induction xs with
      | nil => rfl
      | cons x t ih => rw [lexI, if_pos rfl, ih]
    rw [h, dlA_nn, irr]
  · have := PySem.W.dataLt_all_no (xs := []) (ys := []) hk (by simp only [PyData.eqv, eqvAll_ints]; simp [e])
    have h : dlA [.tuple (ints_ xs)] [.tuple (ints_ ys)] = dataLt (.tuple (ints_ xs)) (.tuple (ints_ ys)) := this
    rw [h, dl_tup, dlA_ints]
theorem dl_key (X Y : List Nat) : dataLt (kN X) (kN Y) = (decide (X.length < Y.length) || (decide (X.length = Y.length) && lexI (nI X) (nI Y))) := by
  rw [kN, kN, dl_tup, dlA_int, dlA_tup]
  have e : ((X.length : Nat) : Int) = ((Y.length : Nat) : Int) ↔ X.length = Y.length := by omega
  by_cases c : X.length = Y.length <;> simp [c, e]
theorem le_key {X Y : List Nat} (h : leD (kN X) (kN Y) = true) : keyLe X Y := by
  have h : dataLt (kN Y) (kN X) = false := by simpa [leD] using h
  rw [dl_key] at h
  simp only [Bool.or_eq_false_iff, Bool.and_eq_false_iff, decide_eq_false_iff_not] at h
  rcases Nat.lt_trichotomy X.length Y.length with c | c | c
  · exact Or.inl c
  · refine Or.inr ⟨c, fun k => ?_⟩
    rw [← lexI_N] at k
    rcases h.2 with q | q
    · exact q c.symm
    · rw [k] at q; cases q
  · exact absurd c h.1
def sortK (Q : List (List Nat)) : List (List Nat) := sortB (fun a b => leD (kN a) (kN b)) Q
theorem sortK_perm (Q : List (List Nat)) : (sortK Q).Perm Q := sortB_perm Q
theorem sortK_pw (Q : List (List Nat)) : (sortK Q).Pairwise keyLe := (sortB_pw kN Q).imp le_key
theorem depth_keys : ∀ Q : List (List Nat), PyData.depthAll (Q.map kN) ≤ 5
  | [] => by simp [PyData.depthAll]
  | X :: r => by
    have a := depth_keys r
    have b := depthI_ (nI X)
    have c : (kN X).depth ≤ 4 := by
      simp only [kN, tN, PyData.depth, PyData.depthAll] at *
      omega
    simp only [List.map_cons, PyData.depthAll]
    omega
theorem sorted_keys (Q : List (List Nat)) : bfn .sorted [.list (Q.map kN)] = some (.fr ((sortK Q).map kN)) := by
  have h1 : alikeL (Q.map kN) = true := by
    have : ((Q.map kN).all fun x => (Q.map kN).all fun y => alike x y) = true := by
      refine List.all_eq_true.mpr fun x hx => List.all_eq_true.mpr fun y hy => ?_
      obtain ⟨X, _, rfl⟩ := List.mem_map.mp hx
      obtain ⟨Y, _, rfl⟩ := List.mem_map.mp hy
      have := alikeAll_ints (nI X) (nI Y)
      simp only [kN, tN, alike, alikeAll, Bool.and_true, Bool.true_and]
      exact this
    simp only [alikeL, this, Bool.or_true]
  have h2 : sortableL (Q.map kN) = true := by simp [sortableL, kN]
  have h3 := depth_keys Q
  show (if alikeL (Q.map kN) && sortableL (Q.map kN) && decide (PyData.depthAll (Q.map kN) ≤ 50) then some (VT.fr (sortD (Q.map kN))) else none) = _
  rw [h1, h2, sort_map]
  simp [sortK]; omega
theorem subs_range : ∀ (n : Nat) (X : List Nat), X ∈ subs (List.range n) ↔ X.Pairwise (· < ·) ∧ ∀ i ∈ X, i < n
  | 0, X => by
    simp [subs]
    constructor
    · rintro rfl; simp
    · intro h
      cases X with
      | nil => rfl
      | cons x t => exact (h.2 x (by simp)).elim
  | n + 1, X => by
    have ih := subs_range n
    have e : subs (List.range (n + 1)) = stS (subs (List.range n)) n := by
      rw [List.range_succ, subs, subs, List.foldl_append]; rfl
    rw [e, stS, List.mem_append, ih, List.mem_map]
    constructor
    · rintro (h | ⟨Y, hY, rfl⟩)
      · exact ⟨h.1, fun i hi => by have := h.2 i hi; omega⟩
      · obtain ⟨h1, h2⟩ := (ih Y).mp hY
        refine ⟨List.pairwise_append.mpr ⟨h1, by simp, fun a ha b hb => ?_⟩, fun i hi => ?_⟩
        · simp at hb; have := h2 a ha; omega
        · rcases List.mem_append.mp hi with hi | hi
          · have := h2 i hi; omega
          · simp at hi; omega
    · rintro ⟨h1, h2⟩
      rcases List.eq_nil_or_concat X with rfl | ⟨Y, z, rfl⟩
      · exact Or.inl ⟨by simp, by simp⟩
      · rw [List.concat_eq_append] at *
        obtain ⟨p1, p2, p3⟩ := List.pairwise_append.mp h1
        by_cases c : z = n
        · subst c
          exact Or.inr ⟨Y, (ih Y).mpr ⟨p1, fun i hi => p3 i hi z (by simp)⟩, rfl⟩
        · have hz := h2 z (by simp)
          refine Or.inl ⟨h1, fun i hi => ?_⟩
          rcases List.mem_append.mp hi with hi | hi
          · have := p3 i hi z (by simp); omega
          · simp at hi; omega
theorem subs_len (xs : List Nat) : ∀ M : List (List Nat), (xs.foldl stS M).length = M.length * 2 ^ xs.length := by
  induction xs with
  | nil => simp
  | cons x t ih =>
    intro M
    rw [List.foldl_cons, ih, List.length_cons, Nat.pow_succ]
    simp [stS]
    rw [← Nat.two_mul, Nat.mul_comm 2, Nat.mul_assoc, Nat.mul_comm 2]
theorem sets_comp {cl : Nat → List Ar → Ret} {v : D} {M : List (List Nat)} {x : Nat} (h1 : M.length ≤ 1024) (h2 : ∀ X ∈ M, X.length ≤ 10) :
    lcAll [3] (lcTurn (.nm 3) (ev cl .nl).t (ev cl e_law_sets_1).v) (M.map lN) [.pl v, .pl (.list (M.map lN)), .pl (.int (x : Int)), .em] =
      .ok (.fr ((M.map fun X => X ++ [x]).map lN)) [.pl v, .pl (.list (M.map lN)), .pl (.int (x : Int)), .em] := by
  have lc := lc_M (turn := lcTurn (.nm 3) (ev cl .nl).t (ev cl e_law_sets_1).v) (own := [3]) (ρ0 := [.pl v, .pl (.list (M.map lN)), .pl (.int (x : Int)), .em]) (ρw := [.pl v, .pl (.list (M.map lN)), .pl (.int (x : Int)), .em]) lN (fun X => lN (X ++ [x])) M (by simp) (by simp [SZ]; omega) fun X hX => by
    have hx : (nI X).length + 1 ≤ SZ := by have := h2 X hX; simp [SZ]; omega
    have e : lN (X ++ [x]) = .list (ints_ (nI X) ++ [.int (x : Int)]) := by simp [nI]
    rw [e]
    show ∃ ρ', lcTurn (.nm 3) (ev cl .nl).t (ev cl e_law_sets_1).v (.list (ints_ (nI X))) [.pl v, .pl (.list (M.map lN)), .pl (.int (x : Int)), .em] = _ ∧ _
    generalize nI X = P at hx
    exact ⟨_, by simp [e_law_sets_1, hx]; rfl, by simp⟩
  rw [List.map_map]
  exact lc
theorem sets_loop {v : D} {n : Nat} : ∀ (xs : List Nat) (M : List (List Nat)) (o : Option D), M.length * 2 ^ xs.length ≤ 1024 → (∀ X ∈ M, X.length + xs.length ≤ 10) →
    ∃ o', forLoop (forTurn (.nm 2) (ex (call G n) b_law_sets_1)) (ints_ (nI xs)) [.pl v, .pl (.list (M.map lN)), sl o, .em] = .nx [.pl v, .pl (.list ((xs.foldl stS M).map lN)), sl o', .em]
  | [], M, o, _, _ => ⟨o, rfl⟩
  | x :: t, M, o, h1, h2 => by
    rw [List.length_cons, Nat.pow_succ, Nat.mul_comm (2 ^ t.length), ← Nat.mul_assoc] at h1
    have hs : (stS M x).length = M.length * 2 := by simp [stS]; omega
    have hp : 0 < 2 ^ t.length := Nat.pow_pos (by omega)
    have hM : M.length * 2 ≤ 1024 := Nat.le_trans (Nat.le_mul_of_pos_right _ hp) h1
    obtain ⟨o', ih⟩ := sets_loop (v := v) (n := n) t (stS M x) (some (.int (x : Int))) (by rw [hs]; exact h1) fun X hX => by
      rw [stS, List.mem_append, List.mem_map] at hX
      rcases hX with hX | ⟨Y, hY, rfl⟩
      · have := h2 X hX; simp at this; omega
      · have := h2 Y hY; simp at this ⊢; omega
    refine ⟨o', ?_⟩
    have lc := sets_comp (cl := call G n) (v := v) (M := M) (x := x) (by omega) fun X hX => by have := h2 X hX; simp at this; omega
    have hz : M.length + M.length ≤ SZ := by simp only [SZ]; omega
    have sq : seqD (.list (M.map lN)) = some (M.map lN) := rfl
    have t1 : forTurn (.nm 2) (ex (call G n) b_law_sets_1) (.int (x : Int)) [.pl v, .pl (.list (M.map lN)), sl o, .em] = .nx [.pl v, .pl (.list ((stS M x).map lN)), sl (some (.int (x : Int))), .em] := by
      have e : (stS M x).map lN = M.map lN ++ (M.map fun X => X ++ [x]).map lN := by rw [stS, List.map_append]
      have hq : (M.map lN).length + ((M.map fun X => X ++ [x]).map lN).length ≤ SZ := by simpa using hz
      rw [e]
      generalize (M.map fun X => X ++ [x]).map lN = B at lc hq
      generalize M.map lN = A at lc hq sq
      simp [b_law_sets_1, sq, lc, hq]
    show (match forTurn (.nm 2) (ex (call G n) b_law_sets_1) (.int (x : Int)) [.pl v, .pl (.list (M.map lN)), sl o, .em] with | .nx ρ => forLoop _ _ ρ | .ct ρ => forLoop _ _ ρ | .bk ρ => .nx ρ | o => o) = _
    rw [t1]
    exact ih
theorem law_sets_e {n : Nat} (hn : n ≤ 10) ⦃m : Nat⦄ (hm : 1 ≤ m) : call G m 63 [.pl (.list (ints_ (nI (List.range n))))] = .ok (.pl (.list ((subs (List.range n)).map lN))) [] := by
  obtain ⟨f, rfl⟩ : ∃ k, m = k + 1 := ⟨m - 1, by omega⟩
  rw [g_law_sets]
  have hp : 2 ^ n ≤ 2 ^ 10 := Nat.pow_le_pow_right (by omega) hn
  obtain ⟨o, lp⟩ := sets_loop (v := .list (ints_ (nI (List.range n)))) (n := f) (List.range n) [[]] none (by simp at *; omega) (by simp; omega)
  rw [show (List.range n).foldl stS [[]] = subs (List.range n) from rfl, sl_none] at lp
  have sq : seqD (.list (ints_ (nI (List.range n)))) = some (ints_ (nI (List.range n))) := rfl
  rw [show [([] : List Nat)].map lN = [.list []] from rfl] at lp
  generalize nI (List.range n) = P at lp sq
  simp [runDef, d_law_sets, sq, lp]
end Sw

end
section
set_option maxRecDepth 100000
set_option maxHeartbeats 4000000
namespace Sw
open PySem (PyData Str)
/-- things told by data, k deep at most -/
structure Good {α : Type} [DecidableEq α] (enc : α → D) (k : Nat) : Prop where
  eqv : ∀ a b, PyData.eqv (enc a) (enc b) = decide (a = b)
  lay : ∀ a, (enc a).canLay0 = true
  dep : ∀ a, (enc a).depth ≤ k
theorem good_int : Good PyData.int 1 := ⟨fun a b => by by_cases h : a = b <;> simp [PyData.eqv, h], fun a => rfl, fun a => by simp [PyData.depth]⟩
theorem good_nat : Good (fun k : Nat => PyData.int (k : Int)) 1 := ⟨fun a b => by
    have : ((a : Int) == (b : Int)) = decide ((a : Int) = (b : Int)) := rfl
    by_cases h : a = b
    · subst h; simp [PyData.eqv]
    · have : ¬ (a : Int) = (b : Int) := by omega
      simp [PyData.eqv, h, this], fun a => rfl, fun a => by simp [PyData.depth]⟩
theorem lay_all {α : Type} {enc : α → D} (h : ∀ a, (enc a).canLay0 = true) : ∀ l : List α, PyData.canLayAll0 (l.map enc) = true
  | [] => rfl
  | a :: r => by
    have := lay_all h r
    simp [PyData.canLayAll0, h a, this]
theorem dep_all {α : Type} {enc : α → D} {k : Nat} (h : ∀ a, (enc a).depth ≤ k) : ∀ l : List α, PyData.depthAll (l.map enc) ≤ k
  | [] => Nat.zero_le _
  | a :: r => by
    have := dep_all h r
    have := h a
    simp only [List.map_cons, PyData.depthAll]
    omega
theorem eqv_all {α : Type} [DecidableEq α] {enc : α → D} (h : ∀ a b, PyData.eqv (enc a) (enc b) = decide (a = b)) : ∀ l m : List α, PyData.eqvAll (l.map enc) (m.map enc) = decide (l = m)
  | [], [] => by simp [PyData.eqvAll]
  | [], _ :: _ => by simp [PyData.eqvAll]
  | _ :: _, [] => by simp [PyData.eqvAll]
  | x :: s, y :: t => by
    have := eqv_all h s t
    simp [PyData.eqvAll, h x y] at *
    by_cases e : x = y <;> simp [e, this]
section
variable {α β : Type} [DecidableEq α] [DecidableEq β] {enc : α → D} {e2 : β → D} {k j : Nat}
theorem Good.tup (h : Good enc k) : Good (fun l : List α => PyData.tuple (l.map enc)) (k + 1) := ⟨fun a b => by simp only [PyData.eqv]; exact eqv_all h.eqv a b, fun a => by simp only [PyData.canLay0]; exact lay_all h.lay a, fun a => by
  have := dep_all h.dep a
  simp only [PyData.depth]; omega⟩
theorem Good.lst (h : Good enc k) : Good (fun l : List α => PyData.list (l.map enc)) (k + 1) := ⟨fun a b => by simp only [PyData.eqv]; exact eqv_all h.eqv a b, fun a => by simp only [PyData.canLay0]; exact lay_all h.lay a, fun a => by
  have := dep_all h.dep a
  simp only [PyData.depth]; omega⟩
theorem Good.two (h : Good enc k) (g : Good e2 k) : Good (fun p : α × β => PyData.tuple [enc p.1, e2 p.2]) (k + 1) := ⟨fun a b => by
    simp only [PyData.eqv, PyData.eqvAll, h.eqv, g.eqv]
    cases a; cases b
    simp, fun a => by simp [PyData.canLay0, PyData.canLayAll0, h.lay, g.lay], fun a => by
  have := h.dep a.1
  have := g.dep a.2
  simp only [PyData.depth, PyData.depthAll]; omega⟩
theorem Good.more (h : Good enc k) (hk : k ≤ j) : Good enc j := ⟨h.eqv, h.lay, fun a => Nat.le_trans (h.dep a) hk⟩
theorem Good.shaped (h : Good enc k) (hk : k ≤ 61) (a : α) : PySem.SeqAt.shaped (enc a) = true := by
  have := h.dep a
  simp only [PySem.SeqAt.shaped, h.lay, Bool.true_and, decide_eq_true_eq]
  omega
theorem Good.inD (h : Good enc k) (x : α) (L : List α) : inD (enc x) (L.map enc) = decide (x ∈ L) := by
  unfold Sw.inD
  rw [List.any_map]
  induction L with
  | nil => simp
  | cons y t ih =>
    have hc : (y = x) = (x = y) := propext ⟨Eq.symm, Eq.symm⟩
    rw [List.any_cons, ih]
    simp [Function.comp, h.eqv, hc]
theorem Good.inn (h : Good enc k) (hk : k ≤ 60) (x : α) (L : List α) : cop .inn (enc x) (.list (L.map enc)) = some (decide (x ∈ L)) := by
  have h2 := h.lst.shaped (Nat.succ_le_succ hk) L
  show (inF (enc x) (.list (L.map enc))).or (inP (enc x) (.list (L.map enc))) = _
  have e2 : inP (enc x) (.list (L.map enc)) = some (Sw.inD (enc x) (L.map enc)) := by
    show (if PySem.SeqAt.shaped (enc x) && PySem.SeqAt.shaped (.list (L.map enc)) then some (Sw.inD (enc x) (L.map enc)) else none) = _
    rw [h.shaped (Nat.le_succ_of_le hk), h2]; rfl
  have e1 : inF (enc x) (.list (L.map enc)) = none ∨ inF (enc x) (.list (L.map enc)) = some (Sw.inD (enc x) (L.map enc)) := by
    simp only [inF]
    split
    · exact .inr rfl
    · exact .inl rfl
  rw [← h.inD]
  rcases e1 with e | e <;> rw [e, e2] <;> rfl
theorem Good.innT (h : Good enc k) (hk : k ≤ 60) (x : α) (L : List α) : cop .inn (enc x) (.tuple (L.map enc)) = some (decide (x ∈ L)) := by
  have h2 := h.tup.shaped (Nat.succ_le_succ hk) L
  show (inF (enc x) (.tuple (L.map enc))).or (inP (enc x) (.tuple (L.map enc))) = _
  have e2 : inP (enc x) (.tuple (L.map enc)) = some (Sw.inD (enc x) (L.map enc)) := by
    show (if PySem.SeqAt.shaped (enc x) && PySem.SeqAt.shaped (.tuple (L.map enc)) then some (Sw.inD (enc x) (L.map enc)) else none) = _
    rw [h.shaped (Nat.le_succ_of_le hk), h2]; rfl
  have e1 : inF (enc x) (.tuple (L.map enc)) = none ∨ inF (enc x) (.tuple (L.map enc)) = some (Sw.inD (enc x) (L.map enc)) := by
    simp only [inF]
    split
    · exact .inr rfl
    · exact .inl rfl
  rw [← h.inD]
  rcases e1 with e | e <;> rw [e, e2] <;> rfl
theorem Good.nin (h : Good enc k) (hk : k ≤ 60) (x : α) (L : List α) : cop .nin (enc x) (.list (L.map enc)) = some (!decide (x ∈ L)) := by
  have := h.inn hk x L
  show ((inF (enc x) (.list (L.map enc))).or (inP (enc x) (.list (L.map enc)))).map (fun b => !b) = _
  rw [show (inF (enc x) (.list (L.map enc))).or (inP (enc x) (.list (L.map enc))) = some (decide (x ∈ L)) from this]
  rfl
theorem Good.ninT (h : Good enc k) (hk : k ≤ 60) (x : α) (L : List α) : cop .nin (enc x) (.tuple (L.map enc)) = some (!decide (x ∈ L)) := by
  have := h.innT hk x L
  show ((inF (enc x) (.tuple (L.map enc))).or (inP (enc x) (.tuple (L.map enc)))).map (fun b => !b) = _
  rw [show (inF (enc x) (.tuple (L.map enc))).or (inP (enc x) (.tuple (L.map enc))) = some (decide (x ∈ L)) from this]
  rfl
theorem Good.eq (h : Good enc k) (hk : k ≤ 60) (a b : α) : cop .eq (enc a) (enc b) = some (decide (a = b)) := by
  show (if PySem.SeqAt.shaped (enc a) && PySem.SeqAt.shaped (enc b) then some (PyData.eqv (enc a) (enc b)) else none) = _
  rw [h.shaped (Nat.le_succ_of_le hk), h.shaped (Nat.le_succ_of_le hk), h.eqv]; rfl
theorem Good.ne (h : Good enc k) (hk : k ≤ 60) (a b : α) : cop .ne (enc a) (enc b) = some (!decide (a = b)) := by
  show (if PySem.SeqAt.shaped (enc a) && PySem.SeqAt.shaped (enc b) then some (!PyData.eqv (enc a) (enc b)) else none) = _
  rw [h.shaped (Nat.le_succ_of_le hk), h.shaped (Nat.le_succ_of_le hk), h.eqv]; rfl
end
theorem tN_map (X : List Nat) : tN X = .tuple (X.map fun k : Nat => PyData.int (k : Int)) := by simp [tN, nI, ints_, Function.comp_def]
theorem good_tN : Good tN 2 := by
  have := good_nat.tup
  exact ⟨fun a b => by rw [tN_map, tN_map]; exact this.eqv a b, fun a => by rw [tN_map]; exact this.lay a, fun a => by rw [tN_map]; exact this.dep a⟩
end Sw

end
section
set_option maxRecDepth 100000
set_option maxHeartbeats 4000000
namespace Sw
open PySem (PyData Str)
theorem bit_one (m k : Nat) : PySem.Builtin.bitAnd ((m : Int) / 2 ^ k) 1 = if m.testBit k then 1 else 0 := by
  have e : ((m : Int) / 2 ^ k) = ((m / 2 ^ k : Nat) : Int) := by
    rw [Int.natCast_ediv, Int.natCast_pow]; rfl
  rw [e]
  show ((((m / 2 ^ k : Nat) : Int).toNat &&& (1 : Int).toNat : Nat) : Int) = _
  rw [Int.toNat_natCast, show (1 : Int).toNat = 1 from rfl, Nat.and_one_is_mod, Nat.testBit_eq_decide_div_mod_eq]
  rcases Nat.mod_two_eq_zero_or_one (m / 2 ^ k) with h | h <;> simp [h]
@[simp] theorem shr_nat {m k : Nat} : bop .shr (.int (m : Int)) (.int (k : Int)) = some (.pl (.int ((m : Int) / 2 ^ k))) := by
  show (if (0 : Int) ≤ (k : Int) then some (VT.pl (PyData.int ((m : Int) / 2 ^ (k : Int).toNat))) else none) = _
  rw [if_pos (Int.natCast_nonneg k), Int.toNat_natCast]
theorem shl_one {k : Nat} (h : k ≤ 1000000) : bop .shl (.int 1) (.int (k : Int)) = some (.pl (.int ((2 ^ k : Nat) : Int))) := by
  show (if (0 : Int) ≤ (k : Int) ∧ (k : Int) ≤ 1000000 ∧ (1 : Int).natAbs < 2 ^ 64 then _ else none) = _
  rw [if_pos ⟨Int.natCast_nonneg k, by omega, by decide⟩, Int.toNat_natCast]
  simp
theorem ix_int {xs : List Int} {k : Nat} (h : k < xs.length) : ixD (.tuple (ints_ xs)) (.int (k : Int)) = some (.int (xs.getD k 0)) := by
  show atI (xs.map PyData.int) (k : Int) = _
  exact atI_map (by simp [List.getD, List.getElem?_eq_getElem h])
theorem ixl_int {xs : List Int} {k : Nat} (h : k < xs.length) : ixD (.list (ints_ xs)) (.int (k : Int)) = some (.int (xs.getD k 0)) := by
  show atI (xs.map PyData.int) (k : Int) = _
  exact atI_map (by simp [List.getD, List.getElem?_eq_getElem h])
theorem enum_rng {α : Type} (xs : List α) (d : α) (enc : α → D) : enumFrom 0 (xs.map enc) = (List.range xs.length).map fun k : Nat => PyData.tuple [.int (k : Int), enc (xs.getD k d)] := by
  rw [enum_map]
  apply List.ext_getElem?
  intro i
  rw [List.getElem?_map, List.getElem?_map, List.getElem?_zipIdx]
  by_cases h : i < xs.length
  · rw [List.getElem?_eq_getElem h, List.getElem?_range h]
    simp [List.getD, List.getElem?_eq_getElem h]
  · rw [List.getElem?_eq_none (by omega), List.getElem?_eq_none (by simpa using h)]
    rfl
/-- the numbers from lo on -/
theorem intsFrom_rng : ∀ (n lo : Nat), intsFrom (lo : Int) n = (List.range' lo n).map fun k : Nat => PyData.int (k : Int)
  | 0, lo => rfl
  | n + 1, lo => by
    have := intsFrom_rng n (lo + 1)
    rw [intsFrom, List.range'_succ, List.map_cons, ← this]
    rfl
theorem nI_get {X : List Nat} {i : Nat} : (nI X).getD i 0 = ((X.getD i 0 : Nat) : Int) := by
  simp only [List.getD, nI, List.getElem?_map]
  cases X[i]? <;> rfl
theorem filtN_ (f : Nat → Bool) (X : List Nat) : X.filterMap (fun j => if f j then some (PyData.int (j : Int)) else none) = ints_ (nI (X.filter f)) := by
  induction X with
  | nil => rfl
  | cons x t ih =>
    cases c : f x with
    | true => rw [List.filterMap_cons, List.filter_cons, c]; simp only [if_true]; rw [ih]; rfl
    | false => rw [List.filterMap_cons, List.filter_cons, c]; simpa using ih
theorem nI_len (X : List Nat) : (nI X).length = X.length := by simp [nI]
end Sw

end
section
set_option maxRecDepth 100000
set_option maxHeartbeats 4000000
namespace Sw
open PySem (PyData Str)
section
variable {α : Type} {lt : α → α → Bool}
def stMin (lt : α → α → Bool) (o : Option α) (x : α) : Option α := match o with
  | none => some x
  | some a => if lt x a then some x else some a
def fmin (lt : α → α → Bool) (L : List α) : Option α := L.foldl (stMin lt) none
structure LtOk (lt : α → α → Bool) : Prop where
  irr : ∀ a, lt a a = false
  tr : ∀ a b c, lt a b = true → lt b c = true → lt a c = true
  tot : ∀ a b, lt a b = false → lt b a = false → a = b
theorem stMin_some (h : LtOk lt) : ∀ (L : List α) (a : α), ∃ m, L.foldl (stMin lt) (some a) = some m ∧ (m = a ∨ m ∈ L) ∧ lt a m = false ∧ ∀ x ∈ L, lt x m = false
  | [], a => ⟨a, rfl, .inl rfl, h.irr a, fun x hx => by cases hx⟩
  | x :: r, a => by
    cases e : lt x a with
    | true =>
      obtain ⟨m, h1, h2, h3, h4⟩ := stMin_some h r x
      refine ⟨m, ?_, ?_, ?_, fun y hy => ?_⟩
      · rw [List.foldl_cons]
        show r.foldl (stMin lt) (if lt x a then some x else some a) = _
        rw [e]
        exact h1
      · rcases h2 with h2 | h2
        · exact .inr (by rw [h2]; exact List.mem_cons_self)
        · exact .inr (List.mem_cons_of_mem _ h2)
      · cases q : lt a m with
        | false => rfl
        | true => rw [h.tr x a m e q] at h3; cases h3
      · rcases List.mem_cons.mp hy with rfl | hy
        · exact h3
        · exact h4 y hy
    | false =>
      obtain ⟨m, h1, h2, h3, h4⟩ := stMin_some h r a
      refine ⟨m, ?_, ?_, h3, fun y hy => ?_⟩
      · rw [List.foldl_cons]
        show r.foldl (stMin lt) (if lt x a then some x else some a) = _
        rw [e]
        exact h1
      · rcases h2 with h2 | h2
        · exact .inl h2
        · exact .inr (List.mem_cons_of_mem _ h2)
      · rcases List.mem_cons.mp hy with rfl | hy
        · cases q : lt y m with
          | false => rfl
          | true =>
            cases q2 : lt a y with
            | true => rw [h.tr a y m q2 q] at h3; cases h3
            | false =>
              have := h.tot y a e q2
              rw [this] at q
              rw [q] at h3; cases h3
        · exact h4 y hy
theorem fmin_nil : fmin lt ([] : List α) = none := rfl
theorem fmin_cons (x : α) (r : List α) : fmin lt (x :: r) = r.foldl (stMin lt) (some x) := rfl
theorem fmin_spec (h : LtOk lt) {L : List α} {m : α} (e : fmin lt L = some m) : m ∈ L ∧ ∀ x ∈ L, lt x m = false := by
  cases L with
  | nil => cases e
  | cons x r =>
    obtain ⟨m', h1, h2, h3, h4⟩ := stMin_some h r x
    rw [fmin_cons, h1] at e
    cases e
    refine ⟨?_, fun y hy => ?_⟩
    · rcases h2 with h2 | h2
      · rw [h2]; exact List.mem_cons_self
      · exact List.mem_cons_of_mem _ h2
    · rcases List.mem_cons.mp hy with rfl | hy
      · exact h3
      · exact h4 y hy
theorem fmin_some (h : LtOk lt) {L : List α} (e : L ≠ []) : ∃ m, fmin lt L = some m := by
  cases L with
  | nil => exact absurd rfl e
  | cons x r =>
    obtain ⟨m', h1, _⟩ := stMin_some h r x
    exact ⟨m', h1⟩
theorem fmin_is (h : LtOk lt) {L : List α} {m : α} (h1 : m ∈ L) (h2 : ∀ x ∈ L, lt x m = false) : fmin lt L = some m := by
  obtain ⟨m', e⟩ := fmin_some h (L := L) (fun z => by rw [z] at h1; cases h1)
  obtain ⟨k1, k2⟩ := fmin_spec h e
  rw [e, h.tot m' m (h2 m' k1) (k2 m h1)]
theorem fmin_eq (h : LtOk lt) {L K : List α} (e : ∀ x, x ∈ L ↔ x ∈ K) : fmin lt L = fmin lt K := by
  cases L with
  | nil =>
    cases K with
    | nil => rfl
    | cons y r => exact absurd ((e y).mpr List.mem_cons_self) (by simp)
  | cons x r =>
    obtain ⟨m, q⟩ := fmin_some h (L := x :: r) (by simp)
    obtain ⟨k1, k2⟩ := fmin_spec h q
    rw [q, fmin_is h ((e m).mp k1) fun y hy => k2 y ((e y).mpr hy)]
theorem fmin_one {L : List α} : L.foldl (stMin lt) none = fmin lt L := rfl
end
/-- the order of what is encoded -/
theorem ord_enc {α : Type} (enc : α → D) (inj : ∀ a b, enc a = enc b → a = b) (al : ∀ a b, PySem.W.alike (enc a) (enc b) = true) : LtOk fun a b => PySem.W.dataLt (enc a) (enc b) where
  irr := fun a => dlt_irr _
  tr := fun a b c => dlt_trans _ _ _
  tot := fun a b h1 h2 => inj a b (leD_anti (al a b) (by unfold leD; rw [h2]; rfl) (by unfold leD; rw [h1]; rfl))
/-- min of encoded things -/
theorem minD_map {α : Type} (enc : α → D) (x : α) : ∀ (r : List α), PySem.W.minD (enc x) (r.map enc) = enc ((r.foldl (fun a y => if PySem.W.dataLt (enc y) (enc a) then y else a) x)) := by
  intro r
  unfold PySem.W.minD
  induction r generalizing x with
  | nil => rfl
  | cons y r ih =>
    rw [List.map_cons, List.foldl_cons, List.foldl_cons]
    split
    · exact ih y
    · exact ih x
theorem fold_stMin {α : Type} (lt : α → α → Bool) : ∀ (r : List α) (x : α), r.foldl (stMin lt) (some x) = some (r.foldl (fun a y => if lt y a then y else a) x)
  | [], _ => rfl
  | y :: r, x => by
    rw [List.foldl_cons, List.foldl_cons]
    show r.foldl (stMin lt) (if lt y x then some y else some x) = _
    split
    · exact fold_stMin lt r y
    · exact fold_stMin lt r x
def encO {α : Type} (enc : α → D) : Option α → D
  | none => .none
  | some a => enc a
/-- min(.., default=None) of a list of encoded things -/
theorem mnd_map {α : Type} (enc : α → D) (L : List α) (hc : cmpL (L.map enc) = true) : mndV (.list (L.map enc)) = some (.pl (encO enc (fmin (fun a b => PySem.W.dataLt (enc a) (enc b)) L))) := by
  cases L with
  | nil => rfl
  | cons x r =>
    show (if cmpL (enc x :: r.map enc) then some (VT.pl (PySem.W.minD (enc x) (r.map enc))) else none) = _
    rw [List.map_cons] at hc
    rw [if_pos hc, minD_map, fmin_cons, fold_stMin]
    rfl
theorem cmpL_map {α : Type} (enc : α → D) (L : List α) (al : ∀ a b, PySem.W.alike (enc a) (enc b) = true) (hn : ∀ a, isNone (enc a) = false) (hd : ∀ a, (enc a).depth ≤ 50) : cmpL (L.map enc) = true := by
  unfold cmpL
  have h1 : (L.map enc).all (fun x => (L.map enc).all fun y => PySem.W.alike x y) = true := by
    refine List.all_eq_true.mpr fun x hx => List.all_eq_true.mpr fun y hy => ?_
    obtain ⟨a, _, rfl⟩ := List.mem_map.mp hx
    obtain ⟨b, _, rfl⟩ := List.mem_map.mp hy
    exact al a b
  have h2 : (L.map enc).all (fun x => !isNone x) = true := by
    refine List.all_eq_true.mpr fun x hx => ?_
    obtain ⟨a, _, rfl⟩ := List.mem_map.mp hx
    rw [hn]; rfl
  have h3 : PyData.depthAll (L.map enc) ≤ 50 := by
    clear h1 h2
    induction L with
    | nil => exact Nat.zero_le _
    | cons a r ih =>
      rw [List.map_cons, PyData.depthAll]
      exact Nat.max_le.mpr ⟨hd a, ih⟩
  rw [h1, h2, decide_eq_true h3]
  rfl
abbrev Ro := Int × List Nat
def roD (p : Ro) : D := .tuple [.int p.1, tN p.2]
theorem roD_def (p : Ro) : roD p = .tuple [.int p.1, tN p.2] := rfl
theorem nI_inj : ∀ {X Y : List Nat}, nI X = nI Y → X = Y
  | [], [], _ => rfl
  | [], _ :: _, h => by cases h
  | _ :: _, [], h => by cases h
  | x :: s, y :: t, h => by
    injection h with h1 h2
    have h1 : (x : Int) = (y : Int) := h1
    have : x = y := by omega
    rw [this, nI_inj h2]
theorem ints_inj : ∀ {X Y : List Int}, ints_ X = ints_ Y → X = Y
  | [], [], _ => rfl
  | [], _ :: _, h => by cases h
  | _ :: _, [], h => by cases h
  | x :: s, y :: t, h => by
    injection h with h1 h2
    injection h1 with h1
    rw [h1, ints_inj h2]
theorem tN_inj {X Y : List Nat} (h : tN X = tN Y) : X = Y := by
  injection h with h
  exact nI_inj (ints_inj h)
theorem roD_inj (a b : Ro) (h : roD a = roD b) : a = b := by
  obtain ⟨x, s⟩ := a
  obtain ⟨y, t⟩ := b
  injection h with h
  injection h with h1 h2
  injection h1 with h1
  injection h2 with h2
  rw [show x = y from h1, show s = t from tN_inj h2]
theorem roD_al (a b : Ro) : PySem.W.alike (roD a) (roD b) = true := by
  have := alikeAll_ints (nI a.2) (nI b.2)
  simp only [roD, tN, PySem.W.alike, PySem.W.alikeAll, Bool.and_true, Bool.true_and]
  exact this
theorem roD_dep (a : Ro) : (roD a).depth ≤ 4 := by
  have := depthI_ (nI a.2)
  simp only [roD, tN, PyData.depth, PyData.depthAll] at *
  omega
def ltR (a b : Ro) : Bool := PySem.W.dataLt (roD a) (roD b)
theorem ord_ro : LtOk ltR := ord_enc roD roD_inj roD_al
theorem mnd_ro (L : List Ro) : mndV (.list (L.map roD)) = some (.pl (encO roD (fmin ltR L))) := mnd_map roD L (cmpL_map roD L roD_al (fun a => rfl) fun a => Nat.le_trans (roD_dep a) (by omega))
theorem ltR_def (a b : Ro) : ltR a b = (decide (a.1 < b.1) || (decide (a.1 = b.1) && lexI (nI a.2) (nI b.2))) := by
  unfold ltR
  rw [roD_def, roD_def, dl_tup, dlA_int, dlA_tup]
theorem lt_ro (a b : Ro) : cop .lt (roD a) (roD b) = some (ltR a b) := by
  have h1 : lexD [.int a.1, tN a.2] [.int b.1, tN b.2] = none := rfl
  have h2 : ordE (roD a) (roD b) = true := by
    unfold ordE
    rw [roD_al, decide_eq_true (Nat.le_trans (roD_dep a) (by omega)), decide_eq_true (Nat.le_trans (roD_dep b) (by omega))]
    rfl
  show (lexD [.int a.1, tN a.2] [.int b.1, tN b.2]).or (ltE (roD a) (roD b)) = _
  rw [h1]
  show ltE _ _ = _
  unfold ltE
  rw [if_pos h2]
  rfl
end Sw

end
section
set_option maxRecDepth 100000
set_option maxHeartbeats 4000000
namespace Sw
open PySem (PyData Str)
theorem is_wholeN_e {v lo : Int} (h0 : lo ≤ v) ⦃m : Nat⦄ (hm : 1 ≤ m) : call G m 0 [.pl (.int v), .pl (.int lo), .pl .none] = .ok (.pl (.bool true)) [] := by
  obtain ⟨f, rfl⟩ : ∃ n, m = n + 1 := ⟨m - 1, by omega⟩
  rw [g_is_whole]
  have : ¬ v < lo := by omega
  simp [runDef, d_is_whole, this, isTy]
theorem need_wholeN_e {v lo : Int} {at_ : D} (h0 : lo ≤ v) ⦃m : Nat⦄ (hm : 2 ≤ m) : call G m 1 [.pl (.int v), .pl (.int lo), .pl .none, .pl at_] = .ok (.pl (.int v)) [] := by
  obtain ⟨f, rfl⟩ : ∃ n, m = n + 2 := ⟨m - 2, by omega⟩
  rw [g_need_whole]
  have := is_wholeN_e h0
  simp [runDef, d_need_whole, this]
theorem is_rowN_e {v : D} {l : List D} {lo : Int} (h : Sq v l) (h0 : lo ≤ l.length) ⦃m : Nat⦄ (hm : 1 ≤ m) : call G m 2 [.pl v, .pl (.int lo), .pl .none] = .ok (.pl (.bool true)) [] := by
  obtain ⟨f, rfl⟩ : ∃ n, m = n + 1 := ⟨m - 1, by omega⟩
  rw [g_is_row]
  have e := len_of h
  rcases h with rfl | rfl
  · have i : bfn (.isis [.list, .tuple]) [.list l] = some (.pl (.bool true)) := rfl
    simp [runDef, d_is_row, i, h0]
  · have i : bfn (.isis [.list, .tuple]) [.tuple l] = some (.pl (.bool true)) := rfl
    simp [runDef, d_is_row, i, h0]
theorem need_rowN_e {v : D} {l : List D} {lo : Int} {at_ : D} (h : Sq v l) (h0 : lo ≤ l.length) ⦃m : Nat⦄ (hm : 2 ≤ m) : call G m 3 [.pl v, .pl (.int lo), .pl .none, .pl at_] = .ok (.pl (.tuple l)) [] := by
  obtain ⟨f, rfl⟩ : ∃ n, m = n + 2 := ⟨m - 2, by omega⟩
  rw [g_need_row]
  have := is_rowN_e h h0
  have t := tup_of h
  simp [runDef, d_need_row, this, t]
theorem wholes_loop {v A B C E at_ : D} {xs : List Int} {f : Nat} (h : ∀ x ∈ xs, call G (f + 2) 1 [.pl (.int x), .pl C, .pl E, .pl at_] = .ok (.pl (.int x)) []) (e1 : call G (f + 2) 3 [.pl v, .pl A, .pl B, .pl at_] = .ok (.pl (.tuple (ints_ xs))) []) :
    call G (f + 3) 47 [.pl v, .pl A, .pl B, .pl C, .pl E, .pl at_] = .ok (.pl (.tuple (ints_ xs))) [] := by
  rw [g_need_wholes]
  have lp := for_F (turn := forTurn (.nm 7) (ex (call G (f + 2)) b_need_wholes_1)) PyData.int (fun s : Option Int => [.pl v, .pl A, .pl B, .pl C, .pl E, .pl at_, .pl (.tuple (ints_ xs)), sl (s.map PyData.int)]) (fun _ x => some x) (fun _ => True) xs none trivial fun s x hx' _ => by
    have e2 := h x hx'
    exact ⟨by simp [b_need_wholes_1, e2], trivial⟩
  have lp := lp.1
  rw [show sl (Option.map PyData.int none) = Slot.em from rfl] at lp
  have sq : seqD (.tuple (ints_ xs)) = some (ints_ xs) := rfl
  simp [runDef, d_need_wholes, e1, sq, lp]
theorem wholes_e {v : D} {xs : List Int} {lo hi a b : Int} {at_ : D} (h : Sq v (ints_ xs)) (h0 : a ≤ xs.length) (h1 : (xs.length : Int) ≤ b) (hx : ∀ x ∈ xs, lo ≤ x ∧ x ≤ hi) ⦃m : Nat⦄ (hm : 3 ≤ m) :
    call G m 47 [.pl v, .pl (.int a), .pl (.int b), .pl (.int lo), .pl (.int hi), .pl at_] = .ok (.pl (.tuple (ints_ xs))) [] := by
  obtain ⟨f, rfl⟩ : ∃ n, m = n + 3 := ⟨m - 3, by omega⟩
  exact wholes_loop (fun x hx' => need_whole_e (hx x hx').1 (hx x hx').2 (by omega)) (need_row_e h (by simpa using h0) (by simpa using h1) (by omega))
theorem wholesN_e {v : D} {xs : List Int} {lo a : Int} {at_ : D} (h : Sq v (ints_ xs)) (h0 : a ≤ xs.length) (hx : ∀ x ∈ xs, lo ≤ x) ⦃m : Nat⦄ (hm : 3 ≤ m) :
    call G m 47 [.pl v, .pl (.int a), .pl .none, .pl (.int lo), .pl .none, .pl at_] = .ok (.pl (.tuple (ints_ xs))) [] := by
  obtain ⟨f, rfl⟩ : ∃ n, m = n + 3 := ⟨m - 3, by omega⟩
  exact wholes_loop (fun x hx' => need_wholeN_e (hx x hx') (by omega)) (need_rowN_e h (by simpa using h0) (by omega))
theorem nub_self {α : Type} [DecidableEq α] : ∀ {l : List α}, l.Nodup → nub l = l
  | [], _ => rfl
  | x :: r, h => by
    have h := List.nodup_cons.mp h
    unfold nub
    rw [if_neg h.1, nub_self h.2]
theorem lset_ints {xs : List Int} (h : xs.length < 64) : lsetV (.tuple (ints_ xs)) = some (.pl (.int (nub xs).length)) := by
  show (if (ints_ xs).length < 64 then _ else none) = _
  rw [if_pos (by simpa using h), intsD_ints]
end Sw

end
section
set_option maxRecDepth 100000
set_option maxHeartbeats 4000000
namespace Sw
open PySem (PyData Str)
theorem mem_subs {X : List Nat} : ∀ xs : List Nat, X ∈ subs xs ↔ X.Sublist xs := by
  have key : ∀ (n : Nat) (xs : List Nat), xs.length = n → ∀ X, X ∈ subs xs ↔ X.Sublist xs := fun n => by
    induction n with
    | zero =>
      intro xs h X
      have : xs = [] := List.eq_nil_of_length_eq_zero h
      subst this
      simp [subs]
    | succ n ih =>
      intro xs h X
      rcases List.eq_nil_or_concat xs with rfl | ⟨ys, z, rfl⟩
      · simp at h
      · rw [List.concat_eq_append] at *
        have hl : ys.length = n := by simp at h; exact h
        have e : subs (ys ++ [z]) = stS (subs ys) z := by rw [subs, subs, List.foldl_append]; rfl
        rw [e, stS, List.mem_append, List.mem_map]
        constructor
        · rintro (q | ⟨Y, q, rfl⟩)
          · exact ((ih ys hl X).mp q).trans (List.sublist_append_left ys [z])
          · exact List.Sublist.append ((ih ys hl Y).mp q) (List.Sublist.refl _)
        · intro q
          rw [List.sublist_append_iff] at q
          obtain ⟨l1, l2, rfl, q1, q2⟩ := q
          cases l2 with
          | nil => rw [List.append_nil]; exact .inl ((ih ys hl l1).mpr q1)
          | cons a r =>
            have : a :: r = [z] := by
              have hl2 := q2.length_le
              simp at hl2
              subst hl2
              cases q2 with
              | cons _ h => cases h
              | cons_cons _ h => rfl
            rw [this]
            exact .inr ⟨l1, (ih ys hl l1).mpr q1, rfl⟩
  exact fun xs => key _ xs rfl X
/-- one longer -/
def pmS (n : Nat) (M : List (List Nat)) : List (List Nat) := M.flatMap fun o => ((List.range n).filter fun j => !decide (j ∈ o)).map fun j => o ++ [j]
def pmT (n : Nat) : Nat → List (List Nat)
  | 0 => [[]]
  | t + 1 => pmS n (pmT n t)
def perms (n : Nat) : List (List Nat) := pmT n n
theorem mem_pmT {n : Nat} : ∀ {t : Nat} {q : List Nat}, q ∈ pmT n t ↔ q.length = t ∧ q.Nodup ∧ ∀ x ∈ q, x < n
  | 0, q => by
    rw [pmT, List.mem_singleton]
    constructor
    · rintro rfl; exact ⟨rfl, List.nodup_nil, by simp⟩
    · intro h; exact List.eq_nil_of_length_eq_zero h.1
  | t + 1, q => by
    rw [pmT, pmS, List.mem_flatMap]
    constructor
    · rintro ⟨o, h1, h2⟩
      obtain ⟨j, h3, rfl⟩ := List.mem_map.mp h2
      rw [List.mem_filter] at h3
      obtain ⟨a, b, c⟩ := mem_pmT.mp h1
      have hj : j ∉ o := by simpa using h3.2
      refine ⟨by simp [a], ?_, fun x hx => ?_⟩
      · rw [List.nodup_append]
        refine ⟨b, by simp, fun x hx y hy => ?_⟩
        simp at hy
        subst hy
        intro e; subst e; exact hj hx
      · rcases List.mem_append.mp hx with hx | hx
        · exact c x hx
        · simp at hx; subst hx; exact List.mem_range.mp h3.1
    · rintro ⟨h1, h2, h3⟩
      rcases List.eq_nil_or_concat q with rfl | ⟨o, j, rfl⟩
      · simp at h1
      · rw [List.concat_eq_append] at *
        have nd := List.nodup_append.mp h2
        refine ⟨o, mem_pmT.mpr ⟨by simp at h1; exact h1, nd.1, fun x hx => h3 x (List.mem_append_left _ hx)⟩, List.mem_map.mpr ⟨j, List.mem_filter.mpr ⟨List.mem_range.mpr (h3 j (by simp)), ?_⟩, rfl⟩⟩
        have : j ∉ o := fun z => nd.2.2 j z j (by simp) rfl
        simpa using this
theorem mem_perms {n : Nat} {q : List Nat} : q ∈ perms n ↔ q.length = n ∧ q.Nodup ∧ ∀ x ∈ q, x < n := mem_pmT
theorem pmS_len (n : Nat) (M : List (List Nat)) : (pmS n M).length ≤ M.length * n := by
  unfold pmS
  induction M with
  | nil => simp
  | cons o r ih =>
    rw [List.flatMap_cons, List.length_append, List.length_map, List.length_cons, Nat.succ_mul]
    have h := List.length_filter_le (fun j => !decide (j ∈ o)) (List.range n)
    rw [List.length_range] at h
    omega
theorem pmT_len (n : Nat) : ∀ t, (pmT n t).length ≤ n ^ t
  | 0 => by simp [pmT]
  | t + 1 => by
    rw [pmT, Nat.pow_succ]
    exact Nat.le_trans (pmS_len n _) (Nat.mul_le_mul_right _ (pmT_len n t))
theorem nin_tN (j : Nat) (o : List Nat) : cop .nin (.int (j : Int)) (tN o) = some (!decide (j ∈ o)) := by
  have := good_nat.ninT (by omega) j o
  rw [← tN_map] at this
  exact this
theorem pm_comp {cl : Nat → List Ar → Ret} {n : Nat} {o : List Nat} (hn : n ≤ 8) (ho : o.length ≤ 8) {a1 a2 a3 : Slot} :
    lcAll [5] (lcTurn (.nm 5) (ev cl c_law_perms_1).t (ev cl e_law_perms_1).v) (intsFrom 0 n) [.pl (.int (n : Int)), a1, a2, a3, .pl (tN o), .em] =
      .ok (.fr ((((List.range n).filter fun j => !decide (j ∈ o)).map fun j => o ++ [j]).map tN)) [.pl (.int (n : Int)), a1, a2, a3, .pl (tN o), .em] := by
  rw [intsFrom0]
  have lc := lc_P (turn := lcTurn (.nm 5) (ev cl c_law_perms_1).t (ev cl e_law_perms_1).v) (own := [5]) (ρ0 := [.pl (.int (n : Int)), a1, a2, a3, .pl (tN o), .em]) (ρw := [.pl (.int (n : Int)), a1, a2, a3, .pl (tN o), .em]) (fun j : Nat => PyData.int (j : Int)) (fun j => if !decide (j ∈ o) then some (tN (o ++ [j])) else none) (List.range n) (by simp) (by simp [SZ]; omega) fun j hj => by
    have e := nin_tN j o
    have e2 : tN (o ++ [j]) = .tuple (ints_ (nI o) ++ [.int (j : Int)]) := by simp [nI]
    have hz : (ints_ (nI o)).length + 1 ≤ SZ := by simp [SZ]; omega
    rw [e2]
    rw [show tN o = .tuple (ints_ (nI o)) from rfl] at *
    generalize ints_ (nI o) = A at *
    by_cases c : j ∈ o
    · exact ⟨_, by simp [c_law_perms_1, e_law_perms_1, e, c]; rfl, by simp⟩
    · exact ⟨_, by simp [c_law_perms_1, e_law_perms_1, e, c, hz]; rfl, by simp⟩
  have key : ∀ l : List Nat, (l.filterMap fun j => if !decide (j ∈ o) then some (tN (o ++ [j])) else none) = ((l.filter fun j => !decide (j ∈ o)).map fun j => o ++ [j]).map tN := fun l => by
    induction l with
    | nil => rfl
    | cons x r ih =>
      rw [List.filterMap_cons, List.filter_cons, ih]
      by_cases c : x ∈ o
      · simp [c]
      · simp [c]
  rw [key] at lc
  exact lc
theorem law_perms_e {n : Nat} (hn : n ≤ 6) ⦃m : Nat⦄ (hm : 1 ≤ m) : call G m 163 [.pl (.int (n : Int))] = .ok (.pl (.list ((perms n).map tN))) [] := by
  obtain ⟨f, rfl⟩ : ∃ n, m = n + 1 := ⟨m - 1, by omega⟩
  rw [g_law_perms]
  generalize call G f = cl
  have r := fun ρ => rng_n (ρ := ρ) (n := n) (by omega)
  have big : ∀ t, t ≤ n → (pmT n t).length ≤ 46656 := fun t ht => by
    refine Nat.le_trans (pmT_len n t) ?_
    have h1 : n ^ t ≤ 6 ^ t := Nat.pow_le_pow_left hn t
    have h2 : 6 ^ t ≤ 6 ^ 6 := Nat.pow_le_pow_right (by omega) (by omega)
    exact Nat.le_trans h1 (Nat.le_trans h2 (by decide))
  -- one row longer
  have inner : ∀ (M L : List (List Nat)) (a1 : D) (o2 o4 : Option D), (∀ o ∈ M, o.length ≤ 8) → L.length + M.length * n ≤ 1000000 → ∃ o4', forLoop (forTurn (.nm 4) (ex cl b_law_perms_2)) (M.map tN) [.pl (.int (n : Int)), .pl a1, sl o2, .pl (.list (L.map tN)), sl o4, .em] =
      .nx [.pl (.int (n : Int)), .pl a1, sl o2, .pl (.list ((L ++ pmS n M).map tN)), sl o4', .em] := fun M => by
    induction M with
    | nil => intro L a1 o2 o4 _ _; exact ⟨o4, by simp [pmS, forLoop]⟩
    | cons o M ih =>
      intro L a1 o2 o4 h1 h2
      rw [List.length_cons, Nat.succ_mul] at h2
      have hc : (((List.range n).filter fun j => !decide (j ∈ o)).map fun j => o ++ [j]).length ≤ n := by
        rw [List.length_map]
        have h := List.length_filter_le (fun j => !decide (j ∈ o)) (List.range n)
        rw [List.length_range] at h
        exact h
      have lc := pm_comp (cl := cl) (n := n) (o := o) (by omega) (h1 o List.mem_cons_self) (a1 := .pl a1) (a2 := sl o2) (a3 := .pl (.list (L.map tN)))
      obtain ⟨o4', q⟩ := ih (L ++ (((List.range n).filter fun j => !decide (j ∈ o)).map fun j => o ++ [j])) a1 o2 (some (tN o)) (fun x hx => h1 x (List.mem_cons_of_mem _ hx)) (by rw [List.length_append]; omega)
      refine ⟨o4', ?_⟩
      have e : pmS n (o :: M) = (((List.range n).filter fun j => !decide (j ∈ o)).map fun j => o ++ [j]) ++ pmS n M := by rw [pmS, List.flatMap_cons]; rfl
      rw [e, ← List.append_assoc]
      rw [← q, List.map_cons, forLoop]
      generalize (((List.range n).filter fun j => !decide (j ∈ o)).map fun j => o ++ [j]) = C at hc lc
      have hz : (L.map tN).length + (C.map tN).length ≤ SZ := by simp [SZ]; omega
      have t1 : forTurn (.nm 4) (ex cl b_law_perms_2) (tN o) [.pl (.int (n : Int)), .pl a1, sl o2, .pl (.list (L.map tN)), sl o4, .em] = .nx [.pl (.int (n : Int)), .pl a1, sl o2, .pl (.list ((L ++ C).map tN)), sl (some (tN o)), .em] := by
        rw [List.map_append]
        generalize L.map tN = A at *
        generalize C.map tN = B at *
        generalize tN o = O at *
        simp [b_law_perms_2, r, lc, hz]
      rw [t1]
  have outer : ∀ (k t : Nat) (o2 o3 o4 : Option D), t + k = n → ∃ o2' o3' o4', forLoop (forTurn (.nm 2) (ex cl b_law_perms_1)) (intsFrom (t : Int) k) [.pl (.int (n : Int)), .pl (.list ((pmT n t).map tN)), sl o2, sl o3, sl o4, .em] =
      .nx [.pl (.int (n : Int)), .pl (.list ((pmT n n).map tN)), sl o2', sl o3', sl o4', .em] := fun k => by
    induction k with
    | zero => intro t o2 o3 o4 h; exact ⟨o2, o3, o4, by rw [show t = n by omega]; rfl⟩
    | succ k ih =>
      intro t o2 o3 o4 h
      have hb := big t (by omega)
      obtain ⟨o4a, q⟩ := inner (pmT n t) [] (.list ((pmT n t).map tN)) (some (.int (t : Int))) o4 (fun o ho => by have := (mem_pmT.mp ho).1; omega) (by
        have : (pmT n t).length * n ≤ 46656 * 6 := Nat.mul_le_mul hb hn
        simp; omega)
      obtain ⟨o2', o3', o4', p⟩ := ih (t + 1) (some (.int (t : Int))) (some (.list ((pmT n (t + 1)).map tN))) o4a (by omega)
      refine ⟨o2', o3', o4', ?_⟩
      rw [← p, intsFrom, forLoop]
      rw [List.nil_append] at q
      have sq : seqD (.list ((pmT n t).map tN)) = some ((pmT n t).map tN) := rfl
      have t1 : forTurn (.nm 2) (ex cl b_law_perms_1) (.int (t : Int)) [.pl (.int (n : Int)), .pl (.list ((pmT n t).map tN)), sl o2, sl o3, sl o4, .em] = .nx [.pl (.int (n : Int)), .pl (.list ((pmT n (t + 1)).map tN)), sl (some (.int (t : Int))), sl (some (.list ((pmT n (t + 1)).map tN))), sl o4a, .em] := by
        rw [show pmT n (t + 1) = pmS n (pmT n t) from rfl]
        rw [show ([] : List (List Nat)).map tN = [] from rfl] at q
        generalize (pmS n (pmT n t)).map tN = B at *
        generalize (pmT n t).map tN = A at *
        simp only [sl_some] at q
        simp [b_law_perms_1, q]
      rw [t1]
      rfl
  obtain ⟨o2', o3', o4', q⟩ := outer n 0 none none none (by omega)
  simp only [sl_none, Int.natCast_zero] at q
  rw [show (pmT n 0).map tN = [PyData.tuple []] from rfl] at q
  unfold perms
  generalize (pmT n n).map tN = B at *
  simp [runDef, d_law_perms, r, q]
theorem law_setsG_e {xs : List Nat} (hn : xs.length ≤ 10) ⦃m : Nat⦄ (hm : 1 ≤ m) : call G m 63 [.pl (.list (ints_ (nI xs)))] = .ok (.pl (.list ((subs xs).map lN))) [] := by
  obtain ⟨f, rfl⟩ : ∃ k, m = k + 1 := ⟨m - 1, by omega⟩
  rw [g_law_sets]
  have hp : 2 ^ xs.length ≤ 2 ^ 10 := Nat.pow_le_pow_right (by omega) hn
  obtain ⟨o, lp⟩ := sets_loop (v := .list (ints_ (nI xs))) (n := f) xs [[]] none (by simp at *; omega) (by simp; omega)
  rw [show xs.foldl stS [[]] = subs xs from rfl, sl_none] at lp
  have sq : seqD (.list (ints_ (nI xs))) = some (ints_ (nI xs)) := rfl
  rw [show [([] : List Nat)].map lN = [.list []] from rfl] at lp
  generalize nI xs = P at lp sq
  simp [runDef, d_law_sets, sq, lp]
end Sw

end
section
set_option maxRecDepth 100000
set_option maxHeartbeats 4000000
namespace Sw
open PySem (PyData Str)
abbrev C3 := Int × Int × Int
def wy (W : List (List Int)) (a b : Nat) : Int := (W.getD a []).getD b 0
def cl3 (C : List C3) (h : Nat) : C3 := C.getD h (0, 0, 0)
def mx (a b : Int) : Int := if a < b then b else a
def lvF (W : List (List Int)) (C : List C3) (h : Nat) (m : Int) (x : Nat) : Option Int :=
  if (cl3 C x).2.1 < mx (cl3 C x).1 (m + wy W h x) then none else some (mx (cl3 C x).1 (m + wy W h x) + (cl3 C x).2.2)
def rnS (W : List (List Int)) (C : List C3) (s : Option (Nat × Int)) (x : Nat) : Option (Nat × Int) := s.bind fun p => (lvF W C p.1 p.2 x).map fun g => (x, g)
def rnF (W : List (List Int)) (C : List C3) (o : List Nat) : Option (Nat × Int) := o.foldl (rnS W C) (some (0, (cl3 C 0).1))
def bkF (W : List (List Int)) (C : List C3) (h : Nat) (m : Int) : Option Int := if (cl3 C 0).2.1 < m + wy W h 0 then none else some (m + wy W h 0)
def baF (W : List (List Int)) (C : List C3) (o : List Nat) : Option Int := (rnF W C o).bind fun p => bkF W C p.1 p.2
structure OrdOk (n : Nat) (o : List Nat) : Prop where
  nd : o.Nodup
  rg : ∀ x ∈ o, 1 ≤ x ∧ x < n
structure Rnd (W : List (List Int)) (C : List C3) (n : Nat) (p : Ro) : Prop where
  ok : OrdOk n p.2
  ba : baF W C p.2 = some p.1
/-- an order begun, where it stands -/
abbrev Wt := List Nat × Nat × Int
structure WtOk (W : List (List Int)) (C : List C3) (n : Nat) (w : Wt) : Prop where
  ok : OrdOk n w.1
  at_ : rnF W C w.1 = some (w.2.1, w.2.2)
def kid (W : List (List Int)) (C : List C3) (w : Wt) (x : Nat) : Option Wt := if x ∈ w.1 then none else (lvF W C w.2.1 w.2.2 x).map fun g => (w.1 ++ [x], x, g)
def kids (W : List (List Int)) (C : List C3) (n : Nat) (w : Wt) : List Wt := (List.range' 1 (n - 1)).filterMap (kid W C w)
def bks (W : List (List Int)) (C : List C3) (w : Wt) : List Ro := match bkF W C w.2.1 w.2.2 with
  | some b => [(b, w.1)]
  | none => []
theorem rnS_none (W : List (List Int)) (C : List C3) : ∀ t : List Nat, t.foldl (rnS W C) none = none
  | [] => rfl
  | _ :: t => rnS_none W C t
theorem sub_len7 {α : Type} [DecidableEq α] : ∀ {l k : List α}, l.Nodup → (∀ x ∈ l, x ∈ k) → l.length ≤ k.length
  | [], _, _, _ => Nat.zero_le _
  | x :: r, k, h, s => by
    have h := List.nodup_cons.mp h
    have hx : x ∈ k := s x List.mem_cons_self
    have := sub_len7 (l := r) (k := k.erase x) h.2 fun y hy => (List.mem_erase_of_ne fun e => h.1 (by rw [← e]; exact hy)).mpr (s y (List.mem_cons_of_mem _ hy))
    rw [List.length_erase_of_mem hx] at this
    have := List.length_pos_of_mem hx
    rw [List.length_cons]
    omega
theorem rnF_app (W : List (List Int)) (C : List C3) (o : List Nat) (x : Nat) : rnF W C (o ++ [x]) = rnS W C (rnF W C o) x := by rw [rnF, List.foldl_append]; rfl
theorem kid_ok {W : List (List Int)} {C : List C3} {n : Nat} {w v : Wt} {x : Nat} (h : WtOk W C n w) (hx : 1 ≤ x ∧ x < n) (e : kid W C w x = some v) : WtOk W C n v ∧ v.1 = w.1 ++ [x] := by
  unfold kid at e
  split at e
  · cases e
  · rename_i nx
    cases q : lvF W C w.2.1 w.2.2 x with
    | none => rw [q] at e; cases e
    | some g =>
      rw [q] at e
      cases e
      refine ⟨⟨⟨?_, fun y hy => ?_⟩, ?_⟩, rfl⟩
      · rw [List.nodup_append]
        refine ⟨h.ok.nd, by simp, fun a ha b hb => ?_⟩
        simp at hb
        subst hb
        intro z; subst z; exact nx ha
      · rcases List.mem_append.mp hy with hy | hy
        · exact h.ok.rg y hy
        · simp at hy; subst hy; exact hx
      · rw [rnF_app, h.at_]
        show ((lvF W C w.2.1 w.2.2 x).map fun g => (x, g)) = _
        rw [q]
        rfl
theorem mem_kids {W : List (List Int)} {C : List C3} {n : Nat} {w v : Wt} : v ∈ kids W C n w ↔ ∃ x, 1 ≤ x ∧ x < n ∧ kid W C w x = some v := by
  unfold kids
  rw [List.mem_filterMap]
  constructor
  · rintro ⟨x, hx, e⟩
    rw [List.mem_range'_1] at hx
    exact ⟨x, hx.1, by omega, e⟩
  · rintro ⟨x, h1, h2, e⟩
    exact ⟨x, List.mem_range'_1.mpr ⟨h1, by omega⟩, e⟩
/-- a round with a beginning is that beginning, or goes on with a kid's -/
theorem rnd_on {W : List (List Int)} {C : List C3} {n : Nat} {w : Wt} {p : Ro} (hw : WtOk W C n w) (hp : Rnd W C n p) (hx : w.1 <+: p.2) : p ∈ bks W C w ∨ ∃ v ∈ kids W C n w, v.1 <+: p.2 := by
  obtain ⟨t, ht⟩ := hx
  cases t with
  | nil =>
    rw [List.append_nil] at ht
    left
    have e := hp.ba
    rw [← ht] at e
    unfold baF at e
    rw [hw.at_] at e
    have e : bkF W C w.2.1 w.2.2 = some p.1 := e
    unfold bks
    rw [e]
    rw [List.mem_singleton, ht]
  | cons x t =>
    right
    have hr : rnF W C p.2 ≠ none := by
      intro z
      have e := hp.ba
      unfold baF at e
      rw [z] at e
      cases e
    have hs : rnF W C (w.1 ++ [x]) ≠ none := by
      intro z
      apply hr
      rw [← ht, show w.1 ++ x :: t = (w.1 ++ [x]) ++ t by simp, rnF, List.foldl_append]
      have z2 : (w.1 ++ [x]).foldl (rnS W C) (some (0, (cl3 C 0).1)) = none := z
      rw [z2, rnS_none]
    rw [rnF_app, hw.at_] at hs
    have hs : ((lvF W C w.2.1 w.2.2 x).map fun g => (x, g)) ≠ none := hs
    cases q : lvF W C w.2.1 w.2.2 x with
    | none => rw [q] at hs; exact absurd rfl hs
    | some g =>
      have hxn : x ∉ w.1 := by
        have nd := hp.ok.nd
        rw [← ht, List.nodup_append] at nd
        intro z
        exact nd.2.2 x z x (by simp) rfl
      have hk : kid W C w x = some (w.1 ++ [x], x, g) := by unfold kid; rw [if_neg hxn, q]; rfl
      have rg := hp.ok.rg x (by rw [← ht]; simp)
      refine ⟨_, mem_kids.mpr ⟨x, rg.1, rg.2, hk⟩, ⟨t, ?_⟩⟩
      rw [← ht]
      simp
theorem bks_ok {W : List (List Int)} {C : List C3} {n : Nat} {w : Wt} {p : Ro} (hw : WtOk W C n w) (h : p ∈ bks W C w) : Rnd W C n p := by
  unfold bks at h
  split at h
  · rename_i b e
    rw [List.mem_singleton] at h
    subst h
    refine ⟨hw.ok, ?_⟩
    show baF W C w.1 = some b
    unfold baF
    rw [hw.at_]
    exact e
  · cases h
/-- how many turns at most -/
def trn : Nat → Nat
  | 0 => 1
  | k + 1 => 1 + (k + 1) * trn k
theorem trn_pos : ∀ k, 1 ≤ trn k
  | 0 => Nat.le_refl _
  | k + 1 => Nat.le_add_right _ _
def trns (n : Nat) (ws : List Wt) : Nat := (ws.map fun w => trn (n - 1 - w.1.length)).sum
theorem trns_app (n : Nat) (a b : List Wt) : trns n (a ++ b) = trns n a + trns n b := by simp [trns]
theorem trns_len (n : Nat) (a : List Wt) : a.length ≤ trns n a := by
  induction a with
  | nil => exact Nat.le_refl _
  | cons w r ih =>
    have := trn_pos (n - 1 - w.1.length)
    unfold trns at *
    rw [List.map_cons, List.sum_cons, List.length_cons]
    omega
theorem filt_compl (p : Nat → Bool) : ∀ l : List Nat, (l.filter p).length + (l.filter fun x => !p x).length = l.length
  | [] => rfl
  | x :: r => by
    have := filt_compl p r
    rw [List.filter_cons, List.filter_cons]
    cases p x <;> simp <;> omega
theorem kids_trns {W : List (List Int)} {C : List C3} {n : Nat} {w : Wt} (hw : OrdOk n w.1) : trns n (kids W C n w) + 1 ≤ trn (n - 1 - w.1.length) := by
  -- the kids are few
  have few : ((List.range' 1 (n - 1)).filter fun x => !decide (x ∈ w.1)).length + w.1.length ≤ n - 1 := by
    have h1 := filt_compl (fun x => decide (x ∈ w.1)) (List.range' 1 (n - 1))
    rw [List.length_range'] at h1
    have h2 : w.1.length ≤ ((List.range' 1 (n - 1)).filter fun x => decide (x ∈ w.1)).length := sub_len7 hw.nd fun x hx => by
      have := hw.rg x hx
      exact List.mem_filter.mpr ⟨List.mem_range'_1.mpr ⟨this.1, by omega⟩, by simpa using hx⟩
    omega
  have each : ∀ l : List Nat, trns n (l.filterMap (kid W C w)) ≤ (l.filter fun x => !decide (x ∈ w.1)).length * trn (n - 1 - (w.1.length + 1)) := fun l => by
    induction l with
    | nil => simp [trns]
    | cons x r ih =>
      rw [List.filterMap_cons, List.filter_cons]
      by_cases c : x ∈ w.1
      · have e : kid W C w x = none := by unfold kid; rw [if_pos c]
        rw [e]
        simpa [c] using ih
      · cases q : kid W C w x with
        | none =>
          simp only [c, decide_false, Bool.not_false, if_true, List.length_cons, Nat.succ_mul]
          omega
        | some v =>
          have hv : v.1 = w.1 ++ [x] := by
            unfold kid at q
            rw [if_neg c] at q
            cases q2 : lvF W C w.2.1 w.2.2 x with
            | none => rw [q2] at q; cases q
            | some g => rw [q2] at q; cases q; rfl
          have hl : v.1.length = w.1.length + 1 := by rw [hv]; simp
          simp only [c, decide_false, Bool.not_false, if_true, List.length_cons, Nat.succ_mul]
          have : trns n (v :: r.filterMap (kid W C w)) = trn (n - 1 - v.1.length) + trns n (r.filterMap (kid W C w)) := by simp [trns]
          rw [this, hl]
          omega
  have e := each (List.range' 1 (n - 1))
  show trns n ((List.range' 1 (n - 1)).filterMap (kid W C w)) + 1 ≤ _
  by_cases c : w.1.length = n - 1
  · have z : ((List.range' 1 (n - 1)).filter fun x => !decide (x ∈ w.1)).length = 0 := by omega
    rw [z, Nat.zero_mul] at e
    have := trn_pos (n - 1 - w.1.length)
    omega
  · obtain ⟨k, hk⟩ : ∃ k, n - 1 - w.1.length = k + 1 := ⟨n - 1 - w.1.length - 1, by omega⟩
    rw [hk, trn]
    have h2 : n - 1 - (w.1.length + 1) = k := by omega
    rw [h2] at e
    have h3 : ((List.range' 1 (n - 1)).filter fun x => !decide (x ∈ w.1)).length ≤ k + 1 := by omega
    have := Nat.mul_le_mul_right (trn k) h3
    omega
end Sw

end
section
set_option maxRecDepth 100000
set_option maxHeartbeats 4000000
namespace Sw
open PySem (PyData Str)
def c3D (c : C3) : D := .tuple [.int c.1, .int c.2.1, .int c.2.2]
theorem c3D_def (c : C3) : c3D c = .tuple [.int c.1, .int c.2.1, .int c.2.2] := rfl
def clD (C : List C3) : D := .tuple (C.map c3D)
def wtD (w : Wt) : D := .tuple [tN w.1, .int (w.2.1 : Nat), .int w.2.2]
theorem wtD_def (w : Wt) : wtD w = .tuple [tN w.1, .int (w.2.1 : Nat), .int w.2.2] := rfl
theorem tup_at {α : Type} (enc : α → D) (d : α) {xs : List α} {k : Nat} (h : k < xs.length) : ixD (.tuple (xs.map enc)) (.int (k : Int)) = some (enc (xs.getD k d)) := by
  show atI (xs.map enc) (k : Int) = _
  refine atI_map ?_
  rw [List.getD_eq_getElem?_getD, List.getElem?_eq_getElem h]
  rfl
theorem row_at {W : List (List Int)} {h : Nat} (hh : h < W.length) : ixD (rowsD W) (.int (h : Int)) = some (.tuple (ints_ (W.getD h []))) := tup_at (fun r => PyData.tuple (ints_ r)) [] hh
theorem cl_at {C : List C3} {h : Nat} (hh : h < C.length) : ixD (clD C) (.int (h : Int)) = some (c3D (cl3 C h)) := tup_at c3D (0, 0, 0) hh
theorem cl_at0 {C : List C3} (hh : 0 < C.length) : ixD (clD C) (.int 0) = some (c3D (cl3 C 0)) := by have := cl_at hh; simpa using this
theorem wy_at {W : List (List Int)} {h x : Nat} (hx : x < (W.getD h []).length) : ixD (.tuple (ints_ (W.getD h []))) (.int (x : Int)) = some (.int (wy W h x)) := ix_int hx
/-- ways of n houses -/
structure WaysOk (n : Nat) (W : List (List Int)) : Prop where
  len : W.length = n
  row : ∀ r ∈ W, r.length = n
theorem WaysOk.at_ {n : Nat} {W : List (List Int)} (h : WaysOk n W) {k : Nat} (hk : k < n) : (W.getD k []).length = n := by
  rw [List.getD_eq_getElem?_getD, List.getElem?_eq_getElem (by rw [h.len]; exact hk)]
  exact h.row _ (List.getElem_mem _)
theorem bmax_ab {i j : Int} : bfn .max [.int i, .int j] = some (.pl (.int (mx i j))) := by rw [bmax_s]; rfl
theorem leaves_e {n : Nat} {W : List (List Int)} {C : List C3} (hW : WaysOk n W) (hC : C.length = n) {h x : Nat} (hh : h < n) (hx : x < n) {m : Int} ⦃k : Nat⦄ (hk : 1 ≤ k) :
    call G k 154 [.pl (rowsD W), .pl (clD C), .pl (.int (h : Int)), .pl (.int m), .pl (.int (x : Int))] = .ok (.pl (oI (lvF W C h m x))) [] := by
  obtain ⟨f, rfl⟩ : ∃ n, k = n + 1 := ⟨k - 1, by omega⟩
  rw [g_leaves]
  have a1 := row_at (W := W) (h := h) (by rw [hW.len]; exact hh)
  have a2 := wy_at (W := W) (h := h) (x := x) (by rw [hW.at_ hh]; exact hx)
  have a3 := cl_at (C := C) (h := x) (by omega)
  rw [c3D_def] at a3
  unfold lvF
  have b := bmax_ab (i := (cl3 C x).1) (j := m + wy W h x)
  generalize mx (cl3 C x).1 (m + wy W h x) = z at b
  generalize wy W h x = w at a2 b
  generalize cl3 C x = c at *
  generalize rowsD W = A at *
  generalize clD C = B at *
  generalize PyData.tuple (ints_ (W.getD h [])) = R at *
  by_cases q : c.2.1 < z
  · rw [if_pos q]
    simp [runDef, d_leaves, a1, a2, a3, b, q, -bmax_s]
  · rw [if_neg q]
    simp [runDef, d_leaves, a1, a2, a3, b, q, -bmax_s]
theorem back_at_e {n : Nat} {W : List (List Int)} {C : List C3} (hW : WaysOk n W) (hC : C.length = n) {h : Nat} (hh : h < n) {m : Int} ⦃k : Nat⦄ (hk : 1 ≤ k) :
    call G k 155 [.pl (rowsD W), .pl (clD C), .pl (.int (h : Int)), .pl (.int m)] = .ok (.pl (oI (bkF W C h m))) [] := by
  obtain ⟨f, rfl⟩ : ∃ n, k = n + 1 := ⟨k - 1, by omega⟩
  rw [g_back_at]
  have a1 := row_at (W := W) (h := h) (by rw [hW.len]; exact hh)
  have a2 := wy_at (W := W) (h := h) (x := 0) (by rw [hW.at_ hh]; omega)
  have a3 := cl_at0 (C := C) (by omega)
  rw [c3D_def] at a3
  unfold bkF
  simp only [Int.natCast_zero] at a2
  generalize wy W h 0 = w at a2
  generalize cl3 C 0 = c at *
  generalize rowsD W = A at *
  generalize clD C = B at *
  generalize PyData.tuple (ints_ (W.getD h [])) = R at *
  by_cases q : c.2.1 < m + w
  · rw [if_pos q]
    simp [runDef, d_back_at, a1, a2, a3, q]
  · rw [if_neg q]
    simp [runDef, d_back_at, a1, a2, a3, q]
/-- the houses still to be called at -/
theorem rit_kids {cl : Nat → List Ar → Ret} {W : List (List Int)} {C : List C3} {n : Nat} {w : Wt} (L : ∀ x, x < n → cl 154 [.pl (rowsD W), .pl (clD C), .pl (.int (w.2.1 : Int)), .pl (.int w.2.2), .pl (.int (x : Int))] = .ok (.pl (oI (lvF W C w.2.1 w.2.2 x))) []) (hw : w.1.length ≤ 100) {F : List D} {b : Slot} :
    ∀ (k lo : Nat) (K : List Wt) (o5 o9 : Option D), lo + k ≤ n → K.length + k ≤ 1000000 → ∃ o5' o9', forLoop (forTurn (.nm 5) (ex cl b_rounds_in_time_2)) (intsFrom (lo : Int) k) [.pl (rowsD W), .pl (clD C), .ow F, .ow (K.map wtD), b, sl o5, .pl (tN w.1), .pl (.int (w.2.1 : Int)), .pl (.int w.2.2), sl o9] =
      .nx [.pl (rowsD W), .pl (clD C), .ow F, .ow ((K ++ (List.range' lo k).filterMap (kid W C w)).map wtD), b, sl o5', .pl (tN w.1), .pl (.int (w.2.1 : Int)), .pl (.int w.2.2), sl o9']
  | 0, lo, K, o5, o9, _, _ => ⟨o5, o9, by simp [forLoop, intsFrom]⟩
  | k + 1, lo, K, o5, o9, h1, h2 => by
    have e := nin_tN lo w.1
    have l := L lo (by omega)
    have rec_ := fun K' o5 o9 h => rit_kids L hw (F := F) (b := b) k (lo + 1) K' o5 o9 (by omega) h
    rw [intsFrom, forLoop, List.range'_succ, List.filterMap_cons]
    rw [show ((lo + 1 : Nat) : Int) = (lo : Int) + 1 by omega] at rec_
    by_cases c : lo ∈ w.1
    · have ek : kid W C w lo = none := by unfold kid; rw [if_pos c]
      rw [ek]
      obtain ⟨o5', o9', q⟩ := rec_ K (some (.int (lo : Int))) o9 (by omega)
      refine ⟨o5', o9', ?_⟩
      have t1 : forTurn (.nm 5) (ex cl b_rounds_in_time_2) (.int (lo : Int)) [.pl (rowsD W), .pl (clD C), .ow F, .ow (K.map wtD), b, sl o5, .pl (tN w.1), .pl (.int (w.2.1 : Int)), .pl (.int w.2.2), sl o9] = .nx [.pl (rowsD W), .pl (clD C), .ow F, .ow (K.map wtD), b, sl (some (.int (lo : Int))), .pl (tN w.1), .pl (.int (w.2.1 : Int)), .pl (.int w.2.2), sl o9] := by
        generalize tN w.1 = O at *
        simp [b_rounds_in_time_2, e, c]
      rw [t1]
      exact q
    · cases q : lvF W C w.2.1 w.2.2 lo with
      | none =>
        have ek : kid W C w lo = none := by unfold kid; rw [if_neg c, q]; rfl
        rw [ek]
        obtain ⟨o5', o9', p⟩ := rec_ K (some (.int (lo : Int))) (some .none) (by omega)
        refine ⟨o5', o9', ?_⟩
        rw [q] at l
        have t1 : forTurn (.nm 5) (ex cl b_rounds_in_time_2) (.int (lo : Int)) [.pl (rowsD W), .pl (clD C), .ow F, .ow (K.map wtD), b, sl o5, .pl (tN w.1), .pl (.int (w.2.1 : Int)), .pl (.int w.2.2), sl o9] = .nx [.pl (rowsD W), .pl (clD C), .ow F, .ow (K.map wtD), b, sl (some (.int (lo : Int))), .pl (tN w.1), .pl (.int (w.2.1 : Int)), .pl (.int w.2.2), sl (some .none)] := by
          generalize tN w.1 = O at *
          simp [b_rounds_in_time_2, e, c, l]
        rw [t1]
        exact p
      | some g =>
        have ek : kid W C w lo = some (w.1 ++ [lo], lo, g) := by unfold kid; rw [if_neg c, q]; rfl
        rw [ek]
        obtain ⟨o5', o9', p⟩ := rec_ (K ++ [(w.1 ++ [lo], lo, g)]) (some (.int (lo : Int))) (some (.int g)) (by simp; omega)
        refine ⟨o5', o9', ?_⟩
        rw [q] at l
        have hz : (K.map wtD).length < SZ := by simp [SZ]; omega
        have hz2 : (ints_ (nI w.1)).length + 1 ≤ SZ := by simp [SZ]; omega
        have ew : wtD (w.1 ++ [lo], lo, g) = .tuple [.tuple (ints_ (nI w.1) ++ [.int (lo : Int)]), .int (lo : Int), .int g] := by simp [wtD, nI]
        have t1 : forTurn (.nm 5) (ex cl b_rounds_in_time_2) (.int (lo : Int)) [.pl (rowsD W), .pl (clD C), .ow F, .ow (K.map wtD), b, sl o5, .pl (tN w.1), .pl (.int (w.2.1 : Int)), .pl (.int w.2.2), sl o9] = .nx [.pl (rowsD W), .pl (clD C), .ow F, .ow ((K ++ [(w.1 ++ [lo], lo, g)]).map wtD), b, sl (some (.int (lo : Int))), .pl (tN w.1), .pl (.int (w.2.1 : Int)), .pl (.int w.2.2), sl (some (.int g))] := by
          rw [List.map_append, List.map_singleton, ew]
          rw [show tN w.1 = .tuple (ints_ (nI w.1)) from rfl] at *
          generalize K.map wtD = A at *
          generalize ints_ (nI w.1) = O at *
          simp [b_rounds_in_time_2, e, c, l, hz, hz2]
        rw [t1]
        have ea : K ++ (w.1 ++ [lo], lo, g) :: (List.range' (lo + 1) k).filterMap (kid W C w) = (K ++ [(w.1 ++ [lo], lo, g)]) ++ (List.range' (lo + 1) k).filterMap (kid W C w) := by simp
        simp only []
        rw [ea]
        exact p
end Sw

end
section
set_option maxRecDepth 100000
set_option maxHeartbeats 4000000
namespace Sw
open PySem (PyData Str)
theorem tru_lst7 {l : List D} : tru (.list l) = some (!l.isEmpty) := rfl
theorem rit_loop {cl : Nat → List Ar → Ret} {W : List (List Int)} {C : List C3} {n : Nat} (hn : 1 ≤ n ∧ n ≤ 100) (hW : WaysOk n W)
    (L : ∀ (h x : Nat) (m : Int), h < n → x < n → cl 154 [.pl (rowsD W), .pl (clD C), .pl (.int (h : Int)), .pl (.int m), .pl (.int (x : Int))] = .ok (.pl (oI (lvF W C h m x))) [])
    (B : ∀ (h : Nat) (m : Int), h < n → cl 155 [.pl (rowsD W), .pl (clD C), .pl (.int (h : Int)), .pl (.int m)] = .ok (.pl (oI (bkF W C h m))) []) :
    ∀ (fuel : Nat) (fo : List Ro) (ws : List Wt) (o4 o5 o6 o7 o8 o9 : Option D), trns n ws < fuel → fo.length + trns n ws ≤ 500000 → (∀ p ∈ fo, Rnd W C n p) → (∀ w ∈ ws, WtOk W C n w ∧ w.2.1 < n) → (∀ p, Rnd W C n p → p ∈ fo ∨ ∃ w ∈ ws, w.1 <+: p.2) →
    ∃ (fo' : List Ro) (o4' o5' o6' o7' o8' o9' : Option D), whlLoop (ev cl w_rounds_in_time_1).t (ex cl b_rounds_in_time_1) fuel [.pl (rowsD W), .pl (clD C), .ow (fo.map roD), .ow (ws.map wtD), sl o4, sl o5, sl o6, sl o7, sl o8, sl o9] =
      .nx [.pl (rowsD W), .pl (clD C), .ow (fo'.map roD), .ow [], sl o4', sl o5', sl o6', sl o7', sl o8', sl o9'] ∧ (∀ p, Rnd W C n p ↔ p ∈ fo') ∧ fo'.length ≤ 500000
  | 0, _, _, _, _, _, _, _, _, h, _, _, _, _ => by omega
  | fuel + 1, fo, ws, o4, o5, o6, o7, o8, o9, h1, h2, h3, h4, h5 => by
    rcases List.eq_nil_or_concat ws with rfl | ⟨rest, w, rfl⟩
    · refine ⟨fo, o4, o5, o6, o7, o8, o9, ?_, fun p => ⟨fun hp => ?_, h3 p⟩, by omega⟩
      · have cd : (ev cl w_rounds_in_time_1).t [.pl (rowsD W), .pl (clD C), .ow (fo.map roD), .ow [], sl o4, sl o5, sl o6, sl o7, sl o8, sl o9] = .ok false [.pl (rowsD W), .pl (clD C), .ow (fo.map roD), .ow [], sl o4, sl o5, sl o6, sl o7, sl o8, sl o9] := by
          simp [w_rounds_in_time_1, tru_lst7]
        rw [List.map_nil, whlLoop, cd]
        simp [Out.fl]
      · rcases h5 p hp with q | ⟨w, hw, _⟩
        · exact q
        · cases hw
    · rw [List.concat_eq_append] at *
      have hw := h4 w (by simp)
      have hwo : w.1.length ≤ 100 := by
        have := sub_len7 (l := w.1) (k := List.range n) hw.1.ok.nd fun x hx => List.mem_range.mpr (hw.1.ok.rg x hx).2
        rw [List.length_range] at this
        omega
      rw [trns_app] at h1 h2
      have tw : trns n [w] = trn (n - 1 - w.1.length) := by simp [trns]
      rw [tw] at h1 h2
      have kt := kids_trns (W := W) (C := C) hw.1.ok
      have bl : (bks W C w).length ≤ 1 := by unfold bks; split <;> simp
      have rl := trns_len n rest
      have kl := trns_len n (kids W C n w)
      -- what comes of this turn
      obtain ⟨o5a, o9a, fk⟩ := rit_kids (cl := cl) (W := W) (C := C) (n := n) (w := w) (fun x hx => L w.2.1 x w.2.2 hw.2 hx) hwo (F := (fo ++ bks W C w).map roD) (b := .pl (oI (bkF W C w.2.1 w.2.2))) (n - 1) 1 rest o5 o9 (by omega) (by have := trn_pos (n - 1 - w.1.length); omega)
      obtain ⟨fo', o4', o5', o6', o7', o8', o9', q1, q2, q3⟩ := rit_loop hn hW L B fuel (fo ++ bks W C w) (rest ++ kids W C n w) (some (oI (bkF W C w.2.1 w.2.2))) o5a (some (tN w.1)) (some (.int (w.2.1 : Int))) (some (.int w.2.2)) o9a
        (by rw [trns_app]; omega) (by rw [trns_app, List.length_append]; omega) (fun p hp => by
          rcases List.mem_append.mp hp with hp | hp
          · exact h3 p hp
          · exact bks_ok hw.1 hp) (fun v hv => by
          rcases List.mem_append.mp hv with hv | hv
          · exact h4 v (List.mem_append_left _ hv)
          · obtain ⟨x, x1, x2, x3⟩ := mem_kids.mp hv
            refine ⟨(kid_ok hw.1 ⟨x1, x2⟩ x3).1, ?_⟩
            unfold kid at x3
            split at x3
            · cases x3
            · cases q : lvF W C w.2.1 w.2.2 x with
              | none => rw [q] at x3; cases x3
              | some g => rw [q] at x3; cases x3; exact x2) (fun p hp => by
          rcases h5 p hp with q | ⟨v, hv, hx⟩
          · exact .inl (List.mem_append_left _ q)
          · rcases List.mem_append.mp hv with hv | hv
            · exact .inr ⟨v, List.mem_append_left _ hv, hx⟩
            · rw [List.mem_singleton] at hv
              subst hv
              rcases rnd_on hw.1 hp hx with z | ⟨u, u1, u2⟩
              · exact .inl (List.mem_append_right _ z)
              · exact .inr ⟨u, List.mem_append_right _ u1, u2⟩)
      refine ⟨fo', o4', o5', o6', o7', o8', o9', ?_, q2, q3⟩
      rw [← q1]
      have cd : (ev cl w_rounds_in_time_1).t [.pl (rowsD W), .pl (clD C), .ow (fo.map roD), .ow ((rest ++ [w]).map wtD), sl o4, sl o5, sl o6, sl o7, sl o8, sl o9] = .ok true [.pl (rowsD W), .pl (clD C), .ow (fo.map roD), .ow ((rest ++ [w]).map wtD), sl o4, sl o5, sl o6, sl o7, sl o8, sl o9] := by
        rw [List.map_append, List.map_singleton]
        generalize rest.map wtD = A
        cases A <;> simp [w_rounds_in_time_1, tru_lst7]
      have b1 := B w.2.1 w.2.2 hw.2
      have ln : bfn .len [rowsD W] = some (.pl (.int (n : Int))) := by rw [rowsD, blen_tup, List.length_map, hW.len]
      have r := fun ρ => rng_2 (ρ := ρ) (i := 1) (j := (n : Int)) (by omega) (by omega)
      rw [show ((n : Int) - 1).toNat = n - 1 by omega] at r
      rw [show ((1 : Nat) : Int) = 1 from rfl] at fk
      have bd : ex cl b_rounds_in_time_1 [.pl (rowsD W), .pl (clD C), .ow (fo.map roD), .ow ((rest ++ [w]).map wtD), sl o4, sl o5, sl o6, sl o7, sl o8, sl o9] =
          .nx [.pl (rowsD W), .pl (clD C), .ow ((fo ++ bks W C w).map roD), .ow ((rest ++ kids W C n w).map wtD), .pl (oI (bkF W C w.2.1 w.2.2)), sl o5a, .pl (tN w.1), .pl (.int (w.2.1 : Int)), .pl (.int w.2.2), sl o9a] := by
        rw [List.map_append, List.map_singleton, wtD_def]
        have hz : (fo.map roD).length < SZ := by simp [SZ]; omega
        cases qb : bkF W C w.2.1 w.2.2 with
        | none =>
          have eb : bks W C w = [] := by unfold bks; rw [qb]
          rw [eb, List.append_nil, qb] at fk
          rw [eb, List.append_nil]
          rw [qb] at b1
          unfold kids
          generalize ((rest ++ (List.range' 1 (n - 1)).filterMap (kid W C w)).map wtD) = K2 at *
          generalize rest.map wtD = K1 at *
          generalize fo.map roD = F1 at *
          generalize tN w.1 = O at *
          simp only [oI_none] at *
          simp [b_rounds_in_time_1, b1, ln, r, fk, -blen_tup]
        | some b =>
          have eb : bks W C w = [(b, w.1)] := by unfold bks; rw [qb]
          rw [eb, qb, List.map_append, List.map_singleton, roD_def] at fk
          rw [eb, List.map_append, List.map_singleton, roD_def]
          rw [qb] at b1
          unfold kids
          generalize ((rest ++ (List.range' 1 (n - 1)).filterMap (kid W C w)).map wtD) = K2 at *
          generalize rest.map wtD = K1 at *
          generalize fo.map roD = F1 at *
          generalize tN w.1 = O at *
          simp only [oI_some] at *
          simp [b_rounds_in_time_1, b1, ln, r, fk, hz, -blen_tup]
      rw [whlLoop, cd]
      simp only [Out.fl, if_true]
      rw [bd]
      rfl
theorem rounds_in_time_e {n : Nat} {W : List (List Int)} {C : List C3} (hn : 1 ≤ n ∧ n ≤ 6) (hW : WaysOk n W) (hC : C.length = n) ⦃k : Nat⦄ (hk : 2 ≤ k) :
    ∃ fo : List Ro, (∀ p, Rnd W C n p ↔ p ∈ fo) ∧ fo.length ≤ 500000 ∧ call G k 156 [.pl (rowsD W), .pl (clD C)] = .ok (.fr (fo.map roD)) [] := by
  obtain ⟨f, rfl⟩ : ∃ n, k = n + 2 := ⟨k - 2, by omega⟩
  have tb : trn (n - 1) ≤ 326 := by
    have : n - 1 = 0 ∨ n - 1 = 1 ∨ n - 1 = 2 ∨ n - 1 = 3 ∨ n - 1 = 4 ∨ n - 1 = 5 := by omega
    rcases this with h | h | h | h | h | h <;> rw [h] <;> decide
  have t0 : trns n [([], 0, (cl3 C 0).1)] = trn (n - 1) := by simp [trns]
  obtain ⟨fo, o4, o5, o6, o7, o8, o9, q1, q2, q3⟩ := rit_loop (cl := call G (f + 1)) (W := W) (C := C) (n := n) (by omega) hW (fun h x m a b => leaves_e hW hC a b (by omega)) (fun h m a => back_at_e hW hC a (by omega)) FUEL [] [([], 0, (cl3 C 0).1)] none none none none none none
    (by rw [t0]; simp only [FUEL]; omega) (by rw [t0]; simp; omega) (fun p hp => by cases hp) (fun w hw => by
      rw [List.mem_singleton] at hw
      subst hw
      exact ⟨⟨⟨List.nodup_nil, by simp⟩, rfl⟩, by simp; omega⟩) (fun p hp => .inr ⟨_, List.mem_singleton.mpr rfl, List.nil_prefix⟩)
  refine ⟨fo, q2, q3, ?_⟩
  rw [g_rounds_in_time]
  have a3 := cl_at0 (C := C) (by omega)
  rw [c3D_def] at a3
  rw [List.map_nil, List.map_singleton, wtD_def] at q1
  rw [show tN ([] : List Nat) = .tuple [] from rfl] at q1
  simp only [sl_none, Int.natCast_zero] at q1
  generalize rowsD W = A at *
  generalize clD C = B at *
  generalize fo.map roD = Fo at *
  simp [runDef, d_rounds_in_time, a3, q1]
end Sw

end
section
set_option maxRecDepth 100000
set_option maxHeartbeats 4000000
namespace Sw
open PySem (PyData Str)
/-- v is a sequence of sequences of these ints -/
def RowsV (v : D) (R : List (List Int)) : Prop := ∃ vs, Sq v vs ∧ Rws vs R
theorem rwsT : ∀ R : List (List Int), Rws (R.map fun r => .tuple (ints_ r)) R
  | [] => .nil
  | r :: t => .cons (.inr rfl) (rwsT t)
theorem rwsL : ∀ R : List (List Int), Rws (R.map fun r => .list (ints_ r)) R
  | [] => .nil
  | r :: t => .cons (.inl rfl) (rwsL t)
theorem listed_rows (R : List (List Int)) : listed (rowsD R) = .list (R.map fun r => .list (ints_ r)) := by
  rw [rowsD, listed, listeds_map, List.map_map]
  congr 1
  apply List.map_congr_left
  intro r _
  exact listed_ints r
theorem rows_hnd {row : List Int} {k : Int} {R : List (List Int)} : RowsV (hnd row k (rowsD R)) R := by
  rcases hnd_or (row := row) (k := k) (v := rowsD R) with h | h
  · exact ⟨_, .inr h, rwsT R⟩
  · rw [h, listed_rows]; exact ⟨_, .inl rfl, rwsL R⟩
theorem noDct_rows : ∀ R : List (List Int), (∀ r ∈ R, r.length ≤ 1000000) → noDcts (R.map fun r => .tuple (ints_ r)) = true
  | [], _ => rfl
  | r :: t, h => by
    have h1 := h r List.mem_cons_self
    show ((noDcts (ints_ r) && decide ((ints_ r).length ≤ 1000000)) && noDcts (t.map fun r => .tuple (ints_ r))) = true
    rw [noDct_rows t fun x hx => h x (List.mem_cons_of_mem _ hx), noDcts_ints]
    simp
    exact h1
theorem dep_rows : ∀ R : List (List Int), deps (R.map fun r => .tuple (ints_ r)) ≤ 2
  | [] => Nat.zero_le _
  | r :: t => by
    show max (dep (.tuple (ints_ r))) (deps (t.map fun r => .tuple (ints_ r))) ≤ 2
    have := dep_rows t
    have := deps_ints r
    have : dep (.tuple (ints_ r)) = deps (ints_ r) + 1 := by simp [dep]
    omega
theorem handed_rows {row : List Int} (hr : RowOk row) {k : Int} {R : List (List Int)} (hk : 0 ≤ k) (hz : R.length ≤ 1000000) (hz2 : ∀ r ∈ R, r.length ≤ 1000000) ⦃m : Nat⦄ (hm : 5 ≤ m) :
    call G m 26 [.pl (.list (ints_ row)), .io [.int k], .pl (rowsD R)] = .ok (hndV row k (rowsD R)) [[.int (k + 1)]] := handed_e hr hk (by
  show (noDcts (R.map fun r => .tuple (ints_ r)) && decide ((R.map fun r => PyData.tuple (ints_ r)).length ≤ 1000000)) = true
  rw [noDct_rows R hz2]
  simp
  exact hz) (by
    have := dep_rows R
    have : dep (rowsD R) = deps (R.map fun r => .tuple (ints_ r)) + 1 := by simp [dep, rowsD]
    omega) (by omega)
/-- need_tuples, with no greatest length -/
theorem need_tuplesN_e {v : D} {vs : List D} {rows : List (List Int)} {bs : List (Int × Int)} {lo : Int} {at_ : D} (h : Sq v vs) (hr : Rws vs rows) (hw : ∀ r ∈ rows, within r bs) (hz : bs.length ≤ 1000) (h0 : lo ≤ rows.length) (h2 : rows.length ≤ 100000) ⦃m : Nat⦄ (hm : 3 ≤ m) :
    call G m 5 [.pl v, .pl (.int lo), .pl .none, .pl (bnd bs), .pl at_] = .ok (.pl (rowsD rows)) [] := by
  obtain ⟨n, rfl⟩ : ∃ n, m = n + 3 := ⟨m - 3, by omega⟩
  rw [g_need_tuples]
  have e := need_rowN_e (at_ := at_) h (by rw [hr.len]; exact h0) (m := n + 2) (by omega)
  have lp := (for_F (turn := forTurn (.nm 6) (ex (call G (n + 2)) b_need_tuples_1)) (fun d : D => d) (fun o => [.pl v, .pl (.int lo), .pl .none, .pl (bnd bs), .pl at_, .pl (.tuple vs), sl o]) (fun _ d => some d) (fun _ => True) vs none trivial fun s a ha _ => by
    obtain ⟨xs, q1, q2⟩ := hr.at a ha
    have := is_tuple_of_e q2 (hw xs q1) hz (m := n + 2) (by omega)
    refine ⟨by simp [b_need_tuples_1, this], trivial⟩).1
  have lc : ∀ o, lcAll [6] (lcTurn (.nm 6) (ev (call G (n + 2)) .nl).t (ev (call G (n + 2)) e_need_tuples_1).v) (vs.map fun d : D => d) [.pl v, .pl (.int lo), .pl .none, .pl (bnd bs), .pl at_, .pl (.tuple vs), sl o] = .ok (.fr (vs.map fun v => PyData.tuple (itm v))) [.pl v, .pl (.int lo), .pl .none, .pl (bnd bs), .pl at_, .pl (.tuple vs), sl o] := fun o =>
    lc_M (ρw := [.pl v, .pl (.int lo), .pl .none, .pl (bnd bs), .pl at_, .pl (.tuple vs), .em]) _ _ _ (by simp) (by rw [hr.len]; simp [SZ]; omega) fun a ha => by
      obtain ⟨xs, q1, q2⟩ := hr.at a ha
      refine ⟨_, by simp [e_need_tuples_1, tup_of q2, itm_of q2]; rfl, by simp⟩
  rw [hr.map] at lc
  simp only [List.map_id', sl_none] at lp lc
  simp [runDef, d_need_tuples, e, lp, lc, rowsD]
end Sw

end
section
set_option maxRecDepth 100000
set_option maxHeartbeats 4000000
namespace Sw
open PySem (PyData Str)
theorem filtG_ {α : Type} (enc : α → D) (f : α → Bool) (X : List α) : X.filterMap (fun p => if f p = true then some (enc p) else none) = (X.filter f).map enc := by
  induction X with
  | nil => rfl
  | cons x t ih =>
    cases c : f x with
    | true => rw [List.filterMap_cons, List.filter_cons, c]; simp only [if_true]; rw [ih]; rfl
    | false => rw [List.filterMap_cons, List.filter_cons, c]; simpa using ih
def lenIs (k : Int) (p : Ro) : Bool := decide ((p.2.length : Int) = k)
theorem first_back_e {fo : List Ro} {k : Int} (hz : fo.length ≤ 1000000) ⦃m : Nat⦄ (hm : 1 ≤ m) :
    call G m 157 [.pl (.list (fo.map roD)), .pl (.int k)] = .ok (.pl (encO roD (fmin ltR (fo.filter (lenIs k))))) [] := by
  obtain ⟨f, rfl⟩ : ∃ n, m = n + 1 := ⟨m - 1, by omega⟩
  rw [g_first_back]
  have lc : ∀ a0, lcAll [3] (lcTurn (.nm 3) (ev (call G f) c_first_back_1).t (ev (call G f) e_first_back_1).v) (fo.map roD) [a0, .pl (.int k), .em, .em] = .ok (.fr (fo.filterMap fun p => if lenIs k p = true then some (roD p) else none)) [a0, .pl (.int k), .em, .em] := fun a0 =>
    lc_P (ρw := [a0, .pl (.int k), .em, .em]) _ _ _ (by simp) (by simp [SZ]; omega) fun p _ => by
      have ln : bfn .len [tN p.2] = some (.pl (.int (p.2.length : Nat))) := by rw [blen_tup]; simp
      unfold lenIs
      rw [roD_def]
      generalize (p.2.length : Int) = w at *
      generalize tN p.2 = O at *
      by_cases c : w = k
      · exact ⟨_, by simp [c_first_back_1, e_first_back_1, ln, c, -blen_tup]; rfl, by simp⟩
      · exact ⟨_, by simp [c_first_back_1, e_first_back_1, ln, c, -blen_tup]; rfl, by simp⟩
  rw [filtG_] at lc
  have mn := mnd_ro (fo.filter (lenIs k))
  generalize (fo.filter (lenIs k)).map roD = A at *
  generalize fo.map roD = B at *
  generalize encO roD (fmin ltR (fo.filter (lenIs k))) = R at *
  simp [runDef, d_first_back, lc, mn]
/-- ways as arguments -/
structure WaysArg (n : Nat) (W : List (List Int)) : Prop where
  ok : WaysOk n W
  rg : ∀ r ∈ W, ∀ x ∈ r, 0 ≤ x ∧ x ≤ 200
  z : ∀ k, k < n → wy W k k = 0
theorem need_ways_e {v : D} {n : Nat} {W : List (List Int)} {at_ : D} (hn : 1 ≤ n ∧ n ≤ 6) (hv : RowsV v W) (hW : WaysArg n W) ⦃m : Nat⦄ (hm : 5 ≤ m) : call G m 158 [.pl v, .pl at_] = .ok (.pl (rowsD W)) [] := by
  obtain ⟨f, rfl⟩ : ∃ n, m = n + 5 := ⟨m - 5, by omega⟩
  obtain ⟨vs, h1, h2⟩ := hv
  have hl : vs.length = n := by rw [h2.len, hW.ok.len]
  rw [g_need_ways]
  have e1 := need_row_e (lo := 1) (hi := 6) (at_ := at_) h1 (by omega) (by omega) (m := f + 4) (by omega)
  have lc : ∀ a5, lcAll [6] (lcTurn (.nm 6) (ev (call G (f + 4)) .nl).t (ev (call G (f + 4)) e_need_ways_1).v) (vs.map fun d : D => d) [.pl v, .pl at_, .pl (.tuple vs), .pl (.int (n : Int)), .em, a5, .em] = .ok (.fr (vs.map fun v => PyData.tuple (itm v))) [.pl v, .pl at_, .pl (.tuple vs), .pl (.int (n : Int)), .em, a5, .em] := fun a5 =>
    lc_M (ρw := [.pl v, .pl at_, .pl (.tuple vs), .pl (.int (n : Int)), .em, a5, .em]) _ _ _ (by simp) (by simp [SZ]; omega) fun a ha => by
      obtain ⟨xs, q1, q2⟩ := h2.at a ha
      have q3 := hW.ok.row xs q1
      have := wholes_e (a := n) (b := n) (lo := 0) (hi := 200) (at_ := at_) q2 (by omega) (by omega) (hW.rg xs q1) (m := f + 4) (by omega)
      refine ⟨_, by simp only [itm_of q2]; simp [e_need_ways_1, this]; rfl, by simp⟩
  rw [h2.map] at lc
  rw [List.map_id'] at lc
  have r := fun ρ => rng_n (ρ := ρ) (n := n) (by omega)
  have nd := need_e (at_ := at_) (m := f + 4) (by omega)
  have tb : ∀ k, k < n → ixD (.list (W.map fun r => .tuple (ints_ r))) (.int (k : Int)) = some (.tuple (ints_ (W.getD k []))) := fun k hk => row_at (W := W) (by rw [hW.ok.len]; exact hk)
  refine run_w rfl rfl rfl ?_
  have ln : bfn .len [.tuple vs] = some (.pl (.int (n : Int))) := by rw [blen_tup, hl]
  simp only [rowsD]
  generalize hA : (W.map fun r => PyData.tuple (ints_ r)) = A at lc tb ⊢
  simp [d_need_ways, t_need_ways_1, t_need_ways_2, t_need_ways_3, e1, ln, lc, r, -blen_tup]
  refine for_inv (fun i ρ => ∃ o5, ρ = [.pl v, .pl at_, .pl (.tuple vs), .pl (.int (n : Int)), .pl (.list A), sl o5, .em]) _ 0 _ ⟨none, rfl⟩ (fun i d ρ hd hI => ?_) fun ρ hI => ?_
  · obtain ⟨o5, rfl⟩ := hI
    obtain ⟨hi, rfl⟩ := intsFrom_at _ _ _ _ hd
    have t1 := tb i hi
    have t2 := wy_at (W := W) (h := i) (x := i) (by rw [hW.ok.at_ hi]; exact hi)
    rw [hW.z i hi] at t2
    generalize PyData.tuple (ints_ (W.getD i [])) = R at *
    rw [show (0 : Int) + (i : Int) = (i : Int) by omega]
    have t1 : atI A (i : Int) = some R := t1
    simp [b_need_ways_1, t1, t2, nd]
    exact ⟨some (.int (i : Int)), rfl⟩
  · obtain ⟨o5, rfl⟩ := hI
    simp [t_need_ways_4]
def c3L (c : C3) : List Int := [c.1, c.2.1, c.2.2]
theorem clD_rows (C : List C3) : clD C = rowsD (C.map c3L) := by
  rw [clD, rowsD, List.map_map]
  rfl
structure C3Ok (c : C3) : Prop where
  a0 : 0 ≤ c.1
  ab : c.1 ≤ c.2.1
  b1 : c.2.1 ≤ 1000
  c0 : 0 ≤ c.2.2
  c1 : c.2.2 ≤ 200
theorem calls_need_e {v : D} {C : List C3} {at_ : D} (hv : RowsV v (C.map c3L)) (hC : ∀ c ∈ C, C3Ok c) (hz : C.length ≤ 1000) ⦃m : Nat⦄ (hm : 4 ≤ m) : call G m 159 [.pl v, .pl at_] = .ok (.pl (clD C)) [] := by
  obtain ⟨f, rfl⟩ : ∃ n, m = n + 4 := ⟨m - 4, by omega⟩
  obtain ⟨vs, h1, h2⟩ := hv
  rw [g_calls_need]
  have e1 := need_tuplesN_e (lo := 0) (at_ := at_) (bs := [(0, 1000), (0, 1000), (0, 200)]) h1 h2 (fun r hr => by
    obtain ⟨c, hc, rfl⟩ := List.mem_map.mp hr
    obtain ⟨a, b, c1, d, e⟩ := hC c hc
    refine ⟨rfl, fun p hp => ?_⟩
    simp only [c3L, List.zip_cons_cons, List.zip_nil_right, List.mem_cons, List.not_mem_nil, or_false] at hp
    rcases hp with rfl | rfl | rfl
    · exact ⟨a, by simp only; omega⟩
    · exact ⟨by simp only; omega, c1⟩
    · exact ⟨d, e⟩) (by simp) (by simp) (by simp; omega) (m := f + 3) (by omega)
  rw [← clD_rows] at e1
  rw [show bnd [(0, 1000), (0, 1000), (0, 200)] = .tuple [.tuple [.int 0, .int 1000], .tuple [.int 0, .int 1000], .tuple [.int 0, .int 200]] from rfl] at e1
  have nd := need_e (at_ := at_) (m := f + 3) (by omega)
  refine run_w rfl rfl rfl ?_
  have sq : seqD (clD C) = some (C.map c3D) := rfl
  generalize clD C = V at *
  simp [d_calls_need, e1, sq]
  refine for_I (fun ρ => ∃ a b c, ρ = [.pl v, .pl at_, .pl V, sl a, sl b, sl c]) _ _ ⟨none, none, none, rfl⟩ (fun d ρ hd h => ?_) fun ρ h => ?_
  · obtain ⟨a, b, c, rfl⟩ := h
    obtain ⟨x, hx, rfl⟩ := List.mem_map.mp hd
    have := (hC x hx).ab
    rw [c3D_def]
    simp [b_calls_need_1, this, nd]
    exact ⟨⟨some (.int x.1), rfl⟩, ⟨some (.int x.2.1), rfl⟩, ⟨some (.int x.2.2), rfl⟩⟩
  · obtain ⟨a, b, c, rfl⟩ := h
    simp
theorem need_both_e {v w : D} {n : Nat} {W : List (List Int)} {C : List C3} (hn : 1 ≤ n ∧ n ≤ 6) (hv : RowsV v W) (hw : RowsV w (C.map c3L)) (hW : WaysArg n W) (hC : ∀ c ∈ C, C3Ok c) (hl : C.length = n) ⦃m : Nat⦄ (hm : 6 ≤ m) :
    call G m 160 [.pl v, .pl w] = .ok (.pl (.tuple [rowsD W, clD C])) [] := by
  obtain ⟨f, rfl⟩ : ∃ n, m = n + 6 := ⟨m - 6, by omega⟩
  rw [g_need_both]
  have e1 := need_ways_e (at_ := .int 0) hn hv hW (m := f + 5) (by omega)
  have e2 := calls_need_e (at_ := .int 1) hw hC (by omega) (m := f + 5) (by omega)
  have nd := need_e (at_ := .int 1) (m := f + 5) (by omega)
  have l1 : bfn .len [rowsD W] = some (.pl (.int (n : Int))) := by rw [rowsD, blen_tup, List.length_map, hW.ok.len]
  have l2 : bfn .len [clD C] = some (.pl (.int (n : Int))) := by rw [clD, blen_tup, List.length_map, hl]
  generalize rowsD W = A at *
  generalize clD C = B at *
  simp [runDef, d_need_both, e1, e2, nd, l1, l2]
/-- the first round with so many houses -/
def firstR (fo : List Ro) (k : Int) : Option Ro := fmin ltR (fo.filter (lenIs k))
theorem round_of_e {v w : D} {n : Nat} {W : List (List Int)} {C : List C3} (hn : 1 ≤ n ∧ n ≤ 6) (hv : RowsV v W) (hw : RowsV w (C.map c3L)) (hW : WaysArg n W) (hC : ∀ c ∈ C, C3Ok c) (hl : C.length = n) ⦃m : Nat⦄ (hm : 7 ≤ m) :
    ∃ fo : List Ro, (∀ p, Rnd W C n p ↔ p ∈ fo) ∧ call G m 161 [.pl v, .pl w] = .ok (.pl (encO roD (firstR fo ((n : Int) - 1)))) [] := by
  obtain ⟨f, rfl⟩ : ∃ n, m = n + 7 := ⟨m - 7, by omega⟩
  obtain ⟨fo, h1, h2, e2⟩ := rounds_in_time_e hn hW.ok hl (C := C) (k := f + 6) (by omega)
  refine ⟨fo, h1, ?_⟩
  rw [g_round_of]
  have e1 := need_both_e hn hv hw hW hC hl (m := f + 6) (by omega)
  have e3 := first_back_e (fo := fo) (k := (n : Int) - 1) (by omega) (m := f + 6) (by omega)
  have l1 : bfn .len [rowsD W] = some (.pl (.int (n : Int))) := by rw [rowsD, blen_tup, List.length_map, hW.ok.len]
  unfold firstR
  generalize rowsD W = A at *
  generalize clD C = B at *
  generalize fo.map roD = F at *
  generalize encO roD (fmin ltR (fo.filter (lenIs ((n : Int) - 1)))) = R at *
  simp [runDef, d_round_of, e1, e2, e3, l1]
theorem max_ints {xs : List Int} (h : xs ≠ []) : ∃ M, M ∈ xs ∧ (∀ y ∈ xs, y ≤ M) ∧ bfn .max [.list (ints_ xs)] = some (.pl (.int M)) := by
  cases xs with
  | nil => exact absurd rfl h
  | cons x r =>
    obtain ⟨g1, g2, g3⟩ := greatest_spec r x
    refine ⟨greatest x r, ?_, fun y hy => ?_, ?_⟩
    · rcases g1 with g | g
      · rw [g]; exact List.mem_cons_self
      · exact List.mem_cons_of_mem _ g
    · rcases List.mem_cons.mp hy with rfl | hy
      · exact g2
      · exact g3 y hy
    · show (intsD (ints_ r)).map (fun l => VT.pl (.int (greatest x l))) = _
      rw [intsD_ints]
      rfl
theorem rnd_nil {n : Nat} {W : List (List Int)} {C : List C3} (hn : 1 ≤ n) (hW : WaysArg n W) (hC : ∀ c ∈ C, C3Ok c) (hl : C.length = n) : Rnd W C n ((cl3 C 0).1, []) := by
  refine ⟨⟨List.nodup_nil, by simp⟩, ?_⟩
  have h0 := hW.z 0 (by omega)
  have hc : C3Ok (cl3 C 0) := hC _ (by
    unfold cl3
    rw [List.getD_eq_getElem?_getD, List.getElem?_eq_getElem (by omega)]
    exact List.getElem_mem _)
  show baF W C [] = some (cl3 C 0).1
  show bkF W C 0 (cl3 C 0).1 = _
  unfold bkF
  have := hc.ab
  rw [h0, if_neg (by omega)]
  congr 1
  omega
theorem most_e {v w : D} {n : Nat} {W : List (List Int)} {C : List C3} (hn : 1 ≤ n ∧ n ≤ 6) (hv : RowsV v W) (hw : RowsV w (C.map c3L)) (hW : WaysArg n W) (hC : ∀ c ∈ C, C3Ok c) (hl : C.length = n) ⦃m : Nat⦄ (hm : 7 ≤ m) :
    ∃ (fo : List Ro) (M : Int) (p : Ro), (∀ p, Rnd W C n p ↔ p ∈ fo) ∧ (∀ q ∈ fo, (q.2.length : Int) ≤ M) ∧ firstR fo M = some p ∧ call G m 162 [.pl v, .pl w] = .ok (.pl (.tuple [.int M, tN p.2])) [] := by
  obtain ⟨f, rfl⟩ : ∃ n, m = n + 7 := ⟨m - 7, by omega⟩
  obtain ⟨fo, h1, h2, e2⟩ := rounds_in_time_e hn hW.ok hl (C := C) (k := f + 6) (by omega)
  have ne : fo ≠ [] := fun z => by
    have := (h1 _).mp (rnd_nil hn.1 hW hC hl)
    rw [z] at this
    cases this
  obtain ⟨M, m1, m2, m3⟩ := max_ints (xs := fo.map fun p => (p.2.length : Int)) (by simpa using ne)
  obtain ⟨p0, p1, p2⟩ := List.mem_map.mp m1
  obtain ⟨p, hp⟩ := fmin_some ord_ro (L := fo.filter (lenIs M)) (fun z => by
    have : p0 ∈ fo.filter (lenIs M) := List.mem_filter.mpr ⟨p1, decide_eq_true p2⟩
    rw [z] at this
    cases this)
  refine ⟨fo, M, p, h1, fun q hq => m2 _ (List.mem_map.mpr ⟨q, hq, rfl⟩), hp, ?_⟩
  rw [g_most]
  have e1 := need_both_e hn hv hw hW hC hl (m := f + 6) (by omega)
  have e3 := first_back_e (fo := fo) (k := M) (by omega) (m := f + 6) (by omega)
  rw [hp] at e3
  change _ = Ret.ok (.pl (roD p)) _ at e3
  rw [roD_def] at e3
  have lc : lcAll [6, 7] (lcTurn (.tp (.cs (.nm 6) (.cs (.nm 7) .nl))) (ev (call G (f + 6)) .nl).t (ev (call G (f + 6)) e_most_1).v) (fo.map roD) [.pl v, .pl w, .pl (.list (fo.map roD)), .em, .pl (rowsD W), .pl (clD C), .em, .em] = .ok (.fr (fo.map fun p => PyData.int (p.2.length : Int))) [.pl v, .pl w, .pl (.list (fo.map roD)), .em, .pl (rowsD W), .pl (clD C), .em, .em] :=
    lc_M (ρw := [.pl v, .pl w, .pl (.list (fo.map roD)), .em, .pl (rowsD W), .pl (clD C), .em, .em]) _ _ _ (by simp) (by simp [SZ]; omega) fun p _ => by
      have ln : bfn .len [tN p.2] = some (.pl (.int (p.2.length : Nat))) := by rw [blen_tup]; simp
      rw [roD_def]
      generalize tN p.2 = O at *
      exact ⟨_, by simp [e_most_1, ln, -blen_tup]; rfl, by simp⟩
  have li : (fo.map fun p => PyData.int (p.2.length : Int)) = ints_ (fo.map fun p => (p.2.length : Int)) := by rw [ints_, List.map_map]; rfl
  rw [li] at lc
  generalize ints_ (fo.map fun p => (p.2.length : Int)) = Ls at *
  generalize rowsD W = A at *
  generalize clD C = B at *
  generalize fo.map roD = F at *
  generalize tN p.2 = O at *
  simp [runDef, d_most, t_most_1, t_most_2, t_most_3, t_most_4, e1, e2, e3, lc, m3]
end Sw

end
section
set_option maxRecDepth 100000
set_option maxHeartbeats 4000000
namespace Sw
open PySem (PyData Str)
abbrev Ky := Int × Ro
def kyD (k : Ky) : D := .tuple [.int k.1, .int k.2.1, tN k.2.2]
theorem kyD_def (k : Ky) : kyD k = .tuple [.int k.1, .int k.2.1, tN k.2.2] := rfl
theorem kyD_inj (a b : Ky) (h : kyD a = kyD b) : a = b := by
  obtain ⟨x, y, s⟩ := a
  obtain ⟨x', y', t⟩ := b
  injection h with h
  injection h with h1 h2
  injection h2 with h2 h3
  injection h3 with h3
  injection h1 with h1
  injection h2 with h2
  rw [show x = x' from h1, show y = y' from h2, show s = t from tN_inj h3]
theorem kyD_al (a b : Ky) : PySem.W.alike (kyD a) (kyD b) = true := by
  have := alikeAll_ints (nI a.2.2) (nI b.2.2)
  simp only [kyD, tN, PySem.W.alike, PySem.W.alikeAll, Bool.and_true, Bool.true_and]
  exact this
theorem kyD_dep (a : Ky) : (kyD a).depth ≤ 4 := by
  have := depthI_ (nI a.2.2)
  simp only [kyD, tN, PyData.depth, PyData.depthAll] at *
  omega
def ltK (a b : Ky) : Bool := PySem.W.dataLt (kyD a) (kyD b)
theorem ord_ky : LtOk ltK := ord_enc kyD kyD_inj kyD_al
theorem ltK_def (a b : Ky) : ltK a b = (decide (a.1 < b.1) || (decide (a.1 = b.1) && ltR a.2 b.2)) := by
  rw [ltR_def]
  unfold ltK
  rw [kyD_def, kyD_def, dl_tup, dlA_int, dlA_int, dlA_tup]
theorem lt_ky (a b : Ky) : cop .lt (kyD a) (kyD b) = some (ltK a b) := by
  have h1 : lexD [.int a.1, .int a.2.1, tN a.2.2] [.int b.1, .int b.2.1, tN b.2.2] = none := rfl
  have h2 : ordE (kyD a) (kyD b) = true := by
    unfold ordE
    rw [kyD_al, decide_eq_true (Nat.le_trans (kyD_dep a) (by omega)), decide_eq_true (Nat.le_trans (kyD_dep b) (by omega))]
    rfl
  show (lexD [.int a.1, .int a.2.1, tN a.2.2] [.int b.1, .int b.2.1, tN b.2.2]).or (ltE (kyD a) (kyD b)) = _
  rw [h1]
  show ltE _ _ = _
  unfold ltE
  rw [if_pos h2]
  rfl
/-- the law's lines -/
def lineOf (s q : List Nat) : List Nat := q.map fun k => s.getD k 0
def lines (n : Nat) : List (List Nat) := (subs (List.range' 1 (n - 1))).flatMap fun s => (perms s.length).map (lineOf s)
theorem lineOf_ok {s q : List Nat} (hs : s.Nodup) (hq : q ∈ perms s.length) : (lineOf s q).Nodup ∧ ∀ x ∈ lineOf s q, x ∈ s := by
  obtain ⟨h1, h2, h3⟩ := mem_perms.mp hq
  have g : ∀ k, k < s.length → s.getD k 0 ∈ s := fun k hk => by
    rw [List.getD_eq_getElem?_getD, List.getElem?_eq_getElem hk]
    exact List.getElem_mem _
  refine ⟨?_, fun x hx => ?_⟩
  · unfold lineOf
    rw [List.nodup_iff_pairwise_ne, List.pairwise_map]
    refine List.Pairwise.imp_of_mem ?_ (List.nodup_iff_pairwise_ne.mp h2)
    intro a b ha hb hab e
    apply hab
    have la := h3 a ha
    have lb := h3 b hb
    rw [List.getD_eq_getElem?_getD, List.getElem?_eq_getElem la, List.getD_eq_getElem?_getD, List.getElem?_eq_getElem lb] at e
    exact (List.getElem_inj (h₀ := la) (h₁ := lb) hs).mp e
  · obtain ⟨k, hk, rfl⟩ := List.mem_map.mp hx
    exact g k (h3 k hk)
theorem mem_lines {n : Nat} {o : List Nat} : o ∈ lines n ↔ OrdOk n o := by
  unfold lines
  rw [List.mem_flatMap]
  constructor
  · rintro ⟨s, h1, h2⟩
    obtain ⟨q, h3, rfl⟩ := List.mem_map.mp h2
    have sb := (mem_subs _).mp h1
    have nd : s.Nodup := sb.nodup List.nodup_range'
    obtain ⟨a, b⟩ := lineOf_ok nd h3
    refine ⟨a, fun x hx => ?_⟩
    have := List.mem_range'_1.mp (sb.subset (b x hx))
    omega
  · intro h
    have hs : (((List.range' 1 (n - 1)).filter fun x => decide (x ∈ o)) : List Nat).Sublist (List.range' 1 (n - 1)) := List.filter_sublist
    refine ⟨_, (mem_subs _).mpr hs, List.mem_map.mpr ?_⟩
    generalize hS : ((List.range' 1 (n - 1)).filter fun x => decide (x ∈ o)) = s at hs
    have nd : s.Nodup := hs.nodup List.nodup_range'
    have mem : ∀ x, x ∈ s ↔ x ∈ o := fun x => by
      rw [← hS, List.mem_filter, List.mem_range'_1]
      constructor
      · intro z; simpa using z.2
      · intro z
        have := h.rg x z
        exact ⟨by omega, by simpa using z⟩
    have len : o.length = s.length := Nat.le_antisymm (sub_len7 h.nd fun x hx => (mem x).mpr hx) (sub_len7 nd fun x hx => (mem x).mp hx)
    refine ⟨o.map fun x => s.idxOf x, mem_perms.mpr ⟨by rw [List.length_map, len], ?_, fun k hk => ?_⟩, ?_⟩
    · rw [List.nodup_iff_pairwise_ne, List.pairwise_map]
      refine List.Pairwise.imp_of_mem ?_ (List.nodup_iff_pairwise_ne.mp h.nd)
      intro a b ha hb hab e
      apply hab
      have ea := List.getElem_idxOf (List.idxOf_lt_length_iff.mpr ((mem a).mpr ha))
      have eb := List.getElem_idxOf (List.idxOf_lt_length_iff.mpr ((mem b).mpr hb))
      rw [← ea, ← eb]
      congr 1
    · obtain ⟨x, hx, rfl⟩ := List.mem_map.mp hk
      exact List.idxOf_lt_length_iff.mpr ((mem x).mpr hx)
    · unfold lineOf
      rw [List.map_map]
      conv => rhs; rw [← List.map_id o]
      apply List.map_congr_left
      intro x hx
      have lx := List.idxOf_lt_length_iff.mpr ((mem x).mpr hx)
      simp only [Function.comp, id]
      rw [List.getD_eq_getElem?_getD, List.getElem?_eq_getElem lx, List.getElem_idxOf lx]
      rfl
/-- the law's turns -/
def stK (W : List (List Int)) (C : List C3) (n : Nat) (s : Option Ro × Option Ky) (o : List Nat) : Option Ro × Option Ky := match baF W C o with
  | none => s
  | some b => (if o.length = n - 1 then stMin ltR s.1 (b, o) else s.1, stMin ltK s.2 (-(o.length : Int), (b, o)))
def rounds (W : List (List Int)) (C : List C3) (L : List (List Nat)) : List Ro := L.filterMap fun o => (baF W C o).map fun b => (b, o)
theorem stK_fold {W : List (List Int)} {C : List C3} {n : Nat} : ∀ (L : List (List Nat)) (s : Option Ro × Option Ky), L.foldl (stK W C n) s = (((rounds W C L).filter fun p => decide (p.2.length = n - 1)).foldl (stMin ltR) s.1, ((rounds W C L).map fun p => (-(p.2.length : Int), p)).foldl (stMin ltK) s.2)
  | [], s => rfl
  | o :: r, s => by
    rw [List.foldl_cons, stK_fold r]
    unfold rounds
    rw [List.filterMap_cons]
    cases q : baF W C o with
    | none =>
      have : stK W C n s o = s := by unfold stK; rw [q]
      rw [this]
      rfl
    | some b =>
      have e : stK W C n s o = (if o.length = n - 1 then stMin ltR s.1 (b, o) else s.1, stMin ltK s.2 (-(o.length : Int), (b, o))) := by unfold stK; rw [q]
      rw [e]
      simp only [Option.map_some, List.filter_cons, List.map_cons, List.foldl_cons]
      by_cases c : o.length = n - 1
      · simp only [c, if_true, decide_true, List.foldl_cons]
      · simp only [c, if_false, decide_false]
        rfl
theorem mem_rounds {W : List (List Int)} {C : List C3} {n : Nat} {p : Ro} : p ∈ rounds W C (lines n) ↔ Rnd W C n p := by
  unfold rounds
  rw [List.mem_filterMap]
  constructor
  · rintro ⟨o, h1, h2⟩
    cases q : baF W C o with
    | none => rw [q] at h2; cases h2
    | some b =>
      rw [q] at h2
      cases h2
      exact ⟨mem_lines.mp h1, q⟩
  · intro h
    exact ⟨p.2, mem_lines.mpr h.ok, by rw [h.ba]; rfl⟩
theorem whole_ok {W : List (List Int)} {C : List C3} {n : Nat} (hn : 1 ≤ n) {fo : List Ro} (h : ∀ p, Rnd W C n p ↔ p ∈ fo) : ((lines n).foldl (stK W C n) (none, none)).1 = firstR fo ((n : Int) - 1) := by
  rw [stK_fold]
  show fmin ltR _ = fmin ltR _
  refine fmin_eq ord_ro fun x => ?_
  rw [List.mem_filter, List.mem_filter, mem_rounds, h x]
  have : decide (x.2.length = n - 1) = lenIs ((n : Int) - 1) x := by
    unfold lenIs
    rw [decide_eq_decide]
    omega
  rw [this]
theorem most_ok {W : List (List Int)} {C : List C3} {n : Nat} {fo : List Ro} (h : ∀ p, Rnd W C n p ↔ p ∈ fo) {M : Int} {p : Ro} (hM : ∀ q ∈ fo, (q.2.length : Int) ≤ M) (hp : firstR fo M = some p) : ((lines n).foldl (stK W C n) (none, none)).2 = some (-M, p) := by
  rw [stK_fold]
  obtain ⟨k1, k2⟩ := fmin_spec ord_ro hp
  obtain ⟨k3, k4⟩ := List.mem_filter.mp k1
  have k4 : (p.2.length : Int) = M := of_decide_eq_true k4
  refine fmin_is ord_ky (List.mem_map.mpr ⟨p, mem_rounds.mpr ((h p).mpr k3), by rw [k4]⟩) fun x hx => ?_
  obtain ⟨q, hq, rfl⟩ := List.mem_map.mp hx
  have hq := (h q).mp (mem_rounds.mp hq)
  have le := hM q hq
  rw [ltK_def]
  by_cases c : (q.2.length : Int) = M
  · have := k2 q (List.mem_filter.mpr ⟨hq, decide_eq_true c⟩)
    simp only [c, this]
    simp
  · have h1 : ¬ (-(q.2.length : Int) < -M) := by omega
    have h2 : ¬ (-(q.2.length : Int) = -M) := by omega
    simp [h1, h2]
end Sw

end
section
set_option maxRecDepth 100000
set_option maxHeartbeats 4000000
namespace Sw
open PySem (PyData Str)
theorem mx_comm (a b : Int) : mx a b = mx b a := by
  unfold mx
  split <;> split <;> omega
theorem called_loop {cl : Nat → List Ar → Ret} {n : Nat} {W : List (List Int)} {C : List C3} (hW : WaysOk n W) (hC : C.length = n) {O : D} {N B Cc : Env → Prop} {Rr : VT → Env → Prop} : ∀ (t : List Nat) (h : Nat) (m : Int) (o5 : Option D), h < n → (∀ x ∈ t, x < n) →
    (∀ h' m' o5', h' < n → t.foldl (rnS W C) (some (h, m)) = some (h', m') → N [.pl (rowsD W), .pl (clD C), .pl O, .pl (.int m'), .pl (.int (h' : Nat)), sl o5']) → (t.foldl (rnS W C) (some (h, m)) = none → ∀ ρ, Rr (.pl .none) ρ) →
    WF (forLoop (forTurn (.nm 5) (ex cl b_law_called_at_1)) (ints_ (nI t)) [.pl (rowsD W), .pl (clD C), .pl O, .pl (.int m), .pl (.int (h : Nat)), sl o5]) N B Cc Rr
  | [], h, m, o5, hh, _, hN, _ => hN h m o5 hh rfl
  | x :: t, h, m, o5, hh, ht, hN, hR => by
    have hx := ht x List.mem_cons_self
    have a1 := row_at (W := W) (h := h) (by rw [hW.len]; exact hh)
    have a2 := wy_at (W := W) (h := h) (x := x) (by rw [hW.at_ hh]; exact hx)
    have a3 := cl_at (C := C) (h := x) (by omega)
    rw [c3D_def] at a3
    have b := bmax_ab (i := m + wy W h x) (j := (cl3 C x).1)
    rw [mx_comm] at b
    rw [List.foldl_cons] at hN hR
    have e : rnS W C (some (h, m)) x = (lvF W C h m x).map fun g => (x, g) := rfl
    rw [e] at hN hR
    unfold lvF at hN hR
    show WF (match forTurn (.nm 5) (ex cl b_law_called_at_1) (.int (x : Int)) [.pl (rowsD W), .pl (clD C), .pl O, .pl (.int m), .pl (.int (h : Nat)), sl o5] with | .nx ρ => forLoop _ (ints_ (nI t)) ρ | .ct ρ => forLoop _ (ints_ (nI t)) ρ | .bk ρ => .nx ρ | o => o) N B Cc Rr
    by_cases q : (cl3 C x).2.1 < mx (cl3 C x).1 (m + wy W h x)
    · rw [if_pos q] at hR
      have tr : ∃ ρ, forTurn (.nm 5) (ex cl b_law_called_at_1) (.int (x : Int)) [.pl (rowsD W), .pl (clD C), .pl O, .pl (.int m), .pl (.int (h : Nat)), sl o5] = .rt (.pl .none) ρ := by
        generalize mx (cl3 C x).1 (m + wy W h x) = z at *
        generalize wy W h x = w at *
        generalize cl3 C x = c at *
        generalize rowsD W = A at *
        generalize clD C = Bq at *
        generalize PyData.tuple (ints_ (W.getD h [])) = Rw at *
        exact ⟨_, by simp [b_law_called_at_1, a1, a2, a3, b, q, -bmax_s]; rfl⟩
      obtain ⟨ρ, tr⟩ := tr
      rw [tr]
      exact hR (rnS_none W C t) ρ
    · rw [if_neg q] at hN hR
      have tr : forTurn (.nm 5) (ex cl b_law_called_at_1) (.int (x : Int)) [.pl (rowsD W), .pl (clD C), .pl O, .pl (.int m), .pl (.int (h : Nat)), sl o5] = .nx [.pl (rowsD W), .pl (clD C), .pl O, .pl (.int (mx (cl3 C x).1 (m + wy W h x) + (cl3 C x).2.2)), .pl (.int (x : Nat)), sl (some (.int (x : Int)))] := by
        generalize mx (cl3 C x).1 (m + wy W h x) = z at *
        generalize wy W h x = w at *
        generalize cl3 C x = c at *
        generalize rowsD W = A at *
        generalize clD C = Bq at *
        generalize PyData.tuple (ints_ (W.getD h [])) = Rw at *
        simp [b_law_called_at_1, a1, a2, a3, b, q, -bmax_s]
      rw [tr]
      exact called_loop hW hC t x _ (some (.int (x : Int))) hx (fun y hy => ht y (List.mem_cons_of_mem _ hy)) hN hR
theorem law_called_at_e {n : Nat} {W : List (List Int)} {C : List C3} (hn : 1 ≤ n) (hW : WaysOk n W) (hC : C.length = n) {o : List Nat} (ho : ∀ x ∈ o, x < n) ⦃k : Nat⦄ (hk : 1 ≤ k) :
    call G k 166 [.pl (rowsD W), .pl (clD C), .pl (tN o)] = .ok (.pl (oI (baF W C o))) [] := by
  obtain ⟨f, rfl⟩ : ∃ n, k = n + 1 := ⟨k - 1, by omega⟩
  rw [g_law_called_at]
  generalize call G f = cl
  have a3 := cl_at0 (C := C) (by omega)
  rw [c3D_def] at a3
  have sq : seqD (tN o) = some (ints_ (nI o)) := rfl
  refine run_w rfl rfl rfl ?_
  have lp := fun (N B Cc : Env → Prop) (Rr : VT → Env → Prop) => called_loop (cl := cl) hW hC (O := tN o) (N := N) (B := B) (Cc := Cc) (Rr := Rr) o 0 (cl3 C 0).1 none (by omega) ho
  have fin : ∀ (h : Nat) (m : Int), h < n → ∀ (x5 : Slot), bkF W C h m = baF W C o → WF (ex cl t_law_called_at_3 [.pl (rowsD W), .pl (clD C), .pl (tN o), .pl (.int m), .pl (.int (h : Nat)), x5]) (fun _ => False) (fun _ => False) (fun _ => False) (fun v _ => v = .pl (oI (baF W C o))) := fun h m hh x5 e => by
    have a1 := row_at (W := W) (h := h) (by rw [hW.len]; exact hh)
    have a2 := wy_at (W := W) (h := h) (x := 0) (by rw [hW.at_ hh]; omega)
    simp only [Int.natCast_zero] at a2
    rw [← e]
    unfold bkF
    generalize wy W h 0 = w at *
    generalize cl3 C 0 = c at *
    generalize rowsD W = A at *
    generalize clD C = Bq at *
    generalize PyData.tuple (ints_ (W.getD h [])) = Rw at *
    by_cases q : c.2.1 < m + w
    · rw [if_pos q]
      simp [t_law_called_at_3, t_law_called_at_4, a1, a2, a3, q]
    · rw [if_neg q]
      simp [t_law_called_at_3, t_law_called_at_4, a1, a2, a3, q]
  have key := lp (fun ρ => WF (ex cl t_law_called_at_3 ρ) (fun _ => False) (fun _ => False) (fun _ => False) (fun v _ => v = .pl (oI (baF W C o)))) (fun _ => False) (fun _ => False) (fun v _ => v = .pl (oI (baF W C o))) (fun h' m' o5' hh e => fin h' m' hh _ (by
    unfold baF
    have e2 : rnF W C o = some (h', m') := e
    rw [e2]
    rfl)) (fun e ρ => by
    unfold baF
    have e2 : rnF W C o = none := e
    rw [e2]
    rfl)
  simp only [sl_none, Int.natCast_zero] at key
  generalize rowsD W = A at *
  generalize clD C = Bq at *
  generalize ints_ (nI o) = It at *
  generalize tN o = O at *
  simp [d_law_called_at, t_law_called_at_1, t_law_called_at_2, a3, sq]
  exact key
/-- what the draws give -/
structure Drw (cl : Nat → List Ar → Ret) (R : D) : Prop where
  T : ∀ k l, 0 ≤ k → 0 < l → ∃ r, 0 ≤ r ∧ r < l ∧ cl 24 [.pl R, .io [.int k], .pl (.int l)] = .ok (.pl (.int r)) [[.int (k + 1)]]
  P : ∀ k (xs : List D), 0 ≤ k → 0 < xs.length → ∃ x, x ∈ xs ∧ cl 27 [.pl R, .io [.int k], .pl (.list xs)] = .ok (.pl x) [[.int (k + 1)]]
theorem drw_cl {row : List Int} (hr : RowOk row) {n : Nat} (hn : 3 ≤ n) : Drw (call G n) (.list (ints_ row)) where
  T := fun k l h0 h1 => ⟨_, drw0 h1, drw1 h1, take_e hr h0 h1 (by omega)⟩
  P := fun k xs h0 h1 => ⟨_, pck_mem h1, pick_e hr h0 h1 (by omega)⟩
theorem lc_E7 {turn : D → Env → Out (Option D)} {own : List Nat} {items : List D} {ρ0 ρ1 : Env} (Q : List D → Env → Prop) (hw : wipeE own ρ0 = some ρ1) (h : W (lcLoop turn own items [] ρ1) Q) :
    ∃ acc ρ2, Q acc ρ2 ∧ lcAll own turn items ρ0 = .ok (.fr acc) (restore ρ0 own ρ2) := by
  unfold lcAll
  rw [hw]
  show ∃ acc ρ2, Q acc ρ2 ∧ lcFin ρ0 own _ = _
  generalize lcLoop turn own items [] ρ1 = o at h
  cases o with
  | ok acc ρ2 => exact ⟨acc, ρ2, h, rfl⟩
  | er x ρ => exact h.elim
  | no => exact h.elim
theorem getD_snoc {α : Type} {r : List α} {x d : α} {k : Nat} : (r ++ [x]).getD k d = if k = r.length then x else r.getD k d := by
  rw [List.getD_eq_getElem?_getD, List.getD_eq_getElem?_getD]
  by_cases c : k = r.length
  · subst c; simp
  · rw [if_neg c]
    by_cases c2 : k < r.length
    · rw [List.getElem?_append_left c2]
    · rw [List.getElem?_eq_none (by simp; omega), List.getElem?_eq_none (by omega)]
theorem ways_row {cl : Nat → List Ar → Ret} {R : D} (K : Drw cl R) {n : Nat} (hn : n ≤ 10) {top : Int} (ht : 0 ≤ top ∧ top ≤ 200) {t : Nat} {k : Int} (hk : 0 ≤ k) {a2 : Slot} {o6 : Option D} :
    ∃ (r : List Int) (k' : Int), 0 ≤ k' ∧ r.length = n ∧ (∀ x ∈ r, 0 ≤ x ∧ x ≤ 200) ∧ (t < n → r.getD t 0 = 0) ∧
      lcAll [6] (lcTurn (.nm 6) (ev cl .nl).t (ev cl e_law_ways_2).v) (intsFrom 0 n) [.pl R, .io [.int k], a2, .pl (.int (n : Int)), .pl (.int top), .pl (.int (t : Int)), sl o6] =
      .ok (.fr (ints_ r)) [.pl R, .io [.int k'], a2, .pl (.int (n : Int)), .pl (.int top), .pl (.int (t : Int)), sl o6] := by
  have inv := lc_inv (turn := lcTurn (.nm 6) (ev cl .nl).t (ev cl e_law_ways_2).v) (own := [6]) (Q := fun acc ρ => ∃ (r : List Int) (k' : Int) (o : Option D), acc = ints_ r ∧ r.length = n ∧ (∀ x ∈ r, 0 ≤ x ∧ x ≤ 200) ∧ (t < n → r.getD t 0 = 0) ∧ 0 ≤ k' ∧ ρ = [.pl R, .io [.int k'], a2, .pl (.int (n : Int)), .pl (.int top), .pl (.int (t : Int)), sl o])
    (fun i acc ρ => ∃ (r : List Int) (k' : Int) (o : Option D), acc = ints_ r ∧ r.length = i ∧ (∀ x ∈ r, 0 ≤ x ∧ x ≤ 200) ∧ (t < i → r.getD t 0 = 0) ∧ 0 ≤ k' ∧ ρ = [.pl R, .io [.int k'], a2, .pl (.int (n : Int)), .pl (.int top), .pl (.int (t : Int)), sl o]) (intsFrom 0 n) 0 [] [.pl R, .io [.int k], a2, .pl (.int (n : Int)), .pl (.int top), .pl (.int (t : Int)), .em]
    ⟨[], k, none, rfl, rfl, by simp, by simp, hk, rfl⟩
    (fun i acc ρ ⟨r, k', o, h1, h2, _⟩ => by rw [h1, List.length_map, h2]; exact Nat.le_refl _) (by rw [intsFrom_len_]; simp [SZ]; omega)
    (fun i d acc ρ hd ⟨r, k', o, h1, h2, h3, h4, h5, h6⟩ => by
      obtain ⟨hi, rfl⟩ := intsFrom_at _ _ _ _ hd
      subst h6
      rw [show (0 : Int) + (i : Int) = (i : Int) by omega]
      have fin : ∀ (x : Int) (k2 : Int), 0 ≤ x → x ≤ 200 → (i = t → x = 0) → 0 ≤ k2 → ∃ (r : List Int) (k' : Int) (o : Option D), acc ++ [PyData.int x] = ints_ r ∧ r.length = 0 + i + 1 ∧ (∀ x ∈ r, 0 ≤ x ∧ x ≤ 200) ∧ (t < 0 + i + 1 → r.getD t 0 = 0) ∧ 0 ≤ k' ∧ [.pl R, .io [.int k2], a2, .pl (.int (n : Int)), .pl (.int top), .pl (.int (t : Int)), .pl (.int (i : Int))] = [.pl R, .io [.int k'], a2, .pl (.int (n : Int)), .pl (.int top), .pl (.int (t : Int)), sl o] := fun x k2 x0 x1 xt hk2 => by
        refine ⟨r ++ [x], k2, some (.int (i : Int)), by rw [h1]; simp, by simp [h2], fun y hy => ?_, fun hlt => ?_, hk2, rfl⟩
        · rcases List.mem_append.mp hy with hy | hy
          · exact h3 y hy
          · simp at hy; subst hy; exact ⟨x0, x1⟩
        · rw [getD_snoc]
          by_cases c : t = r.length
          · rw [if_pos c]; exact xt (by omega)
          · rw [if_neg c]; exact h4 (by omega)
      by_cases c : i = t
      · have st : lcTurn (.nm 6) (ev cl .nl).t (ev cl e_law_ways_2).v (.int (i : Int)) (wiped [.pl R, .io [.int k'], a2, .pl (.int (n : Int)), .pl (.int top), .pl (.int (t : Int)), sl o] [6]) = .ok (some (.int 0)) [.pl R, .io [.int k'], a2, .pl (.int (n : Int)), .pl (.int top), .pl (.int (t : Int)), .pl (.int (i : Int))] := by
          have c2 : (i : Int) = (t : Int) := by omega
          simp [e_law_ways_2, c2]
        rw [st]
        exact fin 0 k' (by omega) (by omega) (fun _ => rfl) h5
      · obtain ⟨x, x0, x1, ex⟩ := K.T k' (top + 1) h5 (by omega)
        have st : lcTurn (.nm 6) (ev cl .nl).t (ev cl e_law_ways_2).v (.int (i : Int)) (wiped [.pl R, .io [.int k'], a2, .pl (.int (n : Int)), .pl (.int top), .pl (.int (t : Int)), sl o] [6]) = .ok (some (.int x)) [.pl R, .io [.int (k' + 1)], a2, .pl (.int (n : Int)), .pl (.int top), .pl (.int (t : Int)), .pl (.int (i : Int))] := by
          have c2 : ¬ (i : Int) = (t : Int) := by omega
          simp [e_law_ways_2, c2, ex]
        rw [st]
        exact fin x (k' + 1) x0 (by omega) (fun z => absurd z c) (by omega))
    (fun acc ρ ⟨r, k', o, h1, h2, h3, h4, h5, h6⟩ => ⟨r, k', o, h1, by rw [h2, intsFrom_len_]; omega, h3, fun hlt => h4 (by rw [intsFrom_len_]; omega), h5, h6⟩)
  obtain ⟨acc, ρ2, ⟨r, k', o, h1, h2, h3, h4, h5, h6⟩, e⟩ := lc_E7 (ρ0 := [.pl R, .io [.int k], a2, .pl (.int (n : Int)), .pl (.int top), .pl (.int (t : Int)), sl o6]) _ (by simp) inv
  refine ⟨r, k', h5, h2, h3, h4, ?_⟩
  rw [e, h1, h6]
  simp
end Sw

end
section
set_option maxRecDepth 100000
set_option maxHeartbeats 4000000
namespace Sw
open PySem (PyData Str)
theorem W_some {o : Out (Option D)} {P : D → Env → Prop} {Q : Env → Prop} (h : ∃ v ρ', o = .ok (some v) ρ' ∧ P v ρ') : W o (fun o ρ => match o with | some v => P v ρ | none => Q ρ) := by
  obtain ⟨v, ρ', e, h⟩ := h
  rw [e]
  exact h
/-- all kept: I holds of what is made and the slots, by the number of turns -/
theorem lc_G {turn : D → Env → Out (Option D)} {own : List Nat} {items : List D} {ρ0 ρ1 : Env} (I : Nat → List D → Env → Prop) (hw : wipeE own ρ0 = some ρ1) (h0 : I 0 [] ρ1) (hl : ∀ i acc ρ, I i acc ρ → acc.length ≤ i) (hz : items.length ≤ SZ)
    (st : ∀ i d acc ρ, items[i]? = some d → I i acc ρ → ∃ v ρ', turn d (wiped ρ own) = .ok (some v) ρ' ∧ I (i + 1) (acc ++ [v]) ρ') :
    ∃ acc ρ2, I items.length acc ρ2 ∧ lcAll own turn items ρ0 = .ok (.fr acc) (restore ρ0 own ρ2) := by
  have inv := lc_inv (turn := turn) (own := own) (Q := fun acc ρ => I items.length acc ρ) I items 0 [] ρ1 h0 hl (by omega) (fun i d acc ρ hd hi => by
    rw [Nat.zero_add] at hi ⊢
    exact W_some (st i d acc ρ hd hi)) (fun acc ρ h => by rw [Nat.zero_add] at h; exact h)
  unfold lcAll
  rw [hw]
  show ∃ acc ρ2, I items.length acc ρ2 ∧ lcFin ρ0 own _ = _
  generalize lcLoop turn own items [] ρ1 = o at inv
  cases o with
  | ok acc ρ2 => exact ⟨acc, ρ2, inv, rfl⟩
  | er x ρ => exact inv.elim
  | no => exact inv.elim
end Sw

end
section
set_option maxRecDepth 100000
set_option maxHeartbeats 4000000
namespace Sw
open PySem (PyData Str)
theorem rows_snoc (A : List (List Int)) (r : List Int) : (A.map fun r => PyData.tuple (ints_ r)) ++ [PyData.tuple (ints_ r)] = (A ++ [r]).map fun r => PyData.tuple (ints_ r) := by simp
theorem law_ways_e {row : List Int} (hr : RowOk row) {k : Int} (hk : 0 ≤ k) ⦃m : Nat⦄ (hm : 4 ≤ m) :
    ∃ (n : Nat) (W : List (List Int)) (k' : Int), 1 ≤ n ∧ n ≤ 5 ∧ WaysArg n W ∧ 0 ≤ k' ∧ call G m 164 [.pl (.list (ints_ row)), .io [.int k], .pl (.int 5)] = .ok (.pl (rowsD W)) [[.int k']] := by
  obtain ⟨f, rfl⟩ : ∃ n, m = n + 4 := ⟨m - 4, by omega⟩
  have K := drw_cl hr (n := f + 3) (by omega)
  generalize hcl : call G (f + 3) = cl at K
  generalize hR : PyData.list (ints_ row) = R at K
  obtain ⟨x, x0, x1, e1⟩ := K.T k 5 hk (by omega)
  obtain ⟨n, hn⟩ : ∃ n : Nat, 1 + x = (n : Int) := ⟨(1 + x).toNat, by omega⟩
  obtain ⟨y, hy, e2⟩ := K.P (k + 1) [.int 4, .int 30, .int 200] (by omega) (by simp)
  have hy2 : ∃ top : Int, y = .int top ∧ 0 ≤ top ∧ top ≤ 200 := by
    simp only [List.mem_cons, List.not_mem_nil, or_false] at hy
    rcases hy with rfl | rfl | rfl
    · exact ⟨_, rfl, by omega, by omega⟩
    · exact ⟨_, rfl, by omega, by omega⟩
    · exact ⟨_, rfl, by omega, by omega⟩
  obtain ⟨top, rfl, t0, t1⟩ := hy2
  have r := fun ρ => rng_n (ρ := ρ) (n := n) (by omega)
  have wr : ∀ (i : Nat) (k' : Int), 0 ≤ k' → ∃ (r : List Int) (k2 : Int), 0 ≤ k2 ∧ r.length = n ∧ (∀ x ∈ r, 0 ≤ x ∧ x ≤ 200) ∧ (i < n → r.getD i 0 = 0) ∧
      lcAll [6] (lcTurn (.nm 6) (ev cl .nl).t (ev cl e_law_ways_2).v) (intsFrom 0 n) [.pl R, .io [.int k'], .pl (.int 5), .pl (.int (n : Int)), .pl (.int top), .pl (.int (i : Int)), .em] =
      .ok (.fr (ints_ r)) [.pl R, .io [.int k2], .pl (.int 5), .pl (.int (n : Int)), .pl (.int top), .pl (.int (i : Int)), .em] := fun i k' h => ways_row K (by omega) ⟨t0, t1⟩ h (o6 := none)
  obtain ⟨acc, ρ2, ⟨A, k', o, h1, h2, h3, h4, h5, h6⟩, e⟩ := lc_G (turn := lcTurn (.nm 5) (ev cl .nl).t (ev cl e_law_ways_1).v) (own := [5]) (items := intsFrom 0 n) (ρ0 := [.pl R, .io [.int (k + 1 + 1)], .pl (.int 5), .pl (.int (n : Int)), .pl (.int top), .em, .em])
    (fun i acc ρ => ∃ (A : List (List Int)) (k' : Int) (o : Option D), acc = (A.map fun r => PyData.tuple (ints_ r)) ∧ A.length = i ∧ (∀ r ∈ A, r.length = n ∧ ∀ x ∈ r, 0 ≤ x ∧ x ≤ 200) ∧ (∀ t, t < i → t < n → (A.getD t []).getD t 0 = 0) ∧ 0 ≤ k' ∧ ρ = [.pl R, .io [.int k'], .pl (.int 5), .pl (.int (n : Int)), .pl (.int top), sl o, .em]) (by simp)
    ⟨[], k + 1 + 1, none, rfl, rfl, by simp, by simp, by omega, rfl⟩
    (fun i acc ρ ⟨A, k', o, h1, h2, _⟩ => by rw [h1, List.length_map, h2]; exact Nat.le_refl _) (by rw [intsFrom_len_]; simp [SZ]; omega)
    (fun i d acc ρ hd ⟨A, k', o, h1, h2, h3, h4, h5, h6⟩ => by
      obtain ⟨hi, rfl⟩ := intsFrom_at _ _ _ _ hd
      subst h6
      rw [show (0 : Int) + (i : Int) = (i : Int) by omega]
      obtain ⟨rw_, k2, c1, c2, c3, c4, c5⟩ := wr i k' h5
      refine ⟨.tuple (ints_ rw_), [.pl R, .io [.int k2], .pl (.int 5), .pl (.int (n : Int)), .pl (.int top), .pl (.int (i : Int)), .em], ?_, A ++ [rw_], k2, some (.int (i : Int)), by rw [h1]; exact rows_snoc A rw_, by simp [h2], fun q hq => ?_, fun t ht htn => ?_, c1, rfl⟩
      · generalize ints_ rw_ = Rr at *
        simp [e_law_ways_1, r, c5, noEr]
      · rcases List.mem_append.mp hq with hq | hq
        · exact h3 q hq
        · simp at hq; subst hq; exact ⟨c2, c3⟩
      · rw [getD_snoc]
        by_cases c : t = A.length
        · rw [if_pos c, show t = i by omega]; exact c4 hi
        · rw [if_neg c]; exact h4 t (by omega) htn)
  rw [intsFrom_len_] at h2 h4
  rw [h1, h6] at e
  refine ⟨n, A, k', by omega, by omega, ⟨⟨h2, fun q hq => (h3 q hq).1⟩, fun q hq => (h3 q hq).2, fun t ht => h4 t ht ht⟩, h5, ?_⟩
  rw [g_law_ways, hcl]
  unfold rowsD
  generalize (A.map fun r => PyData.tuple (ints_ r)) = AA at *
  simp [runDef, d_law_ways, e1, e2, hn, r, e]
theorem calls_turn {cl : Nat → List Ar → Ret} {R : D} (K : Drw cl R) {k : Int} (hk : 0 ≤ k) {C : List C3} (hz : C.length < 1000) {d : D} {a2 : Slot} {o4 o5 : Option D} : ∃ (c : C3) (k' : Int) (z : D), C3Ok c ∧ 0 ≤ k' ∧
    forTurn (.nm 4) (ex cl b_law_calls_1) d [.pl R, .io [.int k], a2, .ow (C.map c3D), sl o4, sl o5] = .nx [.pl R, .io [.int k'], a2, .ow ((C ++ [c]).map c3D), .pl d, .pl z] := by
  obtain ⟨x, x0, x1, e1⟩ := K.T k 60 hk (by omega)
  obtain ⟨y, hy, e2⟩ := K.P (k + 1) [.int 0, .int x] (by omega) (by simp)
  have hy2 : ∃ a : Int, y = .int a ∧ 0 ≤ a ∧ a ≤ 60 := by
    simp only [List.mem_cons, List.not_mem_nil, or_false] at hy
    rcases hy with rfl | rfl
    · exact ⟨_, rfl, by omega, by omega⟩
    · exact ⟨_, rfl, by omega, by omega⟩
  obtain ⟨a, rfl, a0, a1⟩ := hy2
  obtain ⟨z, hz2, e3⟩ := K.P (k + 1 + 1) [.int 5, .int 40, .int 300, .int 900] (by omega) (by simp)
  have hz3 : ∃ b : Int, z = .int b ∧ 0 ≤ b ∧ b ≤ 900 := by
    simp only [List.mem_cons, List.not_mem_nil, or_false] at hz2
    rcases hz2 with rfl | rfl | rfl | rfl
    · exact ⟨_, rfl, by omega, by omega⟩
    · exact ⟨_, rfl, by omega, by omega⟩
    · exact ⟨_, rfl, by omega, by omega⟩
    · exact ⟨_, rfl, by omega, by omega⟩
  obtain ⟨b, rfl, b0, b1⟩ := hz3
  obtain ⟨w, hw, e4⟩ := K.P (k + 1 + 1 + 1) [.int 1, .int 20] (by omega) (by simp)
  have hw2 : ∃ u : Int, w = .int u ∧ 0 < u ∧ u ≤ 20 := by
    simp only [List.mem_cons, List.not_mem_nil, or_false] at hw
    rcases hw with rfl | rfl
    · exact ⟨_, rfl, by omega, by omega⟩
    · exact ⟨_, rfl, by omega, by omega⟩
  obtain ⟨u, rfl, u0, u1⟩ := hw2
  obtain ⟨v, v0, v1, e5⟩ := K.T (k + 1 + 1 + 1 + 1) u (by omega) u0
  refine ⟨(a, a + b, v), k + 1 + 1 + 1 + 1 + 1, .int a, ⟨a0, by simp only; omega, by simp only; omega, v0, by simp only; omega⟩, by omega, ?_⟩
  rw [List.map_append, List.map_singleton, c3D_def]
  have hz4 : (C.map c3D).length < SZ := by simp [SZ]; omega
  generalize C.map c3D = A at *
  simp [b_law_calls_1, e1, e2, e3, e4, e5, hz4]
theorem law_calls_e {row : List Int} (hr : RowOk row) {k : Int} (hk : 0 ≤ k) {n : Nat} (hn : n ≤ 100) ⦃m : Nat⦄ (hm : 4 ≤ m) :
    ∃ (C : List C3) (k' : Int), C.length = n ∧ (∀ c ∈ C, C3Ok c) ∧ 0 ≤ k' ∧ call G m 165 [.pl (.list (ints_ row)), .io [.int k], .pl (.int (n : Int))] = .ok (.pl (clD C)) [[.int k']] := by
  obtain ⟨f, rfl⟩ : ∃ n, m = n + 4 := ⟨m - 4, by omega⟩
  have K := drw_cl hr (n := f + 3) (by omega)
  generalize hcl : call G (f + 3) = cl at K
  generalize hR : PyData.list (ints_ row) = R at K
  rw [g_law_calls, hcl]
  have r := fun ρ => rng_n (ρ := ρ) (n := n) (by omega)
  have lp : ∀ (j lo : Nat) (C : List C3) (k : Int) (o4 o5 : Option D), 0 ≤ k → C.length + j ≤ 100 → (∀ c ∈ C, C3Ok c) → ∃ (C' : List C3) (k' : Int) (o4' o5' : Option D), C'.length = C.length + j ∧ (∀ c ∈ C', C3Ok c) ∧ 0 ≤ k' ∧
      forLoop (forTurn (.nm 4) (ex cl b_law_calls_1)) (intsFrom (lo : Int) j) [.pl R, .io [.int k], .pl (.int (n : Int)), .ow (C.map c3D), sl o4, sl o5] = .nx [.pl R, .io [.int k'], .pl (.int (n : Int)), .ow (C'.map c3D), sl o4', sl o5'] := fun j => by
    induction j with
    | zero => intro lo C k o4 o5 h0 _ h2; exact ⟨C, k, o4, o5, rfl, h2, h0, rfl⟩
    | succ j ih =>
      intro lo C k o4 o5 h0 h1 h2
      obtain ⟨c, k2, z, c1, c2, c3⟩ := calls_turn K h0 (C := C) (by omega) (d := .int (lo : Int)) (a2 := .pl (.int (n : Int))) (o4 := o4) (o5 := o5)
      obtain ⟨C', k', o4', o5', d1, d2, d3, d4⟩ := ih (lo + 1) (C ++ [c]) k2 (some (.int (lo : Int))) (some z) c2 (by simp; omega) (fun x hx => by
        rcases List.mem_append.mp hx with hx | hx
        · exact h2 x hx
        · simp at hx; subst hx; exact c1)
      refine ⟨C', k', o4', o5', by rw [d1]; simp; omega, d2, d3, ?_⟩
      rw [intsFrom, forLoop, c3]
      exact d4
  obtain ⟨C, k', o4, o5, h1, h2, h3, h4⟩ := lp n 0 [] k none none hk (by simp; omega) (by simp)
  refine ⟨C, k', by simpa using h1, h2, h3, ?_⟩
  simp only [sl_none, Int.natCast_zero, List.map_nil] at h4
  unfold clD
  generalize C.map c3D = A at *
  simp [runDef, d_law_calls, r, h4]
end Sw

end
section
set_option maxRecDepth 100000
set_option maxHeartbeats 4000000
namespace Sw
open PySem (PyData Str)
abbrev tm7 : Tm := .ite (.or (.cmp .isn (.var 7) (.cst .none)) (.cmp .lt (.var 15) (.var 7))) (.var 15) (.var 7)
abbrev tm6 : Tm := .ite (.or (.cmp .isn (.var 6) (.cst .none)) (.cmp .lt (.tup (.cs (.var 13) (.cs (.var 12) .nl))) (.var 6))) (.tup (.cs (.var 13) (.cs (.var 12) .nl))) (.var 6)
theorem isNone_ky (a : Ky) : isNone (kyD a) = false := rfl
theorem isNone_ro (a : Ro) : isNone (roD a) = false := rfl
theorem ev7 {cl : Nat → List Ar → Ret} {ρ : Env} {m : Option Ky} {a : Ky} (h7 : ρ[7]? = some (.pl (encO kyD m))) (h15 : ρ[15]? = some (.pl (kyD a))) : (ev cl tm7).v ρ = .ok (.pl (encO kyD (stMin ltK m a))) ρ := by
  cases m with
  | none =>
    have h7 : ρ[7]? = some (.pl .none) := h7
    have e : encO kyD (stMin ltK none a) = kyD a := rfl
    rw [e]
    generalize kyD a = A at *
    simp [h7, h15]
  | some b =>
    have h7 : ρ[7]? = some (.pl (kyD b)) := h7
    have l := lt_ky a b
    have n := isNone_ky b
    have e : encO kyD (stMin ltK (some b) a) = if ltK a b then kyD a else kyD b := by
      show encO kyD (if ltK a b then some a else some b) = _
      split <;> rfl
    rw [e]
    generalize kyD a = A at *
    generalize kyD b = B at *
    cases q : ltK a b <;> simp [h7, h15, l, n, q]
theorem ev6 {cl : Nat → List Ar → Ret} {ρ : Env} {m : Option Ro} {a : Ro} (h6 : ρ[6]? = some (.pl (encO roD m))) (h13 : ρ[13]? = some (.pl (.int a.1))) (h12 : ρ[12]? = some (.pl (tN a.2))) : (ev cl tm6).v ρ = .ok (.pl (encO roD (stMin ltR m a))) ρ := by
  cases m with
  | none =>
    have h6 : ρ[6]? = some (.pl .none) := h6
    have e : encO roD (stMin ltR none a) = roD a := rfl
    rw [e, roD_def]
    generalize tN a.2 = A at *
    simp [h6, h12, h13]
  | some b =>
    have h6 : ρ[6]? = some (.pl (roD b)) := h6
    have l := lt_ro a b
    have n := isNone_ro b
    have e : encO roD (stMin ltR (some b) a) = if ltR a b then roD a else roD b := by
      show encO roD (if ltR a b then some a else some b) = _
      split <;> rfl
    rw [e]
    rw [roD_def a] at *
    generalize tN a.2 = A at *
    generalize roD b = B at *
    cases q : ltR a b <;> simp [h6, h12, h13, l, n, q]
theorem line_lc {cl : Nat → List Ar → Ret} {s q : List Nat} (hq : ∀ x ∈ q, x < s.length) (hz : q.length ≤ 1000) {a0 a1 a2 a3 a4 a5 a6 a7 a9 a10 a11 a12 a13 a15 : Slot} :
    lcAll [14] (lcTurn (.nm 14) (ev cl .nl).t (ev cl e_law_k07_2).v) (ints_ (nI q)) [a0, a1, a2, a3, a4, a5, a6, a7, .pl (lN s), a9, a10, a11, a12, a13, .em, a15] =
      .ok (.fr (ints_ (nI (lineOf s q)))) [a0, a1, a2, a3, a4, a5, a6, a7, .pl (lN s), a9, a10, a11, a12, a13, .em, a15] := by
  have e : ints_ (nI q) = q.map fun k : Nat => PyData.int (k : Int) := by simp [Function.comp_def]
  have e2 : ints_ (nI (lineOf s q)) = q.map fun k : Nat => PyData.int ((s.getD k 0 : Nat) : Int) := by simp [lineOf, Function.comp_def]
  rw [e, e2]
  refine lc_M (ρw := [a0, a1, a2, a3, a4, a5, a6, a7, .pl (lN s), a9, a10, a11, a12, a13, .em, a15]) _ _ _ (by simp) (by simp [SZ]; omega) fun k hk => ?_
  have ix := ixl_int (xs := nI s) (k := k) (by rw [nI_len]; exact hq k hk)
  rw [nI_get] at ix
  show ∃ ρ', lcTurn (.nm 14) (ev cl .nl).t (ev cl e_law_k07_2).v (.int (k : Int)) [a0, a1, a2, a3, a4, a5, a6, a7, .pl (.list (ints_ (nI s))), a9, a10, a11, a12, a13, .em, a15] = _ ∧ wiped ρ' [14] = [a0, a1, a2, a3, a4, a5, a6, a7, .pl (.list (ints_ (nI s))), a9, a10, a11, a12, a13, .em, a15]
  generalize ints_ (nI s) = A at *
  generalize ((s.getD k 0 : Nat) : Int) = z at *
  have ix : atI A (k : Int) = some (.int z) := ix
  exact ⟨_, by simp [e_law_k07_2, ix]; rfl, by simp⟩
theorem k07_turn {cl : Nat → List Ar → Ret} {n : Nat} {W : List (List Int)} {C : List C3} (hn : 1 ≤ n) (CA : ∀ o : List Nat, (∀ x ∈ o, x < n) → cl 166 [.pl (rowsD W), .pl (clD C), .pl (tN o)] = .ok (.pl (oI (baF W C o))) [])
    {s q : List Nat} (hq : ∀ x ∈ q, x < s.length) (hz : q.length ≤ 1000) (hs : ∀ x ∈ lineOf s q, x < n) {w : Option Ro} {m : Option Ky} {a0 a1 a2 : Slot} {o11 o12 o13 o15 : Option D} :
    ∃ o11' o12' o13' o15' : Option D, (forTurn (.nm 11) (ex cl b_law_k07_2) (tN q) [a0, a1, a2, .pl (rowsD W), .pl (.int (n : Int)), .pl (clD C), .pl (encO roD w), .pl (encO kyD m), .pl (lN s), .em, .em, sl o11, sl o12, sl o13, .em, sl o15]) =
      .nx [a0, a1, a2, .pl (rowsD W), .pl (.int (n : Int)), .pl (clD C), .pl (encO roD (stK W C n (w, m) (lineOf s q)).1), .pl (encO kyD (stK W C n (w, m) (lineOf s q)).2), .pl (lN s), .em, .em, sl o11', sl o12', sl o13', .em, sl o15'] := by
  have lc := line_lc (cl := cl) hq hz (a0 := a0) (a1 := a1) (a2 := a2) (a3 := .pl (rowsD W)) (a4 := .pl (.int (n : Int))) (a5 := .pl (clD C)) (a6 := .pl (encO roD w)) (a7 := .pl (encO kyD m)) (a9 := .em) (a10 := .em) (a11 := .pl (tN q)) (a12 := sl o12) (a13 := sl o13) (a15 := sl o15)
  have ca := CA (lineOf s q) hs
  have ll : (lineOf s q).length = q.length := by simp [lineOf]
  unfold stK
  generalize hL : lineOf s q = L at *
  have ln : bfn .len [tN L] = some (.pl (.int (L.length : Nat))) := by rw [blen_tup]; simp
  have sq : seqD (tN q) = some (ints_ (nI q)) := rfl
  cases qb : baF W C L with
  | none =>
    rw [qb] at ca
    refine ⟨some (tN q), some (tN L), some .none, o15, ?_⟩
    rw [show tN L = .tuple (ints_ (nI L)) from rfl] at *
    generalize tN q = Q at *
    generalize lN s = S at *
    generalize ints_ (nI q) = Iq at *
    generalize ints_ (nI L) = Il at *
    generalize rowsD W = A at *
    generalize clD C = B at *
    generalize encO roD w = w6 at *
    generalize encO kyD m = w7 at *
    simp [b_law_k07_2, sq, lc, ca]
  | some b =>
    rw [qb] at ca
    have e7 := ev7 (cl := cl) (m := m) (a := (-(L.length : Int), (b, L))) (ρ := [a0, a1, a2, .pl (rowsD W), .pl (.int (n : Int)), .pl (clD C), .pl (encO roD w), .pl (encO kyD m), .pl (lN s), .em, .em, .pl (tN q), .pl (tN L), .pl (.int b), .em, .pl (kyD (-(L.length : Int), (b, L)))]) rfl rfl
    have e6 := ev6 (cl := cl) (m := w) (a := (b, L)) (ρ := [a0, a1, a2, .pl (rowsD W), .pl (.int (n : Int)), .pl (clD C), .pl (encO roD w), .pl (encO kyD (stMin ltK m (-(L.length : Int), (b, L)))), .pl (lN s), .em, .em, .pl (tN q), .pl (tN L), .pl (.int b), .em, .pl (kyD (-(L.length : Int), (b, L)))]) rfl rfl rfl
    refine ⟨some (tN q), some (tN L), some (.int b), some (kyD (-(L.length : Int), (b, L))), ?_⟩
    rw [kyD_def] at *
    dsimp only at *
    generalize hX7 : tm7 = X7 at e7
    generalize hX6 : tm6 = X6 at e6
    unfold tm7 at hX7
    unfold tm6 at hX6
    generalize encO kyD (stMin ltK m (-(L.length : Int), (b, L))) = v7 at *
    generalize hw6 : encO roD w = w6 at *
    generalize encO kyD m = w7 at *
    have cn : ((L.length : Int) = (n : Int) - 1) ↔ L.length = n - 1 := by omega
    by_cases c : L.length = n - 1
    · rw [if_pos c]
      have c1 := cn.mpr c
      generalize encO roD (stMin ltR w (b, L)) = v6 at *
      generalize (L.length : Int) = l at *
      rw [show tN L = .tuple (ints_ (nI L)) from rfl] at *
      generalize tN q = Q at *
      generalize lN s = S at *
      generalize ints_ (nI q) = Iq at *
      generalize ints_ (nI L) = Il at *
      generalize rowsD W = A at *
      generalize clD C = B at *
      simp only [sl_some] at *
      subst c1
      simp [b_law_k07_2, sq, lc, ca, ln, hX7, hX6, e7, e6, -blen_tup]
    · rw [if_neg c]
      have c1 : ¬ ((L.length : Int) = (n : Int) - 1) := fun z => c (cn.mp z)
      rw [hw6]
      generalize (L.length : Int) = l at *
      rw [show tN L = .tuple (ints_ (nI L)) from rfl] at *
      generalize tN q = Q at *
      generalize lN s = S at *
      generalize ints_ (nI q) = Iq at *
      generalize ints_ (nI L) = Il at *
      generalize rowsD W = A at *
      generalize clD C = B at *
      simp only [sl_some] at *
      simp [b_law_k07_2, sq, lc, ca, ln, hX7, e7, c1, -blen_tup]
end Sw

end
section
set_option maxRecDepth 100000
set_option maxHeartbeats 4000000
namespace Sw
open PySem (PyData Str)
theorem k07_tail {n : Nat} {a0 a1 a2 a3 a4 a5 a6 a7 a8 a11 a12 a13 a14 a15 : Slot} : (ex (call G (n + 20)) t_law_k07_9 [a0, a1, a2, a3, a4, a5, a6, a7, a8, .em, .em, a11, a12, a13, a14, a15]).val = some (.pl (.bool true)) := by kernel_rfl
end Sw

end
section
set_option maxRecDepth 100000
set_option maxHeartbeats 4000000
namespace Sw
open PySem (PyData Str)
theorem so_tN {o : List Nat} (h : o.length ≤ 1000) : soD (tN o) = true ∧ dep (tN o) ≤ 2 := by
  refine ⟨?_, ?_⟩
  · show (soDs (ints_ (nI o)) && decide ((ints_ (nI o)).length ≤ 1000000)) = true
    rw [soDs_ints]
    simp
    omega
  · have := deps_ints (nI o)
    simp only [tN, dep]
    omega
theorem so_pair {x : Int} {o : List Nat} (h : o.length ≤ 1000) ⦃m : Nat⦄ (hm : 3 ≤ m) : call G m 21 [.pl (.tuple [.int x, tN o]), .pl (.tuple [.int x, tN o])] = .ok (.pl (.bool true)) [] := by
  obtain ⟨h1, h2⟩ := so_tN h
  refine so_e ?_ ?_
  · show (soDs [.int x, tN o] && decide ([PyData.int x, tN o].length ≤ 1000000)) = true
    show ((soD (.int x) && (soD (tN o) && true)) && true) = true
    rw [h1]
    rfl
  · have : dep (.tuple [.int x, tN o]) = max (dep (.int x)) (max (dep (tN o)) 0) + 1 := by simp [dep, deps]
    have d1 : dep (.int x) = 1 := rfl
    omega
structure K07 (cl : Nat → List Ar → Ret) (R : D) : Prop where
  lw : ∀ k, 0 ≤ k → ∃ (n : Nat) (W : List (List Int)) (k' : Int), 1 ≤ n ∧ n ≤ 5 ∧ WaysArg n W ∧ 0 ≤ k' ∧ cl 164 [.pl R, .io [.int k], .pl (.int 5)] = .ok (.pl (rowsD W)) [[.int k']]
  lc : ∀ k (n : Nat), 0 ≤ k → n ≤ 100 → ∃ (C : List C3) (k' : Int), C.length = n ∧ (∀ c ∈ C, C3Ok c) ∧ 0 ≤ k' ∧ cl 165 [.pl R, .io [.int k], .pl (.int (n : Int))] = .ok (.pl (clD C)) [[.int k']]
  ls : ∀ xs : List Nat, xs.length ≤ 10 → cl 63 [.pl (.list (ints_ (nI xs)))] = .ok (.pl (.list ((subs xs).map lN))) []
  lp : ∀ n : Nat, n ≤ 6 → cl 163 [.pl (.int (n : Int))] = .ok (.pl (.list ((perms n).map tN))) []
  ca : ∀ (n : Nat) W C (o : List Nat), 1 ≤ n → WaysOk n W → C.length = n → (∀ x ∈ o, x < n) → cl 166 [.pl (rowsD W), .pl (clD C), .pl (tN o)] = .ok (.pl (oI (baF W C o))) []
  Hh : ∀ k X, 0 ≤ k → X.length ≤ 1000 → (∀ r ∈ X, r.length ≤ 1000) → ∃ h : VT, RowsV h.d X ∧ cl 26 [.pl R, .io [.int k], .pl (rowsD X)] = .ok h [[.int (k + 1)]]
  ro : ∀ v w (n : Nat) W C, 1 ≤ n ∧ n ≤ 6 → RowsV v W → RowsV w (C.map c3L) → WaysArg n W → (∀ c ∈ C, C3Ok c) → C.length = n → ∃ fo : List Ro, (∀ p, Rnd W C n p ↔ p ∈ fo) ∧ cl 161 [.pl v, .pl w] = .ok (.pl (encO roD (firstR fo ((n : Int) - 1)))) []
  mo : ∀ v w (n : Nat) W C, 1 ≤ n ∧ n ≤ 6 → RowsV v W → RowsV w (C.map c3L) → WaysArg n W → (∀ c ∈ C, C3Ok c) → C.length = n → ∃ (fo : List Ro) (M : Int) (p : Ro), (∀ p, Rnd W C n p ↔ p ∈ fo) ∧ (∀ q ∈ fo, (q.2.length : Int) ≤ M) ∧ firstR fo M = some p ∧ cl 162 [.pl v, .pl w] = .ok (.pl (.tuple [.int M, tN p.2])) []
  S : ∀ (x : Int) (o : List Nat), o.length ≤ 1000 → cl 21 [.pl (.tuple [.int x, tN o]), .pl (.tuple [.int x, tN o])] = .ok (.pl (.bool true)) []
  Sn : cl 21 [.pl .none, .pl .none] = .ok (.pl (.bool true)) []
  tl : ∀ {a0 a1 a2 a3 a4 a5 a6 a7 a8 a11 a12 a13 a14 a15 : Slot}, (ex cl t_law_k07_9 [a0, a1, a2, a3, a4, a5, a6, a7, a8, .em, .em, a11, a12, a13, a14, a15]).val = some (.pl (.bool true))
theorem k07_cl {row : List Int} (hr : RowOk row) {n : Nat} : K07 (call G (n + 20)) (.list (ints_ row)) where
  lw := fun k h => law_ways_e hr h (by omega)
  lc := fun k j h h2 => law_calls_e hr h h2 (by omega)
  ls := fun xs h => law_setsG_e h (by omega)
  lp := fun n h => law_perms_e h (by omega)
  ca := fun n W C o h0 h1 h2 h3 => law_called_at_e h0 h1 h2 h3 (by omega)
  Hh := fun k X h0 h1 h2 => ⟨_, by rw [hndV_d]; exact rows_hnd, handed_rows hr h0 (by omega) (fun r hr => by have := h2 r hr; omega) (by omega)⟩
  ro := fun v w n W C h0 h1 h2 h3 h4 h5 => round_of_e h0 h1 h2 h3 h4 h5 (by omega)
  mo := fun v w n W C h0 h1 h2 h3 h4 h5 => most_e h0 h1 h2 h3 h4 h5 (by omega)
  S := fun x o h => so_pair h (by omega)
  Sn := so_e rfl (by simp [dep])
  tl := k07_tail
/-- one set, all its orders -/
theorem k07_inner {cl : Nat → List Ar → Ret} {n : Nat} {W : List (List Int)} {C : List C3} (hn : 1 ≤ n) (CA : ∀ o : List Nat, (∀ x ∈ o, x < n) → cl 166 [.pl (rowsD W), .pl (clD C), .pl (tN o)] = .ok (.pl (oI (baF W C o))) [])
    {s : List Nat} {a0 a1 a2 : Slot} : ∀ (Q : List (List Nat)) (w : Option Ro) (m : Option Ky) (o11 o12 o13 o15 : Option D), (∀ q ∈ Q, (∀ x ∈ q, x < s.length) ∧ q.length ≤ 1000 ∧ ∀ x ∈ lineOf s q, x < n) →
    ∃ o11' o12' o13' o15' : Option D, forLoop (forTurn (.nm 11) (ex cl b_law_k07_2)) (Q.map tN) [a0, a1, a2, .pl (rowsD W), .pl (.int (n : Int)), .pl (clD C), .pl (encO roD w), .pl (encO kyD m), .pl (lN s), .em, .em, sl o11, sl o12, sl o13, .em, sl o15] =
      .nx [a0, a1, a2, .pl (rowsD W), .pl (.int (n : Int)), .pl (clD C), .pl (encO roD ((Q.map (lineOf s)).foldl (stK W C n) (w, m)).1), .pl (encO kyD ((Q.map (lineOf s)).foldl (stK W C n) (w, m)).2), .pl (lN s), .em, .em, sl o11', sl o12', sl o13', .em, sl o15']
  | [], w, m, o11, o12, o13, o15, _ => ⟨o11, o12, o13, o15, rfl⟩
  | q :: Q, w, m, o11, o12, o13, o15, h => by
    obtain ⟨h1, h2, h3⟩ := h q List.mem_cons_self
    obtain ⟨p11, p12, p13, p15, t⟩ := k07_turn (W := W) (C := C) hn CA h1 h2 h3 (w := w) (m := m) (a0 := a0) (a1 := a1) (a2 := a2) (o11 := o11) (o12 := o12) (o13 := o13) (o15 := o15)
    obtain ⟨o11', o12', o13', o15', r⟩ := k07_inner hn CA Q (stK W C n (w, m) (lineOf s q)).1 (stK W C n (w, m) (lineOf s q)).2 p11 p12 p13 p15 (fun x hx => h x (List.mem_cons_of_mem _ hx))
    refine ⟨o11', o12', o13', o15', ?_⟩
    rw [List.map_cons, forLoop, t, List.map_cons, List.foldl_cons]
    exact r
theorem k07_outer {cl : Nat → List Ar → Ret} {R : D} (K : K07 cl R) {n : Nat} {W : List (List Int)} {C : List C3} (hn : 1 ≤ n ∧ n ≤ 5) (hW : WaysOk n W) (hC : C.length = n)
    {a0 a1 a2 : Slot} : ∀ (Ss : List (List Nat)) (w : Option Ro) (m : Option Ky) (o8 o11 o12 o13 o15 : Option D), (∀ s ∈ Ss, s.Sublist (List.range' 1 (n - 1))) →
    ∃ o8' o11' o12' o13' o15' : Option D, forLoop (forTurn (.nm 8) (ex cl b_law_k07_1)) (Ss.map lN) [a0, a1, a2, .pl (rowsD W), .pl (.int (n : Int)), .pl (clD C), .pl (encO roD w), .pl (encO kyD m), sl o8, .em, .em, sl o11, sl o12, sl o13, .em, sl o15] =
      .nx [a0, a1, a2, .pl (rowsD W), .pl (.int (n : Int)), .pl (clD C), .pl (encO roD ((Ss.flatMap fun s => (perms s.length).map (lineOf s)).foldl (stK W C n) (w, m)).1), .pl (encO kyD ((Ss.flatMap fun s => (perms s.length).map (lineOf s)).foldl (stK W C n) (w, m)).2), sl o8', .em, .em, sl o11', sl o12', sl o13', .em, sl o15']
  | [], w, m, o8, o11, o12, o13, o15, _ => ⟨o8, o11, o12, o13, o15, rfl⟩
  | s :: Ss, w, m, o8, o11, o12, o13, o15, h => by
    have hs := h s List.mem_cons_self
    have nd : s.Nodup := hs.nodup List.nodup_range'
    have sl4 : s.length ≤ 4 := by
      have := hs.length_le
      rw [List.length_range'] at this
      omega
    have lp := K.lp s.length (by omega)
    have ln : bfn .len [lN s] = some (.pl (.int (s.length : Nat))) := by rw [blen_lst]; simp
    obtain ⟨p11, p12, p13, p15, t⟩ := k07_inner (cl := cl) (W := W) (C := C) hn.1 (fun o ho => K.ca n W C o hn.1 hW hC ho) (s := s) (a0 := a0) (a1 := a1) (a2 := a2) (perms s.length) w m o11 o12 o13 o15 (fun q hq => by
      obtain ⟨q1, q2, q3⟩ := mem_perms.mp hq
      refine ⟨q3, by omega, fun x hx => ?_⟩
      have := List.mem_range'_1.mp (hs.subset ((lineOf_ok nd hq).2 x hx))
      omega)
    obtain ⟨o8', o11', o12', o13', o15', r⟩ := k07_outer K hn hW hC (a0 := a0) (a1 := a1) (a2 := a2) Ss (((perms s.length).map (lineOf s)).foldl (stK W C n) (w, m)).1 (((perms s.length).map (lineOf s)).foldl (stK W C n) (w, m)).2 (some (lN s)) p11 p12 p13 p15 (fun x hx => h x (List.mem_cons_of_mem _ hx))
    refine ⟨o8', o11', o12', o13', o15', ?_⟩
    rw [List.map_cons, forLoop, List.flatMap_cons, List.foldl_append, ← r]
    generalize ((perms s.length).map (lineOf s)).foldl (stK W C n) (w, m) = st at *
    have tr : forTurn (.nm 8) (ex cl b_law_k07_1) (lN s) [a0, a1, a2, .pl (rowsD W), .pl (.int (n : Int)), .pl (clD C), .pl (encO roD w), .pl (encO kyD m), sl o8, .em, .em, sl o11, sl o12, sl o13, .em, sl o15] =
        .nx [a0, a1, a2, .pl (rowsD W), .pl (.int (n : Int)), .pl (clD C), .pl (encO roD st.1), .pl (encO kyD st.2), .pl (lN s), .em, .em, sl p11, sl p12, sl p13, .em, sl p15] := by
      generalize encO roD st.1 = v6 at *
      generalize encO kyD st.2 = v7 at *
      generalize encO roD w = w6 at *
      generalize encO kyD m = w7 at *
      generalize (perms s.length).map tN = Pm at *
      generalize lN s = S at *
      generalize rowsD W = A at *
      generalize clD C = B at *
      simp [b_law_k07_1, ln, lp, t, -blen_lst]
    rw [tr]
    rfl
theorem k07_main {cl : Nat → List Ar → Ret} {R : D} (K : K07 cl R) {a0 : Slot} {N B Cc : Env → Prop} :
    WF (ex cl t_law_k07_1 [a0, .pl R, .em, .em, .em, .em, .em, .em, .em, .em, .em, .em, .em, .em, .em, .em]) N B Cc (fun v _ => v = .pl (.bool true)) := by
  obtain ⟨n, W, k1, n1, n2, hW, hk1, e1⟩ := K.lw 0 (by omega)
  obtain ⟨C, k2, hC, hC3, hk2, e2⟩ := K.lc k1 n hk1 (by omega)
  have ln : bfn .len [rowsD W] = some (.pl (.int (n : Int))) := by rw [rowsD, blen_tup, List.length_map, hW.ok.len]
  have r := fun ρ => rng_2 (ρ := ρ) (i := 1) (j := (n : Int)) (by omega) (by omega)
  rw [show ((n : Int) - 1).toNat = n - 1 by omega] at r
  have er : intsFrom 1 (n - 1) = (List.range' 1 (n - 1)).map fun k : Nat => PyData.int (k : Int) := intsFrom_rng (n - 1) 1
  have es : ints_ (nI (List.range' 1 (n - 1))) = (List.range' 1 (n - 1)).map fun k : Nat => PyData.int (k : Int) := by simp [Function.comp_def]
  rw [er] at r
  have ls := K.ls (List.range' 1 (n - 1)) (by rw [List.length_range']; omega)
  rw [es] at ls
  have lc : lcAll [14] (lcTurn (.nm 14) (ev cl .nl).t (ev cl e_law_k07_1).v) ((List.range' 1 (n - 1)).map fun k : Nat => PyData.int (k : Int)) [a0, .pl R, .ow [.int k2], .pl (rowsD W), .pl (.int (n : Int)), .pl (clD C), .pl .none, .pl .none, .em, .em, .em, .em, .em, .em, .em, .em] =
      .ok (.fr ((List.range' 1 (n - 1)).map fun k : Nat => PyData.int (k : Int))) [a0, .pl R, .ow [.int k2], .pl (rowsD W), .pl (.int (n : Int)), .pl (clD C), .pl .none, .pl .none, .em, .em, .em, .em, .em, .em, .em, .em] :=
    lc_M (ρw := [a0, .pl R, .ow [.int k2], .pl (rowsD W), .pl (.int (n : Int)), .pl (clD C), .pl .none, .pl .none, .em, .em, .em, .em, .em, .em, .em, .em]) _ _ _ (by simp) (by rw [List.length_range']; simp [SZ]; omega) fun k _ => ⟨_, by simp [e_law_k07_1]; rfl, by simp⟩
  obtain ⟨o8, o11, o12, o13, o15, lp⟩ := k07_outer K (W := W) (C := C) ⟨n1, n2⟩ hW.ok hC (a0 := a0) (a1 := .pl R) (a2 := .ow [.int k2]) (subs (List.range' 1 (n - 1))) none none none none none none none (fun s hs => (mem_subs _).mp hs)
  rw [show ((subs (List.range' 1 (n - 1))).flatMap fun s => (perms s.length).map (lineOf s)) = lines n from rfl] at lp
  -- the package's answers
  have hb : (C.map c3L).length ≤ 1000 := by rw [List.length_map]; omega
  have hb2 : ∀ r ∈ C.map c3L, r.length ≤ 1000 := fun r hr => by
    obtain ⟨c, _, rfl⟩ := List.mem_map.mp hr
    simp [c3L]
  have hb3 : ∀ r ∈ W, r.length ≤ 1000 := fun r hr => by rw [hW.ok.row r hr]; omega
  obtain ⟨h1, q1, f1⟩ := K.Hh k2 W hk2 (by rw [hW.ok.len]; omega) hb3
  obtain ⟨h2, q2, f2⟩ := K.Hh (k2 + 1) (C.map c3L) (by omega) hb hb2
  obtain ⟨h3, q3, f3⟩ := K.Hh (k2 + 1 + 1) W (by omega) (by rw [hW.ok.len]; omega) hb3
  obtain ⟨h4, q4, f4⟩ := K.Hh (k2 + 1 + 1 + 1) (C.map c3L) (by omega) hb hb2
  rw [← clD_rows] at f2 f4
  obtain ⟨fo, g1, g2⟩ := K.ro h1.d h2.d n W C ⟨n1, by omega⟩ q1 q2 hW hC3 hC
  obtain ⟨fo2, M, p, g3, g4, g5, g6⟩ := K.mo h3.d h4.d n W C ⟨n1, by omega⟩ q3 q4 hW hC3 hC
  rw [whole_ok n1 g1, most_ok g3 g4 g5] at lp
  have hp : Rnd W C n p := (g3 p).mpr (List.mem_filter.mp (fmin_spec ord_ro g5).1).1
  have small : ∀ q : Ro, Rnd W C n q → q.2.length ≤ 1000 := fun q hq => by
    have := sub_len7 (l := q.2) (k := List.range n) hq.ok.nd fun x hx => List.mem_range.mpr (hq.ok.rg x hx).2
    rw [List.length_range] at this
    omega
  have s1 : cl 21 [.pl (encO roD (firstR fo ((n : Int) - 1))), .pl (encO roD (firstR fo ((n : Int) - 1)))] = .ok (.pl (.bool true)) [] := by
    cases q : firstR fo ((n : Int) - 1) with
    | none => exact K.Sn
    | some x => exact K.S x.1 x.2 (small x ((g1 x).mpr (List.mem_filter.mp (fmin_spec ord_ro q).1).1))
  have s2 := K.S M p.2 (small p hp)
  have key : encO kyD (some (-M, p)) = .tuple [.int (-M), .int p.1, tN p.2] := rfl
  rw [key] at lp
  have nn : encO roD none = .none := rfl
  have nk : encO kyD none = .none := rfl
  rw [nn, nk] at lp
  simp only [sl_none] at lp
  have tl := fun a0 a1 a2 a3 a4 a5 a6 a7 a8 a11 a12 a13 a14 a15 => WF_val (K.tl (a0 := a0) (a1 := a1) (a2 := a2) (a3 := a3) (a4 := a4) (a5 := a5) (a6 := a6) (a7 := a7) (a8 := a8) (a11 := a11) (a12 := a12) (a13 := a13) (a14 := a14) (a15 := a15)) (N := N) (B := B) (C := Cc) (R := fun v _ => v = .pl (.bool true)) fun _ => rfl
  generalize encO roD (firstR fo ((n : Int) - 1)) = w6 at *
  generalize ((List.range' 1 (n - 1)).map fun k : Nat => PyData.int (k : Int)) = Rg at *
  generalize (subs (List.range' 1 (n - 1))).map lN = Sb at *
  generalize tN p.2 = O at *
  generalize hA : rowsD W = A at *
  generalize hB : clD C = Bq at *
  have nm : - -M = M := by omega
  simp [t_law_k07_1, t_law_k07_2, t_law_k07_3, t_law_k07_4, t_law_k07_5, t_law_k07_6, t_law_k07_7, t_law_k07_8, e1, ln, e2, r, lc, ls, lp, f1, f2, f3, f4, g2, g6, s1, s2, nm]
  exact tl _ _ _ _ _ _ _ _ _ _ _ _ _ _
theorem k07_ok {n : Nat} (ns : List Int) : call G (n + 21) 167 [.pl (.list (ns.map .int))] = .ok (.pl (.bool true)) [] := by
  rw [g_law_k07]
  obtain ⟨row, hr, e⟩ := numbers_e ns (m := n + 20) (by omega)
  have K := k07_cl hr (n := n)
  generalize call G (n + 20) = cl at *
  refine run_w rfl rfl rfl ?_
  simp [d_law_k07, e]
  exact k07_main K
end Sw

end
section
set_option maxRecDepth 100000
set_option maxHeartbeats 0
namespace SWEEPWRIGHT_K07_WHOLE_CALLS
open Sw PySem
def ids : List (Nat × PySem.Str) := [(154, ("leaves" : PySem.Str)), (155, ("back_at" : PySem.Str)), (156, ("rounds_in_time" : PySem.Str)), (157, ("first_back" : PySem.Str)), (46, ("need" : PySem.Str)), (0, ("is_whole" : PySem.Str)), (1, ("need_whole" : PySem.Str)), (2, ("is_row" : PySem.Str)), (3, ("need_row" : PySem.Str)), (47, ("need_wholes" : PySem.Str)), (4, ("is_tuple_of" : PySem.Str)), (5, ("need_tuples" : PySem.Str)), (158, ("need_ways" : PySem.Str)), (159, ("need_calls" : PySem.Str)), (160, ("need_both" : PySem.Str)), (161, ("round_of" : PySem.Str)), (162, ("most_calls" : PySem.Str)), (21, ("_law_so" : PySem.Str)), (22, ("_law_numbers" : PySem.Str)), (23, ("_law_draw" : PySem.Str)), (24, ("_law_take" : PySem.Str)), (25, ("_law_listed" : PySem.Str)), (26, ("_law_handed" : PySem.Str)), (27, ("_law_pick" : PySem.Str)), (63, ("_law_sets" : PySem.Str)), (163, ("_law_perms" : PySem.Str)), (29, ("_law_told" : PySem.Str)), (164, ("_law_ways" : PySem.Str)), (165, ("_law_calls" : PySem.Str)), (166, ("_law_called_at" : PySem.Str)), (167, ("law" : PySem.Str))]
theorem defs_eq : defs = local_ G ids := by kernel_rfl
abbrev d_law : Df := l_law
theorem keeps (V : ∀ ns : List Int, ns.length ≤ 63 → (∀ z ∈ ns, Builtin.Int.intBits z ≤ 1048576) → call G 40 167 [.pl (.list (ns.map .int))] = .ok (.pl (.bool true)) []) : Keeps M 40 L := fun ns h1 h2 => by
  show call defs 40 L _ = _
  rw [defs_eq]
  exact (local_ok (G := G) (ids := ids) (by kernel_rfl) 40 L _ 167 (by rfl)).trans (V ns h1 h2)
theorem ends (V : Keeps M 40 L) : PySem.Challenge.rw_sweepwright_k07_whole_calls.Holds := by
  open PySem.W PySem.Calls PyProof.Rows in (
  w_on
  o_law
  refine HandSHeadRun.head_imp (r := R) (q := qv) (H := hook M la) (ob := seen M la) (M := 40000) (loose := names) (d := lawDef) (kwd := []) seen_eq run (by kernel_rfl) (by kernel_rfl) (by kernel_rfl) (by rfl) (by first | assumption | decide +kernel) (by decide +kernel) ⟨rfl, rfl, rfl, rfl, rfl, by decide +kernel⟩ ?hw ?hc
  case hw => w_witness2
  case hc => exact law_walk (n := 40) (L := L) (M := M) (la := la) (df := d_law) (x := "script") rfl (by kernel_rfl) ⟨rfl, by decide, by decide⟩ rfl (by kernel_rfl) (by decide +kernel) rfl rfl V)
end SWEEPWRIGHT_K07_WHOLE_CALLS

end
set_option maxRecDepth 100000 in
set_option maxHeartbeats 0 in
theorem PySem.Challenge.cw_sweepwright_k07_whole_calls_holds : PySem.Challenge.rw_sweepwright_k07_whole_calls.Holds := by
  exact SWEEPWRIGHT_K07_WHOLE_CALLS.ends (SWEEPWRIGHT_K07_WHOLE_CALLS.keeps fun ns _ _ => Sw.k07_ok (n := 19) ns)
