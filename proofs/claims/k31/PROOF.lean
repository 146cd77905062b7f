import PyProof.Rows.All
import Wide.All
import OpenK.AllK
import Wide.FinOn
import HandS.ForMost
import HandS.Walk
import HandS.Zip
import HandS.Conv
import HandS.Wide
import HandS.Deep
import HandS.TupAny
import HandS.TupMul
import HandS.Defaults
import HandS.Flow
import HandS.Style
import HandS.Codes
import KE.DataEq
import KE.DataIsa
import KE.GoesEnum
import KE.GoesZip
import KE.GoesMore
import KE.KRevSl
import HandS.IsInst
import HandS.SetFor
import HandS.Strs
import PyProof.Rows.FactsN_isinstance
import PyProof.Rows.IntBool
import HandS.TupSets
import HandS.DictComp
import HandS.ReplaceLit
import HandS.ReplaceList
import KE.KStateDown
import Lean
import HandS.Base
import HandS.Call
import HandS.Ends
import HandS.More
import HandS.Words
import HandS.WordsExc
import HandS.Head0
import HandS.Head1
import HandS.Head2
import HandS.HeadEnd
import HandS.HeadHook1
import HandS.HeadHook2
import PySem.Challenge.RW_slitstack_k31_whole_what_a_sheet_may_be
set_option Elab.async false
set_option linter.all false
/-! DatD: data, and what a Python construct does with data (weakest preconditions over data; no model here). -/
namespace Dat

/-- data; `own n`: the n-th object of the store at hand; `scr`: the law's script (read only) -/
inductive D where
  | non | bl (b : Bool) | int (i : Int) | str (s : List Nat) | tup (xs : List D) | lst (xs : List D) | own (n : Nat) | scr (ns : List Int)

abbrev DKey := Int ⊕ List Nat
def keyD : DKey → D
  | .inl i => .int i
  | .inr s => .str s

/-- an object that may change -/
inductive MO where
  | lst (xs : List D)
  | dct (kvs : List (DKey × D))
  | dtt (kvs : List (List DKey × D))
  | dead

abbrev Env := List (Option D)
abbrev Sto := List MO
abbrev DK := D → Sto → Prop
abbrev DTE := Env → Sto → DK → Prop
abbrev DTT := Env → Sto → (Bool → Sto → Prop) → Prop
abbrev DTA := Env → Sto → (List D → Sto → Prop) → Prop
abbrev DTO := Env → Sto → (Option Int → Sto → Prop) → Prop
structure DEnds where
  nx : Env → Sto → Prop
  rt : DK
  bk : Env → Sto → Prop := fun _ _ => False
  ct : Env → Sto → Prop := fun _ _ => False
abbrev DTS := DEnds → Env → Sto → Prop
abbrev DTG := D → Env → Sto → (Env → Sto → Prop) → Prop
/-- what a def does with its arguments -/
abbrev FSp := List D → Sto → DK → Prop

abbrev line : Nat := 16777216

/-! ### equality, depth -/
mutual
def D.eqv : D → D → Bool
  | .non, .non => true
  | .bl a, .bl b => a == b
  | .bl a, .int j => (if a then 1 else 0) == j
  | .int i, .bl b => i == (if b then 1 else 0)
  | .int i, .int j => i == j
  | .str a, .str b => a == b
  | .lst xs, .lst ys => D.eqvAll xs ys
  | .tup xs, .tup ys => D.eqvAll xs ys
  | _, _ => false
def D.eqvAll : List D → List D → Bool
  | [], [] => true
  | x :: xs, y :: ys => D.eqv x y && D.eqvAll xs ys
  | _, _ => false
end
mutual
def D.dep : D → Nat
  | .lst xs => D.depAll xs + 1
  | .tup xs => D.depAll xs + 1
  | _ => 0
def D.depAll : List D → Nat
  | [] => 0
  | x :: xs => max (D.dep x) (D.depAll xs)
end
mutual
/-- nothing that may change lies within -/
def D.pur : D → Bool
  | .own _ => false
  | .lst xs => D.purAll xs
  | .tup xs => D.purAll xs
  | _ => true
def D.purAll : List D → Bool
  | [] => true
  | x :: xs => D.pur x && D.purAll xs
end
mutual
/-- .. nor the script -/
def D.pln : D → Bool
  | .own _ => false
  | .scr _ => false
  | .lst xs => D.plnAll xs
  | .tup xs => D.plnAll xs
  | _ => true
def D.plnAll : List D → Bool
  | [] => true
  | x :: xs => D.pln x && D.plnAll xs
end
/-- the list or tuple that stands at an object -/
@[reducible] def res (S : Sto) : D → D
  | .own n => match S[n]? with | some (.lst xs) => .lst xs | _ => .own n
  | d => d

/-! ### slots -/
@[reducible] def getE : Env → Nat → Option D
  | [], _ => none
  | o :: _, 0 => o
  | _ :: l, n + 1 => getE l n
@[reducible] def setE : Env → Nat → D → Env
  | [], _, _ => []
  | _ :: l, 0, d => some d :: l
  | o :: l, n + 1, d => o :: setE l n d
@[reducible] def clrE : Env → Nat → Env
  | [], _ => []
  | _ :: l, 0 => none :: l
  | o :: l, n + 1 => o :: clrE l n
theorem getE_eq : ∀ (env : Env) (i : Nat) (d : D), getE env i = some d → env[i]? = some (some d)
  | [], _, _, h => by simp [getE] at h
  | o :: l, 0, d, h => by simp only [getE] at h; simp [h]
  | o :: l, n + 1, d, h => by simp only [getE] at h; simpa using getE_eq l n d h
theorem setE_eq : ∀ (env : Env) (i : Nat) (d : D), setE env i d = env.set i (some d)
  | [], _, _ => rfl
  | o :: l, 0, d => rfl
  | o :: l, n + 1, d => by simp only [setE, List.set_cons_succ, setE_eq l n d]
theorem clrE_eq : ∀ (env : Env) (i : Nat), clrE env i = env.set i none
  | [], _ => rfl
  | o :: l, 0 => rfl
  | o :: l, n + 1 => by simp only [clrE, List.set_cons_succ, clrE_eq l n]

/-! ### names, constants -/
@[reducible] def dVar (i : Nat) : DTE := fun env S k => match getE env i with | some d => k d S | none => False
@[reducible] def dC (d : D) : DTE := fun _ S k => k d S

/-! ### operators -/
abbrev DOp := D → D → Sto → DK → Prop
@[reducible] def dOp (f : DOp) (a b : DTE) : DTE := fun env S k => a env S fun x S1 => b env S1 fun y S2 => f x y S2 k
@[reducible] def oAdd : DOp := fun x y S k => match res S x, res S y with
  | .int i, .int j => k (.int (i + j)) S
  | .str a, .str b => a.length + b.length ≤ line ∧ k (.str (a ++ b)) S
  | .tup a, .tup b => a.length + b.length ≤ line ∧ k (.tup (a ++ b)) S
  | .lst a, .lst b => a.length + b.length ≤ line ∧ k (.lst (a ++ b)) S
  | _, _ => False
@[reducible] def oSub : DOp := fun x y S k => match x, y with
  | .int i, .int j => k (.int (i - j)) S
  | _, _ => False
def MulOk (i j : Int) : Prop := (-(2 ^ 64) < i ∧ i < 2 ^ 64) ∨ (-(2 ^ 64) < j ∧ j < 2 ^ 64) ∨ i.natAbs.log2 + j.natAbs.log2 < 1000000
def repL {α : Type} (k : Nat) (xs : List α) : List α := (List.replicate k xs).flatten
@[reducible] def oMul : DOp := fun x y S k => match res S x, y with
  | .int i, .int j => MulOk i j ∧ k (.int (i * j)) S
  | .str a, .int j => (0 ≤ j ∧ j ≤ 1000 ∧ a.length ≤ 1000) ∧ k (.str (repL j.toNat a)) S
  | .tup a, .int j => (2 ≤ j ∧ j ≤ 1000 ∧ a.length ≤ 1000 ∧ a ≠ []) ∧ k (.tup (repL j.toNat a)) S
  | .lst a, .int j => (0 ≤ j ∧ j ≤ 1000 ∧ a.length ≤ 1000) ∧ k (.lst (repL j.toNat a)) S
  | _, _ => False
@[reducible] def oDiv : DOp := fun x y S k => match x, y with
  | .int i, .int j => (0 < j ∧ j.natAbs.log2 < 9000) ∧ k (.int (i / j)) S
  | _, _ => False
@[reducible] def oMod : DOp := fun x y S k => match x, y with
  | .int i, .int j => 0 < j ∧ k (.int (i % j)) S
  | _, _ => False
@[reducible] def oPow : DOp := fun x y S k => match x, y with
  | .int i, .int j => (0 ≤ j ∧ j ≤ 1000000 ∧ i.natAbs < 2 ^ 64) ∧ k (.int (i ^ j.toNat)) S
  | _, _ => False
def oEq : DOp := fun x y S k => ((res S x).pln = true ∧ (res S y).pln = true ∧ ((res S x).dep ≤ 64 ∨ (res S y).dep ≤ 64)) ∧ k (.bl ((res S x).eqv (res S y))) S
def oNe : DOp := fun x y S k => ((res S x).pln = true ∧ (res S y).pln = true ∧ ((res S x).dep ≤ 64 ∨ (res S y).dep ≤ 64)) ∧ k (.bl (!(res S x).eqv (res S y))) S
/-- the order of tuples of ints -/
def intsD : List D → Option (List Int)
  | [] => some []
  | .int i :: r => (intsD r).map (i :: ·)
  | _ => none
def lexLt : List Int → List Int → Bool
  | [], [] => false
  | [], _ :: _ => true
  | _ :: _, [] => false
  | x :: xs, y :: ys => if x = y then lexLt xs ys else decide (x < y)
@[reducible] def oLt : DOp := fun x y S k => match x, y with
  | .int i, .int j => k (.bl (decide (i < j))) S
  | .tup a, .tup b => match intsD a, intsD b with
    | some ns, some ms => k (.bl (lexLt ns ms)) S
    | _, _ => False
  | _, _ => False
@[reducible] def oLe : DOp := fun x y S k => match x, y with
  | .int i, .int j => k (.bl (decide (i ≤ j))) S
  | _, _ => False
@[reducible] def oGt : DOp := fun x y S k => match x, y with
  | .int i, .int j => k (.bl (decide (j < i))) S
  | _, _ => False
@[reducible] def oGe : DOp := fun x y S k => match x, y with
  | .int i, .int j => k (.bl (decide (j ≤ i))) S
  | _, _ => False
/-- x in y -/
def inD (x y : D) : Bool := match y with
  | .lst ys => ys.any fun z => z.eqv x
  | .tup ys => ys.any fun z => z.eqv x
  | .str b => match x with | .str [c] => decide (c ∈ b) | _ => false
  | _ => false
def InOk (x y : D) : Prop := match y with
  | .lst ys => x.pln = true ∧ D.plnAll ys = true ∧ (x.dep ≤ 64 ∨ D.depAll ys ≤ 64)
  | .tup ys => x.pln = true ∧ D.plnAll ys = true ∧ (x.dep ≤ 64 ∨ D.depAll ys ≤ 64)
  | .str _ => match x with | .str a => a.length = 1 | _ => False
  | _ => False
def oIn : DOp := fun x y S k => InOk x (res S y) ∧ k (.bl (inD x (res S y))) S
def oNotIn : DOp := fun x y S k => InOk x (res S y) ∧ k (.bl (!inD x (res S y))) S
/-- is None, is not None -/
@[reducible] def isNon : D → Bool
  | .non => true
  | _ => false
@[reducible] def dIsN (a : DTE) : DTE := fun env S k => a env S fun x S1 => k (.bl (isNon x)) S1
@[reducible] def dNotN (a : DTE) : DTE := fun env S k => a env S fun x S1 => k (.bl (!isNon x)) S1
@[reducible] def uNeg : D → Sto → DK → Prop := fun x S k => match x with
  | .int i => k (.int (-i)) S
  | _ => False
@[reducible] def dUn (f : D → Sto → DK → Prop) (a : DTE) : DTE := fun env S k => a env S fun x S1 => f x S1 k

/-! ### truth, tests -/
/-- one way or the other -/
@[reducible] def br (b : Bool) (x y : Prop) : Prop := match b with | true => x | false => y
@[reducible] def truD (S : Sto) (x : D) : Option Bool := match res S x with
  | .non => some false
  | .bl b => some b
  | .int i => some (i != 0)
  | .str s => some (!s.isEmpty)
  | .tup xs => some (!xs.isEmpty)
  | .lst xs => some (!xs.isEmpty)
  | _ => none
@[reducible] def onB (o : Option Bool) (k : Bool → Prop) : Prop := match o with | some b => k b | none => False
/-- an expression's truth -/
@[reducible] def tTru (a : DTE) : DTT := fun env S k => a env S fun x S1 => onB (truD S1 x) fun b => k b S1
/-- a value that is a bool -/
@[reducible] def tBl (a : DTE) : DTT := fun env S k => a env S fun x S1 => match x with | .bl b => k b S1 | _ => False
@[reducible] def tAnd (t u : DTT) : DTT := fun env S k => t env S fun b S1 => br b (u env S1 k) (k false S1)
@[reducible] def tOr (t u : DTT) : DTT := fun env S k => t env S fun b S1 => br b (k true S1) (u env S1 k)
@[reducible] def tNot (t : DTT) : DTT := fun env S k => t env S fun b S1 => k (!b) S1
/-- and, or, not as values -/
@[reducible] def dAnd (a b : DTE) : DTE := fun env S k => a env S fun x S1 => onB (truD S1 x) fun c => br c (b env S1 k) (k x S1)
@[reducible] def dOr (a b : DTE) : DTE := fun env S k => a env S fun x S1 => onB (truD S1 x) fun c => br c (k x S1) (b env S1 k)
@[reducible] def dNot (t : DTT) : DTE := fun env S k => t env S fun b S1 => k (.bl (!b)) S1
@[reducible] def dIf (t : DTT) (a b : DTE) : DTE := fun env S k => t env S fun c S1 => br c (a env S1 k) (b env S1 k)
/-- a op b op c, ints -/
@[reducible] def dChain (f g : DOp) (a b c : DTE) : DTE := fun env S k => a env S fun x S1 => b env S1 fun y S2 => f x y S2 fun r S3 =>
  match r with | .bl q => br q (c env S3 fun z S4 => g y z S4 k) (k (.bl false) S3) | _ => False

/-! ### arguments, displays -/
@[reducible] def aNil : DTA := fun _ S k => k [] S
@[reducible] def aCons (a : DTE) (t : DTA) : DTA := fun env S k => a env S fun x S1 => t env S1 fun xs S2 => k (x :: xs) S2
@[reducible] def dTup (t : DTA) : DTE := fun env S k => t env S fun xs S1 => xs.length ≤ line ∧ k (.tup xs) S1
/-- a new list (its items) as a value -/
@[reducible] def dNew (t : DTA) : DTE := fun env S k => t env S fun xs S1 => k (.lst xs) S1
/-- [a, b, ..] -/
@[reducible] def nLst (t : DTA) : DTA := fun env S k => t env S fun xs S1 => xs.length ≤ line ∧ k xs S1

/-! ### subscripts, slices -/
def ixN (n : Nat) (i : Int) : Option Nat :=
  if 0 ≤ i then (if i < n then some i.toNat else none) else if -(n : Int) ≤ i then some (i + n).toNat else none
def atI {α : Type} (xs : List α) (i : Int) : Option α := (ixN xs.length i).bind fun j => xs[j]?
@[reducible] def onO {α : Type} (o : Option α) (k : α → Prop) : Prop := match o with | some a => k a | none => False
@[reducible] def oIdx : DOp := fun x y S k => match res S x, y with
  | .lst xs, .int i => onO (atI xs i) fun d => k d S
  | .tup xs, .int i => onO (atI xs i) fun d => k d S
  | .str s, .int i => onO (atI s i) fun c => k (.str [c]) S
  | .scr ns, .int i => onO (atI ns i) fun n => k (.int n) S
  | _, _ => False
def sIx (n d : Nat) : Option Int → Nat
  | none => d
  | some v => if v < 0 then (v + (n : Int)).toNat else min v.toNat n
def cut {α : Type} (xs : List α) (lo hi : Option Int) : List α := (xs.drop (sIx xs.length 0 lo)).take (sIx xs.length xs.length hi - sIx xs.length 0 lo)
@[reducible] def pNo : DTO := fun _ S k => k none S
@[reducible] def pSo (a : DTE) : DTO := fun env S k => a env S fun x S1 => match x with | .int i => k (some i) S1 | _ => False
@[reducible] def sliced (x : D) (lo hi : Option Int) (S : Sto) (k : DK) : Prop := match res S x with
  | .lst xs => k (.lst (cut xs lo hi)) S
  | .tup xs => k (.tup (cut xs lo hi)) S
  | .str s => k (.str (cut s lo hi)) S
  | _ => False
@[reducible] def dSl (a : DTE) (lo hi : DTO) : DTE := fun env S k => a env S fun x S1 => lo env S1 fun l S2 => hi env S2 fun h S3 => sliced x l h S3 k

/-! ### built-in calls -/
abbrev DCB := List D → Sto → DK → Prop
@[reducible] def dCB (f : DCB) (t : DTA) : DTE := fun env S k => t env S fun xs S1 => f xs S1 k
@[reducible] def cAbs : DCB := fun xs S k => match xs with | [.int i] => k (.int (if i < 0 then -i else i)) S | _ => False
@[reducible] def cMax2 : DCB := fun xs S k => match xs with | [.int i, .int j] => k (.int (if j > i then j else i)) S | _ => False
@[reducible] def cMin2 : DCB := fun xs S k => match xs with | [.int i, .int j] => k (.int (if j < i then j else i)) S | _ => False
@[reducible] def cInt : DCB := fun xs S k => match xs with | [.int i] => k (.int i) S | [.bl b] => k (.int (if b then 1 else 0)) S | _ => False
@[reducible] def lenD (S : Sto) (x : D) : Option Nat := match res S x with
  | .lst xs => some xs.length
  | .tup xs => some xs.length
  | .str s => some s.length
  | .scr ns => some ns.length
  | _ => none
@[reducible] def cLen : DCB := fun xs S k => match xs with | [x] => onO (lenD S x) fun n => k (.int (n : Nat)) S | _ => False
def blsD : List D → Option (List Bool)
  | [] => some []
  | .bl b :: r => (blsD r).map (b :: ·)
  | _ => none
@[reducible] def cAll : DCB := fun xs S k => match xs with
  | [x] => match res S x with | .lst ds => onO (blsD ds) fun bs => k (.bl (bs.all id)) S | _ => False
  | _ => False
@[reducible] def cAny : DCB := fun xs S k => match xs with
  | [x] => match res S x with | .lst ds => onO (blsD ds) fun bs => k (.bl (bs.any id)) S | _ => False
  | _ => False
/-- tuple(x) -/
@[reducible] def cTup : DCB := fun xs S k => match xs with
  | [x] => match res S x with | .lst ds => k (.tup ds) S | .tup ds => k (.tup ds) S | _ => False
  | _ => False
/-- isinstance(x, T) -/
inductive Cl where | int | bool | str | tuple | list
def isC : Cl → D → Bool
  | .int, .int _ => true
  | .int, .bl _ => true
  | .bool, .bl _ => true
  | .str, .str _ => true
  | .tuple, .tup _ => true
  | .list, .lst _ => true
  | _, _ => false
/-- an object whose kind is known -/
def kindly : D → Bool
  | .own _ => false
  | .scr _ => false
  | _ => true
@[reducible] def dIsa (a : DTE) (cs : List Cl) : DTE := fun env S k => a env S fun x S1 => kindly (res S1 x) = true ∧ k (.bl (cs.any fun c => isC c (res S1 x))) S1
/-- sep.join(xs) -/
def strsD : List D → Option (List (List Nat))
  | [] => some []
  | .str s :: r => (strsD r).map (s :: ·)
  | _ => none
def joinS (sep : List Nat) : List (List Nat) → List Nat
  | [] => []
  | [s] => s
  | s :: r => s ++ sep ++ joinS sep r
@[reducible] def dJoin (a b : DTE) : DTE := fun env S k => a env S fun x S1 => match x with
  | .str sep => b env S1 fun y S2 => (match res S2 y with
    | .lst ds => onO (strsD ds) fun ss => ((ss.map (·.length)).sum + ss.length * sep.length ≤ line) ∧ k (.str (joinS sep ss)) S2
    | _ => False)
  | _ => False

/-! ### what is walked -/
abbrev DTI := DTA
@[reducible] def itemsD : D → Option (List D)
  | .lst ds => some ds
  | .tup ds => some ds
  | .str s => some (s.map fun c => .str [c])
  | _ => none
@[reducible] def iVal (a : DTE) : DTI := fun env S k => a env S fun x S1 => onO (itemsD x) fun ds => k ds S1
def rngD (lo hi : Int) : List D := (List.range (hi - lo).toNat).map fun i => .int (lo + (i : Nat))
@[reducible] def iRng1 (a : DTE) : DTI := fun env S k => a env S fun x S1 => match x with
  | .int n => (-(2 ^ 62) ≤ n ∧ n < 2 ^ 62) ∧ k (rngD 0 n) S1
  | _ => False
@[reducible] def iRng2 (a b : DTE) : DTI := fun env S k => a env S fun x S1 => b env S1 fun y S2 => match x, y with
  | .int m, .int n => (-(2 ^ 62) ≤ m ∧ m < 2 ^ 62 ∧ -(2 ^ 62) ≤ n ∧ n < 2 ^ 62) ∧ k (rngD m n) S2
  | _, _ => False

/-! ### targets -/
@[reducible] def gName (i : Nat) : DTG := fun d env S k => k (setE env i d) S
abbrev DTGs := List D → Env → Sto → (Env → Sto → Prop) → Prop
@[reducible] def gNil : DTGs := fun ds env S k => match ds with | [] => k env S | _ => False
@[reducible] def gCons (g : DTG) (r : DTGs) : DTGs := fun ds env S k => match ds with | d :: ds => g d env S fun e1 S1 => r ds e1 S1 k | [] => False
@[reducible] def gTup (n : Nat) (r : DTGs) : DTG := fun d env S k => match d with | .tup xs => xs.length = n ∧ r xs env S k | _ => False

/-! ### list comprehensions -/
@[reducible] def wipeE (env : Env) : List Nat → Env
  | [] => env
  | v :: vs => clrE (wipeE env vs) v
def lcT (g : DTG) (tt : DTT) (te : DTE) (env : Env) : List D → List D → Sto → (List D → Sto → Prop) → Prop
  | [], acc, S, k => k acc S
  | d :: ds, acc, S, k => g d env S fun env2 S1 => tt env2 S1 fun b S2 =>
      br b (te env2 S2 fun y S3 => acc.length < line ∧ lcT g tt te env ds (acc ++ [y]) S3 k) (lcT g tt te env ds acc S2 k)
@[reducible] def tYes : DTT := fun _ S k => k true S
@[reducible] def nLc (it : DTI) (g : DTG) (tt : DTT) (te : DTE) (vs : List Nat) : DTA := fun env S k => it env S fun ds S1 => lcT g tt te (wipeE env vs) ds [] S1 k

/-! ### statements -/
@[reducible] def sNext : DTS := fun E env S => E.nx env S
@[reducible] def sSeq (t u : DTS) : DTS := fun E env S => t { E with nx := u E } env S
@[reducible] def sSet (i : Nat) (a : DTE) : DTS := fun E env S => a env S fun d S1 => E.nx (setE env i d) S1
/-- x = a new list that is changed later -/
@[reducible] def sOwn (i : Nat) (t : DTA) : DTS := fun E env S => t env S fun xs S1 => E.nx (setE env i (.own S1.length)) (S1 ++ [.lst xs])
@[reducible] def sAsg (g : DTG) (a : DTE) : DTS := fun E env S => a env S fun d S1 => g d env S1 E.nx
/-- a, b = x, y -/
@[reducible] def sPar (i j : Nat) (a b : DTE) : DTS := fun E env S => a env S fun x S1 => b env S1 fun y S2 => E.nx (setE (setE env i x) j y) S2
@[reducible] def sRet (a : DTE) : DTS := fun E env S => a env S E.rt
/-- return a new list that the caller may change -/
@[reducible] def sRetN (t : DTA) : DTS := fun E env S => t env S fun xs S1 => E.rt (.own S1.length) (S1 ++ [.lst xs])
@[reducible] def sDrop (a : DTE) : DTS := fun E env S => a env S fun _ S1 => E.nx env S1
@[reducible] def sIf (t : DTT) (u v : DTS) : DTS := fun E env S => t env S fun b S1 => br b (u E env S1) (v E env S1)
def forT (g : DTG) (body : DTS) (E : DEnds) : List D → Env → Sto → Prop
  | [], env, S => E.nx env S
  | d :: ds, env, S => g d env S fun env1 S1 => body { nx := forT g body E ds, rt := E.rt, bk := E.nx, ct := forT g body E ds } env1 S1
@[reducible] def sFor (it : DTI) (g : DTG) (body : DTS) : DTS := fun E env S => it env S fun ds S1 => forT g body E ds env S1
def sWhile (t : DTT) (body : DTS) : DTS := fun E env S => ∃ W : Nat → Env → Sto → Prop, (∃ m, W m env S) ∧ ∀ m env S, W m env S →
  t env S fun b S1 =>
    br b (body { nx := fun e s => ∃ m', m' < m ∧ W m' e s, rt := E.rt, bk := E.nx, ct := fun e s => ∃ m', m' < m ∧ W m' e s } env S1) (E.nx env S1)

/-! ### objects that change -/
def stoSet (S : Sto) (n : Nat) (m : MO) : Sto := S.set n m
/-- xs.append(e) -/
@[reducible] def dApp (a b : DTE) : DTE := fun env S k => a env S fun x S1 => match x with
  | .own n => (match S1[n]? with
    | some (.lst _) => b env S1 fun y S2 => (match S2[n]? with | some (.lst xs) => xs.length < line ∧ k .non (S2.set n (.lst (xs ++ [y]))) | _ => False)
    | _ => False)
  | _ => False
/-- xs[i] = e -/
@[reducible] def sStore (o i e : DTE) : DTS := fun E env S => e env S fun v S1 => o env S1 fun x S2 => i env S2 fun y S3 => match x, y with
  | .own n, .int j => (match S3[n]? with | some (.lst xs) => onO (ixN xs.length j) fun q => E.nx env (S3.set n (.lst (xs.set q v))) | _ => False)
  | _, _ => False

/-! ### calls of defs -/
/-- the object's content where it is met -/
def thaw (S : Sto) : D → Option D
  | .own n => match S[n]? with | some (.lst xs) => if D.purAll xs then some (.lst xs) else none | _ => none
  | d => if d.pur then some d else none
/-- .. but not the first object's -/
def thawM (S : Sto) : D → Option D
  | .own 0 => none
  | d => thaw S d
def purKV {κ : Type} : List (κ × D) → Bool
  | [] => true
  | p :: r => p.2.pur && purKV r
def MO.pur : MO → Bool
  | .lst xs => D.purAll xs
  | .dct kvs => purKV kvs
  | .dtt kvs => purKV kvs
  | .dead => true
/-- a call that is handed data alone -/
def callP (F : FSp) (ds : List D) (S : Sto) (k : DK) : Prop := D.purAll ds = true ∧ F ds [] fun d S' => onO (thaw S' d) fun d' => k d' S
@[reducible] def dCall (F : FSp) (t : DTA) : DTE := fun env S k => t env S fun ds S1 => callP F ds S1 k
/-- .. the first argument an object of the store -/
def callM (F : FSp) (ds : List D) (S : Sto) (k : DK) : Prop := match ds with
  | .own n :: rest => D.purAll rest = true ∧ onO S[n]? fun mo => mo.pur = true ∧ F (.own 0 :: rest) [mo] fun d S' =>
      onO S'[0]? fun mo' => mo'.pur = true ∧ onO (thawM S' d) fun d' => k d' (S.set n mo')
  | _ => False
@[reducible] def dCallM (F : FSp) (t : DTA) : DTE := fun env S k => t env S fun ds S1 => callM F ds S1 k
/-- a call whose answer is a new list that is changed later -/
def callN (F : FSp) (ds : List D) (S : Sto) (k : List D → Sto → Prop) : Prop := D.purAll ds = true ∧ F ds [] fun d S' =>
  match d with | .own n => (match S'[n]? with | some (.lst xs) => D.purAll xs = true ∧ k xs S | _ => False) | _ => False
@[reducible] def nCall (F : FSp) (t : DTA) : DTA := fun env S k => t env S fun ds S1 => callN F ds S1 k
/-- .. by keywords alone -/
@[reducible] def dCallK (n : Nat) (g : {α : Type} → List α → List α) (F : FSp) (t : DTA) : DTE := fun env S k => t env S fun ds S1 => ds.length = n ∧ callP F (g ds) S1 k
/-- the slots at a def's entry -/
@[reducible] def entry : Nat → List D → Env
  | 0, ds => ds.map some
  | n + 1, [] => none :: entry n []
  | n + 1, d :: ds => some d :: entry n ds
theorem entry_nil : ∀ n, entry n [] = List.replicate n none
  | 0 => rfl
  | n + 1 => by simp only [entry, entry_nil n, List.replicate_succ]
theorem entry_eq : ∀ (n : Nat) (ds : List D), entry n ds = ds.map some ++ List.replicate (n - ds.length) none
  | 0, ds => by simp [entry]
  | n + 1, [] => by rw [entry_nil]; simp
  | n + 1, d :: ds => by simp only [entry, entry_eq n ds]; simp
/-- what is wanted behind a def's body -/
@[reducible] def bodyK (k : DK) : DEnds := { nx := fun _ S => k .non S, rt := k }

/-! ### pairs -/
@[reducible] def enumD (i : Nat) : List D → List D
  | [] => []
  | d :: ds => .tup [.int (i : Int), d] :: enumD (i + 1) ds
theorem enumD_len : ∀ (ds : List D) (i : Nat), (enumD i ds).length = ds.length
  | [], _ => rfl
  | _ :: ds, i => by simp [enumD, enumD_len ds (i + 1)]
theorem enumD_getA : ∀ (ds : List D) (i j : Nat), (enumD i ds)[j]? = ds[j]?.map fun d => .tup [.int ((i + j : Nat) : Int), d]
  | [], _, _ => by simp [enumD]
  | d :: ds, i, 0 => by simp [enumD]
  | _ :: ds, i, j + 1 => by
    simp only [enumD, List.getElem?_cons_succ]
    rw [enumD_getA ds (i + 1) j]
    have : i + 1 + j = i + (j + 1) := by omega
    rw [this]
theorem enumD_get (ds : List D) (j : Nat) : (enumD 0 ds)[j]? = ds[j]?.map fun d => .tup [.int (j : Int), d] := by
  rw [enumD_getA, Nat.zero_add]
@[reducible] def zipD (a b : List D) : List D := List.zipWith (fun x y => .tup [x, y]) a b
@[reducible] def iEnum (a : DTE) : DTI := fun env S k => a env S fun x S1 => onO (itemsD x) fun ds => k (enumD 0 ds) S1
@[reducible] def iZip (a b : DTE) : DTI := fun env S k => a env S fun x S1 => b env S1 fun y S2 => onO (itemsD x) fun ds => onO (itemsD y) fun es => k (zipD ds es) S2
/-! ### more words -/
/-- list(x): a copy -/
@[reducible] def nCpy (a : DTE) : DTA := fun env S k => a env S fun x S1 => match res S1 x with
  | .lst ds => k ds S1
  | .tup ds => k ds S1
  | _ => False
/-- list(range(n)) -/
@[reducible] def nRng (a : DTE) : DTA := fun env S k => a env S fun x S1 => match x with
  | .int n => (0 ≤ n ∧ n ≤ 1000) ∧ k (rngD 0 n) S1
  | _ => False
/-- s.count(c), c one sign -/
@[reducible] def dCount (a b : DTE) : DTE := fun env S k => a env S fun x S1 => match x with
  | .str s => b env S1 fun y S2 => (match y with
    | .str [c] => k (.int ((s.filter fun d => d == c).length : Nat)) S2
    | _ => False)
  | _ => False
/-- x[::-1] -/
@[reducible] def dRev (a : DTE) : DTE := fun env S k => a env S fun x S1 => match res S1 x with
  | .lst ds => k (.lst ds.reverse) S1
  | .tup ds => k (.tup ds.reverse) S1
  | .str s => k (.str s.reverse) S1
  | _ => False
/-- a call whose last argument is an object of the store -/
def callL (F : FSp) (ds : List D) (S : Sto) (k : DK) : Prop := callM (fun es => F es.reverse) ds.reverse S k
@[reducible] def dCallL (F : FSp) (t : DTA) : DTE := fun env S k => t env S fun ds S1 => callL F ds S1 k
/-- [.. for .. in x], x an object of the store that stays as it is meanwhile -/
def lcO (n : Nat) (all : List D) (g : DTG) (tt : DTT) (te : DTE) (env : Env) : List D → List D → Sto → (List D → Sto → Prop) → Prop
  | [], acc, S, k => S[n]? = some (.lst all) ∧ k acc S
  | d :: ds, acc, S, k => S[n]? = some (.lst all) ∧ g d env S fun env2 S1 => tt env2 S1 fun b S2 =>
      br b (te env2 S2 fun y S3 => acc.length < line ∧ lcO n all g tt te env ds (acc ++ [y]) S3 k) (lcO n all g tt te env ds acc S2 k)
@[reducible] def nLcO (a : DTE) (g : DTG) (tt : DTT) (te : DTE) (vs : List Nat) : DTA := fun env S k => a env S fun x S1 => match x with
  | .own n => (match S1[n]? with | some (.lst all) => lcO n all g tt te (wipeE env vs) all [] S1 k | _ => False)
  | _ => False
/-- x is not True -/
@[reducible] def oNotBl : DOp := fun x y S k => match x, y with
  | .bl a, .bl b => k (.bl (!decide (a = b))) S
  | _, _ => False
@[reducible] def oIsBl : DOp := fun x y S k => match x, y with
  | .bl a, .bl b => k (.bl (decide (a = b))) S
  | _, _ => False
/-- sorted(set(t)), t a tuple of few ints -/
def dSortSet (a : DTE) : DTE := fun env S k => a env S fun x S1 => match x with
  | .tup ds => onO (intsD ds) fun ns => ns.length < 64 ∧ ∀ ms : List Int, ms.Pairwise (· < ·) → (∀ i, i ∈ ms ↔ i ∈ ns) → k (.lst (ms.map D.int)) S1
  | _ => False
/-- x.pop(i), x.insert(i, y) of an object of the store -/
@[reducible] def dPopI (a b : DTE) : DTE := fun env S k => a env S fun x S1 => match x with
  | .own n => (match S1[n]? with
    | some (.lst _) => b env S1 fun y S2 => (match S2[n]?, y with | some (.lst xs), .int i => xs.length ≤ line ∧ onO (ixN xs.length i) fun q => onO xs[q]? fun d => k d (S2.set n (.lst (xs.eraseIdx q))) | _, _ => False)
    | _ => False)
  | _ => False
@[reducible] def dIns (a b c : DTE) : DTE := fun env S k => a env S fun x S1 => match x with
  | .own n => (match S1[n]? with
    | some (.lst _) => b env S1 fun y S2 => c env S2 fun z S3 => (match S3[n]?, y with | some (.lst xs), .int i => (xs.length < line ∧ 0 ≤ i ∧ i < 2 ^ 62) ∧ k .non (S3.set n (.lst (xs.take i.toNat ++ [z] ++ xs.drop i.toNat))) | _, _ => False)
    | _ => False)
  | _ => False
def upC (c : Nat) : Nat := if 97 ≤ c ∧ c ≤ 122 then c - 32 else c
/-- s.upper() of ASCII -/
@[reducible] def dUpper (a : DTE) : DTE := fun env S k => a env S fun x S1 => match x with
  | .str s => (s.length ≤ 1000 ∧ s.all (· < 128) = true) ∧ k (.str (s.map upC)) S1
  | _ => False
/-- x[a:c] = e, x an object of the store, e another list -/
@[reducible] def sSlSet (o lo hi e : DTE) : DTS := fun E env S => e env S fun v S1 => o env S1 fun x S2 => lo env S2 fun y S3 => match y with
  | .int a => hi env S3 fun z S4 => (match x, z, v with
    | .own n, .int c, .lst ys => (match S4[n]? with
      | some (.lst xs) => (0 ≤ a ∧ a ≤ xs.length ∧ a ≤ c ∧ xs.length + ys.length ≤ line) ∧ E.nx env (S4.set n (.lst (xs.take a.toNat ++ ys ++ xs.drop c.toNat)))
      | _ => False)
    | _, _, _ => False)
  | _ => False
/-- a + b, a new list that is changed later -/
@[reducible] def nCat (a b : DTE) : DTA := fun env S k => a env S fun x S1 => b env S1 fun y S2 => match res S2 x, res S2 y with
  | .lst p, .lst q => p.length + q.length ≤ line ∧ k (p ++ q) S2
  | _, _ => False
/-- numbers, truth values among them -/
@[reducible] def numD : D → Option Int
  | .int i => some i
  | .bl b => some (if b then 1 else 0)
  | _ => none
@[reducible] def oAddN : DOp := fun x y S k => match x, y with
  | .int i, .int j => k (.int (i + j)) S
  | .bl a, .int j => k (.int ((if a = true then (1 : Int) else 0) + j)) S
  | _, _ => False
@[reducible] def oSubN : DOp := fun x y S k => match x, y with
  | .int i, .int j => k (.int (i - j)) S
  | .bl a, .int j => k (.int ((if a = true then (1 : Int) else 0) - j)) S
  | .int i, .bl b => k (.int (i - if b = true then (1 : Int) else 0)) S
  | _, _ => False
@[reducible] def oMulN : DOp := fun x y S k => match x, y with
  | .int i, .int j => MulOk i j ∧ k (.int (i * j)) S
  | .int i, .bl b => k (.int (i * if b = true then (1 : Int) else 0)) S
  | _, _ => False
end Dat
set_option Elab.async false
set_option linter.all false
set_option maxRecDepth 100000
set_option maxHeartbeats 1000000
/-! DatA: how data lies in the abstract heap; what a step keeps; the soundness of an expression's data reading. -/
namespace Dat
open PySem PySem.Spec PyProof.Rows L2

def strV (s : List Nat) : V := .str ⟨s.toArray⟩
/-- the script, or any list that is read only: never an object of ours -/
def ScrOk (K : PySem.W.Frag) (mu : Addr → Prop) (H : Hp) (a : Addr) (ns : List Int) : Prop :=
  (Rd H a (.lst (ns.map V.int)) ∧ ¬ mu a) ∨ ∀ H', SqL K H' a (ns.map V.int)

mutual
def Rep (K : PySem.W.Frag) (mu : Addr → Prop) (ads : List Addr) (H : Hp) : D → V → Prop
  | .non, v => v = .non
  | .bl b, v => v = .bl b
  | .int i, v => v = .int i
  | .str s, v => v = strV s ∧ s.length ≤ sizeLine
  | .tup ds, v => ∃ a vs, v = .ref a ∧ H a = some (.tup vs) ∧ ¬ mu a ∧ RepL K mu ads H ds vs
  | .lst ds, v => ∃ a vs, v = .ref a ∧ H a = some (.lst vs) ∧ ¬ mu a ∧ RepL K mu ads H ds vs
  | .own n, v => ∃ a, ads[n]? = some a ∧ v = .ref a
  | .scr ns, v => ∃ a, v = .ref a ∧ ScrOk K mu H a ns
def RepL (K : PySem.W.Frag) (mu : Addr → Prop) (ads : List Addr) (H : Hp) : List D → List V → Prop
  | [], vs => vs = []
  | d :: ds, vs => ∃ v r, vs = v :: r ∧ Rep K mu ads H d v ∧ RepL K mu ads H ds r
end

def keyV : DKey → Key
  | .inl i => .inl i
  | .inr s => .inr ⟨s.toArray⟩
def RepKV {κ ι : Type} (f : κ → ι) (K : PySem.W.Frag) (mu : Addr → Prop) (ads : List Addr) (H : Hp) : List (κ × D) → List (ι × V) → Prop
  | [], vs => vs = []
  | p :: ds, vs => ∃ v r, vs = (f p.1, v) :: r ∧ Rep K mu ads H p.2 v ∧ RepKV f K mu ads H ds r

def MoOk (K : PySem.W.Frag) (mu : Addr → Prop) (ads : List Addr) (H : Hp) (a : Addr) : MO → Prop
  | .lst ds => ∃ vs, H a = some (.lst vs) ∧ RepL K mu ads H ds vs
  | .dct kvs => ∃ vs, H a = some (.dK vs) ∧ RepKV keyV K mu ads H kvs vs
  | .dtt kvs => ∃ vs, H a = some (.dT vs) ∧ RepKV (List.map keyV) K mu ads H kvs vs
  | .dead => True

/-- the heap at a def's entry, the objects of its callers' that it may change, the callers' other objects that may change -/
structure Gh where
  H0 : Hp
  W : List Addr
  mu0 : Addr → Prop
abbrev mu (G : Gh) (ads : List Addr) : Addr → Prop := fun a => G.mu0 a ∨ a ∈ ads

structure Cur (K : PySem.W.Frag) (G : Gh) (ads : List Addr) (S : Sto) (H : Hp) : Prop where
  len : S.length = ads.length
  nd : ads.Nodup
  base : ∀ b o, G.H0 b = some o → b ∉ G.W → H b = some o
  fresh : ∀ a ∈ ads, a ∈ G.W ∨ G.H0 a = none
  trk : ∀ a, mu G ads a → ∃ o, H a = some o
  apart : ∀ a, G.mu0 a → a ∉ ads
  wsub : ∀ a ∈ G.W, a ∈ ads
  obj : ∀ (n : Nat) (mo : MO), S[n]? = some mo → ∃ a, ads[n]? = some a ∧ MoOk K (mu G ads) ads H a mo

/-- what any step keeps -/
structure Evo (ads : List Addr) (H : Hp) (ads' : List Addr) (H' : Hp) : Prop where
  more : ∃ m, ads' = ads ++ m ∧ ∀ a ∈ m, H a = none
  frame : ∀ b o, H b = some o → b ∉ ads → H' b = some o
  there : ∀ a ∈ ads, (∃ o, H a = some o) → ∃ o, H' a = some o

theorem Evo.refl (ads : List Addr) (H : Hp) : Evo ads H ads H := ⟨⟨[], by simp, fun a h => nomatch h⟩, fun _ _ h _ => h, fun _ _ h => h⟩
theorem Evo.trans {a0 a1 a2 : List Addr} {H H1 H2 : Hp} (e : Evo a0 H a1 H1) (f : Evo a1 H1 a2 H2) : Evo a0 H a2 H2 := by
  obtain ⟨⟨m, rfl, hm⟩, fr, th⟩ := e
  obtain ⟨⟨n, rfl, hn⟩, fr2, th2⟩ := f
  have key : ∀ b o, H b = some o → b ∉ a0 → b ∉ a0 ++ m := fun b o h hb q => by
    rcases List.mem_append.mp q with q | q
    · exact hb q
    · rw [hm b q] at h; cases h
  refine ⟨⟨m ++ n, by simp, fun a ha => ?_⟩, fun b o h hb => fr2 b o (fr b o h hb) (key b o h hb), fun a ha h => th2 a (List.mem_append_left _ ha) (th a ha h)⟩
  rcases List.mem_append.mp ha with q | q
  · exact hm a q
  · have h1 := hn a q
    cases hH : H a with
    | none => rfl
    | some o =>
      by_cases hin : a ∈ a0
      · obtain ⟨o', ho'⟩ := th a hin ⟨o, hH⟩
        rw [ho'] at h1; cases h1
      · rw [fr a o hH hin] at h1; cases h1
/-- nothing that stood has changed -/
def Keeps (H H' : Hp) : Prop := ∀ b o, H b = some o → H' b = some o
theorem Keeps.refl (H : Hp) : Keeps H H := fun _ _ h => h
theorem Keeps.trans {H H1 H2 : Hp} (a : Keeps H H1) (b : Keeps H1 H2) : Keeps H H2 := fun x o h => b x o (a x o h)
theorem Keeps.new {H : Hp} {p : Addr} {o : HO} (h : H p = none) : Keeps H (upd H p o) := fun a u e => by
  rw [upd_ne (ne_of_none e h)]
  exact e
theorem Keeps.evo {H H' : Hp} (k : Keeps H H') (ads : List Addr) : Evo ads H ads H' := ⟨⟨[], by simp, fun a h => nomatch h⟩, fun b o h _ => k b o h, fun a _ ⟨o, h⟩ => ⟨o, k a o h⟩⟩

section
variable {K : PySem.W.Frag} {G : Gh} {ads ads' : List Addr} {S S' : Sto} {H H' : Hp}
theorem mu_back (e : Evo ads H ads' H') {a : Addr} {o : HO} (ha : H a = some o) (hm : ¬ mu G ads a) : ¬ mu G ads' a := by
  obtain ⟨⟨m, rfl, h⟩, _, _⟩ := e
  rintro (q | q)
  · exact hm (.inl q)
  · rcases List.mem_append.mp q with q | q
    · exact hm (.inr q)
    · rw [h a q] at ha; cases ha
theorem scr_evo (e : Evo ads H ads' H') {a : Addr} {ns : List Int} (h : ScrOk K (mu G ads) H a ns) : ScrOk K (mu G ads') H' a ns := by
  rcases h with ⟨h | ⟨o, h⟩, hm⟩ | h
  · exact .inl ⟨.inl (e.frame _ _ h fun q => hm (.inr q)), mu_back e h hm⟩
  · exact .inl ⟨.inr ⟨o, e.frame _ _ h fun q => hm (.inr q)⟩, mu_back e h hm⟩
  · exact .inr h
mutual
theorem rep_evo (e : Evo ads H ads' H') : ∀ (d : D) (v : V), Rep K (mu G ads) ads H d v → Rep K (mu G ads') ads' H' d v
  | .non, v, h => by simp only [Rep] at h ⊢; exact h
  | .bl b, v, h => by simp only [Rep] at h ⊢; exact h
  | .int i, v, h => by simp only [Rep] at h ⊢; exact h
  | .str s, v, h => by simp only [Rep] at h ⊢; exact h
  | .tup ds, v, h => by
    simp only [Rep] at h ⊢
    obtain ⟨a, vs, rfl, h1, h2, h3⟩ := h
    exact ⟨a, vs, rfl, e.frame _ _ h1 fun q => h2 (.inr q), mu_back e h1 h2, repL_evo e ds vs h3⟩
  | .lst ds, v, h => by
    simp only [Rep] at h ⊢
    obtain ⟨a, vs, rfl, h1, h2, h3⟩ := h
    exact ⟨a, vs, rfl, e.frame _ _ h1 fun q => h2 (.inr q), mu_back e h1 h2, repL_evo e ds vs h3⟩
  | .own n, v, h => by
    simp only [Rep] at h ⊢
    obtain ⟨a, h1, rfl⟩ := h
    obtain ⟨⟨m, rfl, _⟩, _, _⟩ := e
    exact ⟨a, by rw [List.getElem?_append_left (List.getElem?_eq_some_iff.mp h1).1]; exact h1, rfl⟩
  | .scr ns, v, h => by
    simp only [Rep] at h ⊢
    obtain ⟨a, rfl, h1⟩ := h
    exact ⟨a, rfl, scr_evo e h1⟩
theorem repL_evo (e : Evo ads H ads' H') : ∀ (ds : List D) (vs : List V), RepL K (mu G ads) ads H ds vs → RepL K (mu G ads') ads' H' ds vs
  | [], vs, h => by simp only [RepL] at h ⊢; exact h
  | d :: ds, vs, h => by
    simp only [RepL] at h ⊢
    obtain ⟨v, r, rfl, h1, h2⟩ := h
    exact ⟨v, r, rfl, rep_evo e d v h1, repL_evo e ds r h2⟩
end
theorem repKV_evo {κ ι : Type} {f : κ → ι} (e : Evo ads H ads' H') : ∀ (ds : List (κ × D)) (vs : List (ι × V)), RepKV f K (mu G ads) ads H ds vs → RepKV f K (mu G ads') ads' H' ds vs
  | [], vs, h => by simp only [RepKV] at h ⊢; exact h
  | d :: ds, vs, h => by
    simp only [RepKV] at h ⊢
    obtain ⟨v, r, rfl, h1, h2⟩ := h
    exact ⟨v, r, rfl, rep_evo e d.2 v h1, repKV_evo e ds r h2⟩
/-- an object's content through a step that leaves the object itself -/
theorem mo_evo (e : Evo ads H ads' H') {a : Addr} {mo : MO} (ha : H' a = H a) (h : MoOk K (mu G ads) ads H a mo) : MoOk K (mu G ads') ads' H' a mo := by
  cases mo with
  | lst ds => obtain ⟨vs, h1, h2⟩ := h; exact ⟨vs, ha.trans h1, repL_evo e _ _ h2⟩
  | dct kvs => obtain ⟨vs, h1, h2⟩ := h; exact ⟨vs, ha.trans h1, repKV_evo e _ _ h2⟩
  | dtt kvs => obtain ⟨vs, h1, h2⟩ := h; exact ⟨vs, ha.trans h1, repKV_evo e _ _ h2⟩
  | dead => trivial
theorem Cur.keeps (c : Cur K G ads S H) (k : Keeps H H') : Cur K G ads S H' :=
  ⟨c.len, c.nd, fun b o h hb => k b o (c.base b o h hb), c.fresh, fun a h => let ⟨o, q⟩ := c.trk a h; ⟨o, k a o q⟩, c.apart, c.wsub, fun n mo h => by
    obtain ⟨a, h1, h2⟩ := c.obj n mo h
    obtain ⟨o, q⟩ := c.trk a (.inr (List.mem_of_getElem? h1))
    exact ⟨a, h1, mo_evo (k.evo ads) ((k a o q).trans q.symm) h2⟩⟩
theorem Cur.nomu (c : Cur K G ads S H) {p : Addr} (h : H p = none) : ¬ mu G ads p := fun q => by
  obtain ⟨o, e⟩ := c.trk p q
  rw [e] at h; cases h
theorem Cur.none0 (c : Cur K G ads S H) {p : Addr} (h : H p = none) : G.H0 p = none := by
  cases q : G.H0 p with
  | none => rfl
  | some o =>
    by_cases hw : p ∈ G.W
    · exact absurd (.inr (c.wsub p hw)) (c.nomu h)
    · rw [c.base p o q hw] at h; cases h
/-- a new object is pushed -/
theorem Cur.push (c : Cur K G ads S H) {p : Addr} {mo : MO} (hp : H p = none) (k : Keeps H H') {o : HO} (ho : H' p = some o) (hm : MoOk K (mu G (ads ++ [p])) (ads ++ [p]) H' p mo) : Cur K G (ads ++ [p]) (S ++ [mo]) H' := by
  have hn := c.nomu hp
  have hp0 := c.none0 hp
  have e : Evo ads H (ads ++ [p]) H' := ⟨⟨[p], rfl, fun a ha => by simp at ha; subst ha; exact hp⟩, fun b o h _ => k b o h, fun a _ ⟨o, h⟩ => ⟨o, k a o h⟩⟩
  refine ⟨by simp [c.len], ?_, fun b o h hb => k b o (c.base b o h hb), fun a ha => ?_, fun a ha => ?_, fun a ha q => ?_, fun a ha => List.mem_append_left _ (c.wsub a ha), fun n m h => ?_⟩
  · rw [List.nodup_append]
    exact ⟨c.nd, by simp, fun a ha b hb => by simp at hb; subst hb; intro q; subst q; exact hn (.inr ha)⟩
  · rcases List.mem_append.mp ha with q | q
    · exact c.fresh a q
    · simp at q; subst q; exact .inr hp0
  · rcases ha with q | q
    · obtain ⟨o, z⟩ := c.trk a (.inl q); exact ⟨o, k a o z⟩
    · rcases List.mem_append.mp q with q | q
      · obtain ⟨o, z⟩ := c.trk a (.inr q); exact ⟨o, k a o z⟩
      · simp at q; subst q; exact ⟨o, ho⟩
  · rcases List.mem_append.mp q with q | q
    · exact c.apart a ha q
    · simp at q; subst q; exact hn (.inl ha)
  · rw [List.getElem?_append] at h
    split at h
    · obtain ⟨a, h1, h2⟩ := c.obj n m h
      obtain ⟨o, q⟩ := c.trk a (.inr (List.mem_of_getElem? h1))
      exact ⟨a, by rw [List.getElem?_append_left (List.getElem?_eq_some_iff.mp h1).1]; exact h1, mo_evo e ((k a o q).trans q.symm) h2⟩
    · rename_i hlt
      have h0 : n - S.length = 0 := by
        cases hz : n - S.length with
        | zero => rfl
        | succ z => rw [hz] at h; simp at h
      rw [h0] at h
      simp at h
      subst h
      refine ⟨p, ?_, hm⟩
      have hl := c.len
      rw [show n = ads.length by omega]
      simp
theorem evo_push {p : Addr} (hp : H p = none) (k : Keeps H H') : Evo ads H (ads ++ [p]) H' := ⟨⟨[p], rfl, fun a ha => by simp at ha; subst ha; exact hp⟩, fun b o h _ => k b o h, fun a _ ⟨o, h⟩ => ⟨o, k a o h⟩⟩
theorem nodup_at {N : List Addr} (hN : N.Nodup) {i j : Nat} {x : Addr} (a : N[i]? = some x) (b : N[j]? = some x) : i = j := by
  obtain ⟨h1, e1⟩ := List.getElem?_eq_some_iff.mp a
  obtain ⟨h2, e2⟩ := List.getElem?_eq_some_iff.mp b
  exact (List.getElem_inj hN).mp (e1.trans e2.symm)
/-- an object is changed -/
theorem evo_set {a : Addr} {o : HO} (ha : a ∈ ads) : Evo ads H ads (upd H a o) := ⟨⟨[], by simp, fun a h => nomatch h⟩, fun b u h hb => by
  have : b ≠ a := fun q => hb (q ▸ ha)
  rw [upd_ne this]; exact h, fun b _ ⟨u, h⟩ => by
  by_cases e : b = a
  · subst e; exact ⟨o, upd_same⟩
  · exact ⟨u, by rw [upd_ne e]; exact h⟩⟩
theorem Cur.set (c : Cur K G ads S H) {n : Nat} {a : Addr} {o : HO} {mo : MO} (ha : ads[n]? = some a) (hm : MoOk K (mu G ads) ads (upd H a o) a mo) : Cur K G ads (S.set n mo) (upd H a o) := by
  have hin := List.mem_of_getElem? ha
  have e : Evo ads H ads (upd H a o) := evo_set hin
  refine ⟨by simp [c.len], c.nd, fun b u h hb => ?_, c.fresh, fun b hb => ?_, c.apart, c.wsub, fun j m h => ?_⟩
  · have : b ≠ a := fun q => by
      subst q
      rcases c.fresh b hin with z | z
      · exact hb z
      · rw [z] at h; cases h
    rw [upd_ne this]; exact c.base b u h hb
  · obtain ⟨u, z⟩ := c.trk b hb
    by_cases q : b = a
    · subst q; exact ⟨o, upd_same⟩
    · exact ⟨u, by rw [upd_ne q]; exact z⟩
  · by_cases hj : j = n
    · subst hj
      have hl : j < S.length := by rw [c.len]; exact (List.getElem?_eq_some_iff.mp ha).1
      rw [List.getElem?_set_self hl] at h
      cases h
      exact ⟨a, ha, hm⟩
    · rw [List.getElem?_set_ne (Ne.symm hj)] at h
      obtain ⟨b, h1, h2⟩ := c.obj j m h
      refine ⟨b, h1, mo_evo e ?_ h2⟩
      have : b ≠ a := fun q => by
        subst q
        exact hj (nodup_at c.nd h1 ha)
      exact upd_ne this

/-! ### lists of data -/
theorem RepL.length {mu : Addr → Prop} : ∀ {ds : List D} {vs : List V}, RepL K mu ads H ds vs → vs.length = ds.length
  | [], vs, h => by simp only [RepL] at h; subst h; rfl
  | d :: ds, vs, h => by
    simp only [RepL] at h
    obtain ⟨v, r, rfl, _, h2⟩ := h
    simp [RepL.length h2]
theorem RepL.get {mu : Addr → Prop} : ∀ {ds : List D} {vs : List V} {i : Nat} {d : D}, RepL K mu ads H ds vs → ds[i]? = some d → ∃ v, vs[i]? = some v ∧ Rep K mu ads H d v
  | [], vs, _, _, _, h => by simp at h
  | d :: ds, vs, i, x, h, hi => by
    simp only [RepL] at h
    obtain ⟨v, r, rfl, h1, h2⟩ := h
    cases i with
    | zero => simp at hi; subst hi; exact ⟨v, rfl, h1⟩
    | succ i => simp at hi; obtain ⟨w, q1, q2⟩ := RepL.get h2 hi; exact ⟨w, by simpa using q1, q2⟩
theorem RepL.getV {mu : Addr → Prop} {ds : List D} {vs : List V} {i : Nat} {v : V} (h : RepL K mu ads H ds vs) (hi : vs[i]? = some v) : ∃ d, ds[i]? = some d ∧ Rep K mu ads H d v := by
  have hl := h.length
  have hlt : i < ds.length := by rw [← hl]; exact (List.getElem?_eq_some_iff.mp hi).1
  obtain ⟨w, q1, q2⟩ := RepL.get h (List.getElem?_eq_getElem hlt)
  rw [hi] at q1; cases q1
  exact ⟨_, List.getElem?_eq_getElem hlt, q2⟩
theorem RepL.app {mu : Addr → Prop} : ∀ {ds es : List D} {vs ws : List V}, RepL K mu ads H ds vs → RepL K mu ads H es ws → RepL K mu ads H (ds ++ es) (vs ++ ws)
  | [], es, vs, ws, h, h2 => by simp only [RepL] at h; subst h; exact h2
  | d :: ds, es, vs, ws, h, h2 => by
    simp only [RepL] at h
    obtain ⟨v, r, rfl, h1, h3⟩ := h
    simp only [List.cons_append, RepL]
    exact ⟨v, r ++ ws, rfl, h1, RepL.app h3 h2⟩
theorem RepL.one {mu : Addr → Prop} {d : D} {v : V} (h : Rep K mu ads H d v) : RepL K mu ads H [d] [v] := by
  simp only [RepL]; exact ⟨v, [], rfl, h, rfl⟩
theorem RepL.nil {mu : Addr → Prop} : RepL K mu ads H [] [] := by simp only [RepL]
theorem RepL.cons {mu : Addr → Prop} {d : D} {v : V} {ds : List D} {vs : List V} (h : Rep K mu ads H d v) (h2 : RepL K mu ads H ds vs) : RepL K mu ads H (d :: ds) (v :: vs) := by
  simp only [RepL]; exact ⟨v, vs, rfl, h, h2⟩
theorem RepL.take {mu : Addr → Prop} : ∀ {ds : List D} {vs : List V} (n : Nat), RepL K mu ads H ds vs → RepL K mu ads H (ds.take n) (vs.take n)
  | _, _, 0, _ => by simp only [List.take_zero, RepL]
  | [], vs, n + 1, h => by simp only [RepL] at h; subst h; simp only [List.take_nil, RepL]
  | d :: ds, vs, n + 1, h => by
    simp only [RepL] at h
    obtain ⟨v, r, rfl, h1, h2⟩ := h
    exact .cons h1 (RepL.take n h2)
theorem RepL.drop {mu : Addr → Prop} : ∀ {ds : List D} {vs : List V} (n : Nat), RepL K mu ads H ds vs → RepL K mu ads H (ds.drop n) (vs.drop n)
  | _, _, 0, h => h
  | [], vs, n + 1, h => by simp only [RepL] at h; subst h; simp only [List.drop_nil, RepL]
  | d :: ds, vs, n + 1, h => by
    simp only [RepL] at h
    obtain ⟨v, r, rfl, h1, h2⟩ := h
    exact RepL.drop n h2
theorem RepL.set {mu : Addr → Prop} {d : D} {v : V} (hd : Rep K mu ads H d v) : ∀ {ds : List D} {vs : List V} (n : Nat), RepL K mu ads H ds vs → RepL K mu ads H (ds.set n d) (vs.set n v)
  | [], vs, n, h => by simp only [RepL] at h; subst h; simp only [List.set_nil, RepL]
  | x :: ds, vs, 0, h => by
    simp only [RepL] at h
    obtain ⟨w, r, rfl, h1, h2⟩ := h
    exact .cons hd h2
  | x :: ds, vs, n + 1, h => by
    simp only [RepL] at h
    obtain ⟨w, r, rfl, h1, h2⟩ := h
    exact .cons h1 (RepL.set hd n h2)
theorem RepL.reverse {mu : Addr → Prop} : ∀ {ds : List D} {vs : List V}, RepL K mu ads H ds vs → RepL K mu ads H ds.reverse vs.reverse
  | [], vs, h => by simp only [RepL] at h; subst h; exact .nil
  | d :: ds, vs, h => by
    simp only [RepL] at h
    obtain ⟨v, r, rfl, h1, h2⟩ := h
    rw [List.reverse_cons, List.reverse_cons]
    exact .app (RepL.reverse h2) (.one h1)
theorem RepL.rep {mu : Addr → Prop} {ds : List D} {vs : List V} (h : RepL K mu ads H ds vs) : ∀ n : Nat, RepL K mu ads H (repL n ds) (List.replicate n vs).flatten
  | 0 => .nil
  | n + 1 => by
    unfold repL
    rw [List.replicate_succ, List.flatten_cons, List.replicate_succ, List.flatten_cons]
    exact .app h (RepL.rep h n)
theorem RepL.ints {mu : Addr → Prop} : ∀ {ds : List D} {vs : List V} {ns : List Int}, RepL K mu ads H ds vs → intsD ds = some ns → vs = ns.map V.int
  | [], vs, ns, h, hn => by simp only [RepL] at h; simp only [intsD] at hn; cases hn; exact h
  | .int i :: ds, vs, ns, h, hn => by
    simp only [RepL, Rep] at h
    obtain ⟨v, r, rfl, rfl, h2⟩ := h
    simp only [intsD] at hn
    cases hq : intsD ds with
    | none => rw [hq] at hn; cases hn
    | some ms => rw [hq] at hn; cases hn; simp [RepL.ints h2 hq]
  | .non :: ds, _, _, _, hn => by simp [intsD] at hn
  | .bl _ :: ds, _, _, _, hn => by simp [intsD] at hn
  | .str _ :: ds, _, _, _, hn => by simp [intsD] at hn
  | .tup _ :: ds, _, _, _, hn => by simp [intsD] at hn
  | .lst _ :: ds, _, _, _, hn => by simp [intsD] at hn
  | .own _ :: ds, _, _, _, hn => by simp [intsD] at hn
  | .scr _ :: ds, _, _, _, hn => by simp [intsD] at hn
theorem RepL.bls {mu : Addr → Prop} : ∀ {ds : List D} {vs : List V} {bs : List Bool}, RepL K mu ads H ds vs → blsD ds = some bs → vs = bs.map V.bl
  | [], vs, bs, h, hn => by simp only [RepL] at h; simp only [blsD] at hn; cases hn; exact h
  | .bl b :: ds, vs, bs, h, hn => by
    simp only [RepL, Rep] at h
    obtain ⟨v, r, rfl, rfl, h2⟩ := h
    simp only [blsD] at hn
    cases hq : blsD ds with
    | none => rw [hq] at hn; cases hn
    | some ms => rw [hq] at hn; cases hn; simp [RepL.bls h2 hq]
  | .non :: ds, _, _, _, hn => by simp [blsD] at hn
  | .int _ :: ds, _, _, _, hn => by simp [blsD] at hn
  | .str _ :: ds, _, _, _, hn => by simp [blsD] at hn
  | .tup _ :: ds, _, _, _, hn => by simp [blsD] at hn
  | .lst _ :: ds, _, _, _, hn => by simp [blsD] at hn
  | .own _ :: ds, _, _, _, hn => by simp [blsD] at hn
  | .scr _ :: ds, _, _, _, hn => by simp [blsD] at hn
theorem RepL.strs {mu : Addr → Prop} : ∀ {ds : List D} {vs : List V} {ss : List (List Nat)}, RepL K mu ads H ds vs → strsD ds = some ss → vs = ss.map strV
  | [], vs, bs, h, hn => by simp only [RepL] at h; simp only [strsD] at hn; cases hn; exact h
  | .str b :: ds, vs, bs, h, hn => by
    simp only [RepL, Rep] at h
    obtain ⟨v, r, rfl, ⟨rfl, _⟩, h2⟩ := h
    simp only [strsD] at hn
    cases hq : strsD ds with
    | none => rw [hq] at hn; cases hn
    | some ms => rw [hq] at hn; cases hn; simp [RepL.strs h2 hq]
  | .non :: ds, _, _, _, hn => by simp [strsD] at hn
  | .int _ :: ds, _, _, _, hn => by simp [strsD] at hn
  | .bl _ :: ds, _, _, _, hn => by simp [strsD] at hn
  | .tup _ :: ds, _, _, _, hn => by simp [strsD] at hn
  | .lst _ :: ds, _, _, _, hn => by simp [strsD] at hn
  | .own _ :: ds, _, _, _, hn => by simp [strsD] at hn
  | .scr _ :: ds, _, _, _, hn => by simp [strsD] at hn
/-! data without objects of ours: their addresses do not matter -/
mutual
theorem rep_pur {mu : Addr → Prop} {bds : List Addr} : ∀ (d : D) (v : V), d.pur = true → Rep K mu ads H d v → Rep K mu bds H d v
  | .non, v, _, h => by simp only [Rep] at h ⊢; exact h
  | .bl b, v, _, h => by simp only [Rep] at h ⊢; exact h
  | .int i, v, _, h => by simp only [Rep] at h ⊢; exact h
  | .str s, v, _, h => by simp only [Rep] at h ⊢; exact h
  | .tup ds, v, p, h => by
    simp only [Rep] at h ⊢
    obtain ⟨a, vs, rfl, h1, h2, h3⟩ := h
    exact ⟨a, vs, rfl, h1, h2, repL_pur ds vs (by simpa [D.pur] using p) h3⟩
  | .lst ds, v, p, h => by
    simp only [Rep] at h ⊢
    obtain ⟨a, vs, rfl, h1, h2, h3⟩ := h
    exact ⟨a, vs, rfl, h1, h2, repL_pur ds vs (by simpa [D.pur] using p) h3⟩
  | .own n, v, p, h => by simp [D.pur] at p
  | .scr ns, v, p, h => by simp only [Rep] at h ⊢; exact h
theorem repL_pur {mu : Addr → Prop} {bds : List Addr} : ∀ (ds : List D) (vs : List V), D.purAll ds = true → RepL K mu ads H ds vs → RepL K mu bds H ds vs
  | [], vs, _, h => by simp only [RepL] at h ⊢; exact h
  | d :: ds, vs, p, h => by
    simp only [RepL] at h ⊢
    simp only [D.purAll, Bool.and_eq_true] at p
    obtain ⟨v, r, rfl, h1, h2⟩ := h
    exact ⟨v, r, rfl, rep_pur d v p.1 h1, repL_pur ds r p.2 h2⟩
end
/-! less that may change: what is told of data stays -/
mutual
theorem rep_mu {mu mu' : Addr → Prop} (hm : ∀ a, mu' a → mu a) : ∀ (d : D) (v : V), Rep K mu ads H d v → Rep K mu' ads H d v
  | .non, v, h => by simp only [Rep] at h ⊢; exact h
  | .bl b, v, h => by simp only [Rep] at h ⊢; exact h
  | .int i, v, h => by simp only [Rep] at h ⊢; exact h
  | .str s, v, h => by simp only [Rep] at h ⊢; exact h
  | .tup ds, v, h => by
    simp only [Rep] at h ⊢
    obtain ⟨a, vs, rfl, h1, h2, h3⟩ := h
    exact ⟨a, vs, rfl, h1, fun q => h2 (hm a q), repL_mu hm ds vs h3⟩
  | .lst ds, v, h => by
    simp only [Rep] at h ⊢
    obtain ⟨a, vs, rfl, h1, h2, h3⟩ := h
    exact ⟨a, vs, rfl, h1, fun q => h2 (hm a q), repL_mu hm ds vs h3⟩
  | .own n, v, h => by simp only [Rep] at h ⊢; exact h
  | .scr ns, v, h => by
    simp only [Rep] at h ⊢
    obtain ⟨a, rfl, ⟨h1, h2⟩ | h1⟩ := h
    · exact ⟨a, rfl, .inl ⟨h1, fun q => h2 (hm a q)⟩⟩
    · exact ⟨a, rfl, .inr h1⟩
theorem repL_mu {mu mu' : Addr → Prop} (hm : ∀ a, mu' a → mu a) : ∀ (ds : List D) (vs : List V), RepL K mu ads H ds vs → RepL K mu' ads H ds vs
  | [], vs, h => by simp only [RepL] at h ⊢; exact h
  | d :: ds, vs, h => by
    simp only [RepL] at h ⊢
    obtain ⟨v, r, rfl, h1, h2⟩ := h
    exact ⟨v, r, rfl, rep_mu hm d v h1, repL_mu hm ds r h2⟩
end
end

/-! ### slots -/
def RepE (K : PySem.W.Frag) (mu : Addr → Prop) (ads : List Addr) (H : Hp) (env : Env) (σ : L2.St) : Prop :=
  env.length = σ.length ∧ ∀ (i : Nat) (d : D), env[i]? = some (some d) → ∃ v : V, σ[i]? = some (some v) ∧ Rep K mu ads H d v
theorem repE_evo {K : PySem.W.Frag} {G : Gh} {ads ads' : List Addr} {H H' : Hp} {env : Env} {σ : L2.St} (e : Evo ads H ads' H') (h : RepE K (mu G ads) ads H env σ) : RepE K (mu G ads') ads' H' env σ :=
  ⟨h.1, fun i d q => let ⟨v, q1, q2⟩ := h.2 i d q; ⟨v, q1, rep_evo e d v q2⟩⟩
theorem repE_set {K : PySem.W.Frag} {mu : Addr → Prop} {ads : List Addr} {H : Hp} {env : Env} {σ : L2.St} {j : Nat} {d : D} {v : V} (h : RepE K mu ads H env σ) (hd : Rep K mu ads H d v) : RepE K mu ads H (env.set j (some d)) (σ.set j (some v)) := by
  refine ⟨by simp [h.1], fun i e q => ?_⟩
  by_cases hj : j = i
  · subst hj
    have hl : j < env.length := by
      have := (List.getElem?_eq_some_iff.mp q).1
      simpa using this
    rw [List.getElem?_set_self hl] at q
    cases q
    exact ⟨v, List.getElem?_set_self (h.1 ▸ hl), hd⟩
  · rw [List.getElem?_set_ne hj] at q
    obtain ⟨w, q1, q2⟩ := h.2 i e q
    exact ⟨w, by rw [List.getElem?_set_ne hj]; exact q1, q2⟩

/-! ### the soundness of a data reading -/
section
variable (K : PySem.W.Frag)
abbrev PostE (G : Gh) (ads : List Addr) (H : Hp) (k : DK) (Q : VK) : Prop :=
  ∀ ads' S' H' d v, Cur K G ads' S' H' → Evo ads H ads' H' → Rep K (mu G ads') ads' H' d v → k d S' → Q v H'
def SndE (t : TE) (T : DTE) : Prop := ∀ (G : Gh) ads S H (σ : L2.St) env (k : DK) (Q : VK), Cur K G ads S H → RepE K (mu G ads) ads H env σ → T env S k → PostE K G ads H k Q → t σ H Q
def SndT (t : TT) (T : DTT) : Prop := ∀ (G : Gh) ads S H (σ : L2.St) env (k : Bool → Sto → Prop) (Q : Bool → Hp → Prop), Cur K G ads S H → RepE K (mu G ads) ads H env σ → T env S k →
  (∀ ads' S' H' b, Cur K G ads' S' H' → Evo ads H ads' H' → k b S' → Q b H') → t σ H Q
def SndA (t : TA) (T : DTA) : Prop := ∀ (G : Gh) ads S H (σ : L2.St) env (k : List D → Sto → Prop) (Q : List V → Hp → Prop), Cur K G ads S H → RepE K (mu G ads) ads H env σ → T env S k →
  (∀ ads' S' H' ds vs, Cur K G ads' S' H' → Evo ads H ads' H' → RepL K (mu G ads') ads' H' ds vs → k ds S' → Q vs H') → t σ H Q
/-- a new list: at p, which nothing knows of -/
def SndN (t : TE) (T : DTA) : Prop := ∀ (G : Gh) ads S H (σ : L2.St) env (k : List D → Sto → Prop) (Q : VK), Cur K G ads S H → RepE K (mu G ads) ads H env σ → T env S k →
  (∀ ads' S' H1 H' p ds vs, Cur K G ads' S' H1 → Evo ads H ads' H1 → H1 p = none → Keeps H1 H' → H' p = some (.lst vs) → RepL K (mu G ads') ads' H1 ds vs → k ds S' → Q (.ref p) H') → t σ H Q
def SndO (t : TO) (T : DTO) : Prop := ∀ (G : Gh) ads S H (σ : L2.St) env (k : Option Int → Sto → Prop) (Q : Option Int → Hp → Prop), Cur K G ads S H → RepE K (mu G ads) ads H env σ → T env S k →
  (∀ ads' S' H' o, Cur K G ads' S' H' → Evo ads H ads' H' → k o S' → Q o H') → t σ H Q
/-- a two-place operation on values -/
def SndOp (r : R2) (f : DOp) : Prop := ∀ (G : Gh) ads S H x y v u (k : DK) (Q : VK), Cur K G ads S H → Rep K (mu G ads) ads H x v → Rep K (mu G ads) ads H y u → f x y S k → PostE K G ads H k Q → r v u H Q
def SndU (r : V → Hp → VK → Prop) (f : D → Sto → DK → Prop) : Prop := ∀ (G : Gh) ads S H x v (k : DK) (Q : VK), Cur K G ads S H → Rep K (mu G ads) ads H x v → f x S k → PostE K G ads H k Q → r v H Q
def SndCB (r : List V → Hp → VK → Prop) (f : DCB) : Prop := ∀ (G : Gh) ads S H xs vs (k : DK) (Q : VK), Cur K G ads S H → RepL K (mu G ads) ads H xs vs → f xs S k → PostE K G ads H k Q → r vs H Q
def SndG (sl : List Nat) (g : TG) (T : DTG) : Prop := ∀ (G : Gh) ads S H (σ : L2.St) env d v (k : Env → Sto → Prop) (Q : L2.St → Hp → Prop), Cur K G ads S H → RepE K (mu G ads) ads H env σ → Rep K (mu G ads) ads H d v → T d env S k →
  (∀ ads' S' H' env' σ', Cur K G ads' S' H' → Evo ads H ads' H' → RepE K (mu G ads') ads' H' env' σ' → (∀ i, i ∉ sl → σ'[i]? = σ[i]?) → σ'.length = σ.length → k env' S' → Q σ' H') → g v σ H Q
def SndGs (sl : List Nat) (g : TGs) (T : DTGs) : Prop := ∀ (G : Gh) ads S H (σ : L2.St) env ds vs (k : Env → Sto → Prop) (Q : L2.St → Hp → Prop), Cur K G ads S H → RepE K (mu G ads) ads H env σ → RepL K (mu G ads) ads H ds vs → T ds env S k →
  (∀ ads' S' H' env' σ', Cur K G ads' S' H' → Evo ads H ads' H' → RepE K (mu G ads') ads' H' env' σ' → (∀ i, i ∉ sl → σ'[i]? = σ[i]?) → σ'.length = σ.length → k env' S' → Q σ' H') → g vs σ H Q
structure PostS (G : Gh) (ads : List Addr) (H : Hp) (E : DEnds) (D : Ends) : Prop where
  nx : ∀ ads' S' H' env' σ', Cur K G ads' S' H' → Evo ads H ads' H' → RepE K (mu G ads') ads' H' env' σ' → E.nx env' S' → D.nx σ' H'
  rt : PostE K G ads H E.rt D.rt
  bk : ∀ ads' S' H' env' σ', Cur K G ads' S' H' → Evo ads H ads' H' → RepE K (mu G ads') ads' H' env' σ' → E.bk env' S' → D.bk σ' H'
  ct : ∀ ads' S' H' env' σ', Cur K G ads' S' H' → Evo ads H ads' H' → RepE K (mu G ads') ads' H' env' σ' → E.ct env' S' → D.ct σ' H'
def SndS (t : TS) (T : DTS) : Prop := ∀ (G : Gh) ads S H (σ : L2.St) env (E : DEnds) (D : Ends), Cur K G ads S H → RepE K (mu G ads) ads H env σ → T E env S → PostS K G ads H E D → t D σ H
/-- what is walked gives these data, one a turn, as long as the heap grows as steps let it -/
def WalkD (G : Gh) (J : It) (ds : List D) (ads1 : List Addr) (H1 : Hp) : Prop :=
  ∀ ads2 S2 H2, Cur K G ads2 S2 H2 → Evo ads1 H1 ads2 H2 →
    (∀ i, i < ds.length → J.go i H2) ∧ J.stop ds.length H2 ∧ ∀ i x H', i < ds.length → J.yld i H2 x H' → Keeps H2 H' ∧ ∃ d, ds[i]? = some d ∧ Rep K (mu G ads2) ads2 H' d x
def SndI (wi : TI) (T : DTI) : Prop := ∀ (G : Gh) ads S H (σ : L2.St) env (k : List D → Sto → Prop) (R : It → Hp → Prop), Cur K G ads S H → RepE K (mu G ads) ads H env σ → T env S k →
  (∀ ads' S' H' J ds, Cur K G ads' S' H' → Evo ads H ads' H' → WalkD K G J ds ads' H' → k ds S' → R J H') → wi σ H R
end

/-! ### the syntax's judgements with data readings -/
structure DE (X : Cx) (e : Expr) (T : DTE) : Prop where
  ex : ∃ t, PE X e t ∧ SndE X.K t T
structure DT (X : Cx) (e : Expr) (T : DTT) : Prop where
  ex : ∃ t, PT X e t ∧ SndT X.K t T
structure DW (X : Cx) (e : Expr) (T : DTT) : Prop where
  ex : ∃ t, PW X e t ∧ SndT X.K t T
structure DA (X : Cx) (es : List Expr) (T : DTA) : Prop where
  ex : ∃ t, PA X es t ∧ SndA X.K t T
structure DN (X : Cx) (e : Expr) (T : DTA) : Prop where
  ex : ∃ t, PE X e t ∧ SndN X.K t T
structure DO (X : Cx) (e : Option Expr) (T : DTO) : Prop where
  ex : ∃ t, PO X e t ∧ SndO X.K t T
structure DG (X : Cx) (e : Expr) (sl : List Nat) (T : DTG) : Prop where
  ex : ∃ t, PG X e t ∧ SndG X.K sl t T
structure DGs (X : Cx) (e : List Expr) (sl : List Nat) (T : DTGs) : Prop where
  ex : ∃ t, PGs X e t ∧ SndGs X.K sl t T
structure DS (X : Cx) (st : Stmt) (T : DTS) : Prop where
  ex : ∃ t, PS X st t ∧ SndS X.K t T
structure DSs (X : Cx) (st : List Stmt) (T : DTS) : Prop where
  ex : ∃ t, PSs X st t ∧ SndS X.K t T
structure DI (X : Cx) (tg e : Expr) (T : DTI) : Prop where
  ex : ∃ t, PI X tg e t ∧ SndI X.K t T
end Dat
set_option Elab.async false
set_option linter.all false
set_option maxRecDepth 100000
set_option maxHeartbeats 1000000
/-! DatB: expressions. -/
namespace Dat
open PySem PySem.Spec PyProof.Rows L2

section
variable {K : PySem.W.Frag} {G : Gh} {ads : List Addr} {S : Sto} {H : Hp} {k : DK} {Q : VK}
theorem post_val (c : Cur K G ads S H) (q : PostE K G ads H k Q) {d : D} {v : V} (r : Rep K (mu G ads) ads H d v) (h : k d S) : Q v H := q ads S H d v c (Evo.refl ads H) r h
theorem post_lst (c : Cur K G ads S H) (q : PostE K G ads H k Q) {p : Addr} (hp : H p = none) {ds : List D} {vs : List V} (r : RepL K (mu G ads) ads H ds vs) (h : k (.lst ds) S) : Q (.ref p) (upd H p (.lst vs)) := by
  have kp : Keeps H (upd H p (.lst vs)) := Keeps.new hp
  refine q ads S _ _ _ (c.keeps kp) (kp.evo ads) ?_ h
  simp only [Rep]
  exact ⟨p, vs, rfl, upd_same, c.nomu hp, repL_evo (kp.evo ads) _ _ r⟩
theorem post_tup (c : Cur K G ads S H) (q : PostE K G ads H k Q) {p : Addr} (hp : H p = none) {ds : List D} {vs : List V} (r : RepL K (mu G ads) ads H ds vs) (h : k (.tup ds) S) : Q (.ref p) (upd H p (.tup vs)) := by
  have kp : Keeps H (upd H p (.tup vs)) := Keeps.new hp
  refine q ads S _ _ _ (c.keeps kp) (kp.evo ads) ?_ h
  simp only [Rep]
  exact ⟨p, vs, rfl, upd_same, c.nomu hp, repL_evo (kp.evo ads) _ _ r⟩
theorem own_at (c : Cur K G ads S H) {n : Nat} {v : V} {mo : MO} (r : Rep K (mu G ads) ads H (.own n) v) (h : S[n]? = some mo) : ∃ a, v = .ref a ∧ ads[n]? = some a ∧ MoOk K (mu G ads) ads H a mo := by
  simp only [Rep] at r
  obtain ⟨a, h1, rfl⟩ := r
  obtain ⟨b, h2, h3⟩ := c.obj n mo h
  rw [h1] at h2; cases h2
  exact ⟨a, rfl, h1, h3⟩
theorem res_eq {S : Sto} {x : D} : res S x = x ∨ ∃ n ds, x = .own n ∧ S[n]? = some (.lst ds) ∧ res S x = .lst ds := by
  cases x with
  | own n =>
    cases h : S[n]? with
    | none => exact .inl (by simp only [res, h])
    | some mo =>
      cases mo with
      | lst xs => exact .inr ⟨n, xs, rfl, h, by simp only [res, h]⟩
      | _ => exact .inl (by simp only [res, h])
  | _ => exact .inl rfl
theorem res_own {S : Sto} {x : D} {d : D} (h : res S x = d) (hd : ∀ xs, d ≠ .lst xs) : x = d := by
  rcases res_eq (S := S) (x := x) with e | ⟨n, ds, _, _, e⟩
  · rw [← e]; exact h
  · rw [h] at e; exact absurd e (hd ds)
theorem res_lst (c : Cur K G ads S H) {x : D} {v : V} (r : Rep K (mu G ads) ads H x v) {ds : List D} (h : res S x = .lst ds) : ∃ a vs, v = .ref a ∧ H a = some (.lst vs) ∧ RepL K (mu G ads) ads H ds vs := by
  rcases res_eq (S := S) (x := x) with e | ⟨n, es, rfl, h1, e⟩
  · rw [h] at e; subst e
    simp only [Rep] at r
    obtain ⟨a, vs, h1, h2, _, h3⟩ := r
    exact ⟨a, vs, h1, h2, h3⟩
  · rw [h] at e; cases e
    obtain ⟨a, h2, _, vs, h3, h4⟩ := own_at c r h1
    exact ⟨a, vs, h2, h3, h4⟩
theorem res_tup {x : D} {v : V} (r : Rep K (mu G ads) ads H x v) {ds : List D} (h : res S x = .tup ds) : ∃ a vs, v = .ref a ∧ H a = some (.tup vs) ∧ ¬ mu G ads a ∧ RepL K (mu G ads) ads H ds vs := by
  have e := res_own h (fun xs q => by cases q); subst e
  simp only [Rep] at r; exact r
theorem res_int {x : D} {v : V} (r : Rep K (mu G ads) ads H x v) {i : Int} (h : res S x = .int i) : v = .int i := by
  have e := res_own h (fun xs q => by cases q); subst e
  simp only [Rep] at r; exact r
theorem res_bl {x : D} {v : V} (r : Rep K (mu G ads) ads H x v) {i : Bool} (h : res S x = .bl i) : v = .bl i := by
  have e := res_own h (fun xs q => by cases q); subst e
  simp only [Rep] at r; exact r
theorem res_non {x : D} {v : V} (r : Rep K (mu G ads) ads H x v) (h : res S x = .non) : v = .non := by
  have e := res_own h (fun xs q => by cases q); subst e
  simp only [Rep] at r; exact r
theorem res_str {x : D} {v : V} (r : Rep K (mu G ads) ads H x v) {s : List Nat} (h : res S x = .str s) : v = strV s ∧ s.length ≤ sizeLine := by
  have e := res_own h (fun xs q => by cases q); subst e
  simp only [Rep] at r; exact r
theorem res_scr {x : D} {v : V} (r : Rep K (mu G ads) ads H x v) {ns : List Int} (h : res S x = .scr ns) : ∃ a, v = .ref a ∧ ScrOk K (mu G ads) H a ns := by
  have e := res_own h (fun xs q => by cases q); subst e
  simp only [Rep] at r; exact r
theorem ScrOk.sq {mu : Addr → Prop} {a : Addr} {ns : List Int} (h : ScrOk K mu H a ns) : SqL K H a (ns.map V.int) := by
  rcases h with ⟨h, _⟩ | h
  · exact .inl h
  · exact h H
end

/-! ### names, constants -/
section
variable {X : Cx} {pos : Pos}
theorem de_var (i : Nat) {x : Str} (hN : X.N[i]? = some x := by rfl) (hv : Vis X.env.scope x := by first | exact Or.inl rfl | exact Or.inr (Or.inl rfl) | exact Or.inr (Or.inr rfl)) (hd : (x == ("__debug__" : Str)) = false := by decide)
    (hcd : (x == ("__classdict__" : Str)) = false := by decide) : DE X (.Name x pos) (dVar i) := ⟨_, pe_var hN hv hd hcd, fun G ads S H σ env k Q c re h q => by
  unfold dVar at h
  split at h
  · rename_i d he
    obtain ⟨v, h1, h2⟩ := re.2 i d (getE_eq _ _ _ he)
    exact ⟨v, h1, post_val c q h2 h⟩
  · exact h.elim⟩
theorem snd_c {K : PySem.W.Frag} {d : D} {v : V} (h : ∀ mu ads H, Rep K mu ads H d v) : SndE K (tC v) (dC d) := fun G ads S H σ env k Q c re hk q => post_val c q (h _ _ _) hk
theorem de_int {i : Int} {j} : DE X (.Constant (.int i) j pos) (dC (.int i)) := ⟨_, pe_int, snd_c fun _ _ _ => by simp only [Rep]⟩
theorem de_bl {b : Bool} {j} : DE X (.Constant (.bool b) j pos) (dC (.bl b)) := ⟨_, pe_bl, snd_c fun _ _ _ => by simp only [Rep]⟩
theorem de_non {j} : DE X (.Constant .none j pos) (dC .non) := ⟨_, pe_non, snd_c fun _ _ _ => by simp only [Rep]⟩
theorem de_str {x : Str} {j} {s : List Nat} (h : x = ⟨s.toArray⟩) (hl : s.length ≤ sizeLine := by decide) : DE X (.Constant (.str x) j pos) (dC (.str s)) := ⟨_, pe_str, snd_c fun _ _ _ => by simp only [Rep, strV]; exact ⟨by rw [h], hl⟩⟩
theorem de_glob {x : Str} {d : D} {v : V} {u : Value} (hg : Gl X x) (hm : X.mg x = some u) (r : RelV v u) (hr : ∀ mu ads H, Rep X.K mu ads H d v) (hd : (x == ("__debug__" : Str)) = false := by decide) : DE X (.Name x pos) (dC d) := ⟨_, pe_glob hg hm r hd, snd_c hr⟩
/-- a constant of the module: a text, a number -/
theorem de_gstr {x : Str} {s : List Nat} (hg : Gl X x) (hm : ∃ t, X.mg x = some (.str ⟨s.toArray⟩ t)) (hl : s.length ≤ sizeLine := by decide) (hd : (x == ("__debug__" : Str)) = false := by decide) : DE X (.Name x pos) (dC (.str s)) := by
  obtain ⟨t, hm⟩ := hm
  exact de_glob (v := strV s) hg hm ⟨t, rfl⟩ (fun _ _ _ => by simp only [Rep]; exact ⟨trivial, hl⟩) hd
theorem de_gint {x : Str} {i : Int} (hg : Gl X x) (hm : ∃ t, X.mg x = some (.int i t)) (hd : (x == ("__debug__" : Str)) = false := by decide) : DE X (.Name x pos) (dC (.int i)) := by
  obtain ⟨t, hm⟩ := hm
  exact de_glob (v := .int i) hg hm ⟨t, rfl⟩ (fun _ _ _ => by simp only [Rep]) hd
end

/-! ### operators -/
theorem snd_op {K : PySem.W.Frag} {r : R2} {f : DOp} {ta tb : TE} {Ta Tb : DTE} (hr : SndOp K r f) (ha : SndE K ta Ta) (hb : SndE K tb Tb) : SndE K (tOp r ta tb) (dOp f Ta Tb) := fun G ads S H σ env k Q c re h q => by
  refine ha G ads S H σ env _ _ c re h fun ads1 S1 H1 x v c1 e1 r1 h1 => ?_
  refine hb G ads1 S1 H1 σ env _ _ c1 (repE_evo e1 re) h1 fun ads2 S2 H2 y u c2 e2 r2 h2 => ?_
  exact hr G ads2 S2 H2 x y v u k Q c2 (rep_evo e2 _ _ r1) r2 h2 fun ads3 S3 H3 d w c3 e3 r3 h3 => q ads3 S3 H3 d w c3 ((e1.trans e2).trans e3) r3 h3
section
variable {X : Cx} {a b c : Expr} {Ta Tb Tc : DTE} {pos : Pos}
theorem de_op {op : Operator} {r : R2} {f : DOp} (ho : OpR X (binaryOp op) r ∧ SndOp X.K r f) (ha : DE X a Ta) (hb : DE X b Tb) : DE X (.BinOp a op b pos) (dOp f Ta Tb) := by
  obtain ⟨ta, p1, s1⟩ := ha.ex
  obtain ⟨tb, p2, s2⟩ := hb.ex
  exact ⟨_, pe_op ho.1 p1 p2, snd_op ho.2 s1 s2⟩
theorem de_cmp {op : CmpOp} {r : R2} {f : DOp} (ho : OpR X (compareOp op) r ∧ SndOp X.K r f) (ha : DE X a Ta) (hb : DE X b Tb) (hm : behindInMarks op b = false) : DE X (.Compare a [op] [b] pos) (dOp f Ta Tb) := by
  obtain ⟨ta, p1, s1⟩ := ha.ex
  obtain ⟨tb, p2, s2⟩ := hb.ex
  exact ⟨_, pe_cmpR ho.1 p1 p2 hm, snd_op ho.2 s1 s2⟩
theorem snd_bl {K : PySem.W.Frag} {t : TE} {T : DTE} (h : SndE K t T) : SndT K (tTest t) (tBl T) := fun G ads S H σ env k Q c re hk q => by
  refine h G ads S H σ env _ _ c re hk fun ads1 S1 H1 x v c1 e1 r1 h1 => ?_
  cases x with
  | bl b =>
    simp only [Rep] at r1; subst r1
    exact ⟨b, rfl, q ads1 S1 H1 b c1 e1 h1⟩
  | _ => exact h1.elim
theorem dt_cmp {op : CmpOp} {r : R2} {f : DOp} (ho : OpR X (compareOp op) r ∧ SndOp X.K r f) (ha : DE X a Ta) (hb : DE X b Tb) (hm : behindInMarks op b = false) : DT X (.Compare a [op] [b] pos) (tBl (dOp f Ta Tb)) := by
  obtain ⟨ta, p1, s1⟩ := ha.ex
  obtain ⟨tb, p2, s2⟩ := hb.ex
  exact ⟨_, pt_cmpR ho.1 p1 p2 hm, snd_bl (snd_op ho.2 s1 s2)⟩
theorem snd_un {K : PySem.W.Frag} {r : V → Hp → VK → Prop} {f : D → Sto → DK → Prop} {ta : TE} {Ta : DTE} (hr : SndU K r f) (ha : SndE K ta Ta) : SndE K (tUn r ta) (dUn f Ta) := fun G ads S H σ env k Q c re h q => by
  refine ha G ads S H σ env _ _ c re h fun ads1 S1 H1 x v c1 e1 r1 h1 => ?_
  exact hr G ads1 S1 H1 x v k Q c1 r1 h1 fun ads3 S3 H3 d w c3 e3 r3 h3 => q ads3 S3 H3 d w c3 (e1.trans e3) r3 h3
theorem de_neg (ha : DE X a Ta) : DE X (.UnaryOp .USub a pos) (dUn uNeg Ta) := by
  obtain ⟨ta, p1, s1⟩ := ha.ex
  refine ⟨_, pe_un un_neg p1, snd_un (fun G ads S H x v k Q c r h q => ?_) s1⟩
  cases x with
  | int i => simp only [Rep] at r; subst r; exact ⟨i, rfl, post_val c q (by simp only [Rep]) h⟩
  | _ => exact h.elim

/-! #### the operators one by one -/
abbrev rAddA (K : PySem.W.Frag) : R2 := fun x y H Q => (rI0 (fun i j => .int (i + j)) x y H Q) ∨ (∃ i j, x = .str i ∧ y = .str j ∧ i.length + j.length ≤ sizeLine ∧ Q (.str (i ++ j)) H) ∨ (rCat x y H Q) ∨ (rCatA K x y H Q)
theorem line_eq : (line : Nat) = sizeLine := rfl
theorem str_app (a b : List Nat) : ((⟨a.toArray⟩ : Str) ++ ⟨b.toArray⟩) = ⟨(a ++ b).toArray⟩ := by
  show (⟨a.toArray ++ b.toArray⟩ : Str) = _
  simp
theorem op_addA : OpR X (binaryOp .Add) (rAddA X.K) ∧ SndOp X.K (rAddA X.K) oAdd := by
  refine ⟨op_add.or (op_add_str.or (op_cat.or op_catA)), fun G ads S H x y v u k Q c rx ry h q => ?_⟩
  unfold oAdd at h
  split at h
  · rename_i i j hx hy
    rw [res_int rx hx, res_int ry hy]
    exact .inl ⟨i, j, rfl, rfl, post_val c q (by simp only [Rep]) h⟩
  · rename_i i j hx hy
    rw [(res_str rx hx).1, (res_str ry hy).1]
    refine .inr (.inl ⟨_, _, rfl, rfl, by simp only [Str.length, List.size_toArray]; exact h.1, ?_⟩)
    rw [str_app]
    exact post_val c q (by simp only [Rep, strV]; exact ⟨trivial, by rw [List.length_append]; exact h.1⟩) h.2
  · rename_i ds es hx hy
    obtain ⟨a, vs, rfl, h1, m1, h2⟩ := res_tup rx hx
    obtain ⟨b, us, rfl, h3, m2, h4⟩ := res_tup ry hy
    have l1 := h2.length
    have l2 := h4.length
    refine .inr (.inr (.inr ⟨a, b, vs, us, rfl, rfl, SqT.of h1, SqT.of h3, ?_, fun e => ?_, fun _ e => ?_, fun _ _ p hp => ?_⟩))
    · rw [l1, l2]; exact h.1
    · subst e
      have e2 : ds = [] := by cases ds with | nil => rfl | cons _ _ => simp at l1
      subst e2
      exact post_val c q (by simp only [Rep]; exact ⟨b, us, rfl, h3, m2, h4⟩) h.2
    · subst e
      have e2 : es = [] := by cases es with | nil => rfl | cons _ _ => simp at l2
      subst e2
      have h' := h.2
      rw [List.append_nil] at h'
      exact post_val c q (by simp only [Rep]; exact ⟨a, vs, rfl, h1, m1, h2⟩) h'
    · exact post_tup c q hp (h2.app h4) h.2
  · rename_i ds es hx hy
    obtain ⟨a, vs, rfl, h1, h2⟩ := res_lst c rx hx
    obtain ⟨b, us, rfl, h3, h4⟩ := res_lst c ry hy
    refine .inr (.inr (.inl ⟨a, b, vs, us, rfl, rfl, h1, h3, ?_, fun p hp => ?_⟩))
    · rw [h2.length, h4.length]; exact h.1
    · exact post_lst c q hp (h2.app h4) h.2
  · exact h.elim
theorem op_subA : OpR X (binaryOp .Sub) (rI0 fun i j => .int (i - j)) ∧ SndOp X.K (rI0 fun i j => .int (i - j)) oSub := by
  refine ⟨op_sub, fun G ads S H x y v u k Q c rx ry h q => ?_⟩
  unfold oSub at h
  split at h
  · simp only [Rep] at rx ry; subst rx ry
    exact ⟨_, _, rfl, rfl, post_val c q (by simp only [Rep]) h⟩
  · exact h.elim
theorem op_divA : OpR X (binaryOp .FloorDiv) (rI CDivW fun i j => .int (i / j)) ∧ SndOp X.K (rI CDivW fun i j => .int (i / j)) oDiv := by
  refine ⟨op_fdivW, fun G ads S H x y v u k Q c rx ry h q => ?_⟩
  unfold oDiv at h
  split at h
  · simp only [Rep] at rx ry; subst rx ry
    exact ⟨_, _, rfl, rfl, h.1, post_val c q (by simp only [Rep]) h.2⟩
  · exact h.elim
theorem op_modA : OpR X (binaryOp .Mod) (rI (fun _ j => 0 < j) fun i j => .int (i % j)) ∧ SndOp X.K (rI (fun _ j => 0 < j) fun i j => .int (i % j)) oMod := by
  refine ⟨op_mod, fun G ads S H x y v u k Q c rx ry h q => ?_⟩
  unfold oMod at h
  split at h
  · simp only [Rep] at rx ry; subst rx ry
    exact ⟨_, _, rfl, rfl, h.1, post_val c q (by simp only [Rep]) h.2⟩
  · exact h.elim
theorem op_powA : OpR X (binaryOp .Pow) (rI CPow fun i j => .int (i ^ j.toNat)) ∧ SndOp X.K (rI CPow fun i j => .int (i ^ j.toNat)) oPow := by
  refine ⟨op_pow, fun G ads S H x y v u k Q c rx ry h q => ?_⟩
  unfold oPow at h
  split at h
  · simp only [Rep] at rx ry; subst rx ry
    exact ⟨_, _, rfl, rfl, h.1, post_val c q (by simp only [Rep]) h.2⟩
  · exact h.elim
/-! #### order -/
theorem op_leA : OpR X (compareOp .LtE) (rI0 fun i j => .bl (decide (i ≤ j))) ∧ SndOp X.K (rI0 fun i j => .bl (decide (i ≤ j))) oLe := by
  refine ⟨op_le, fun G ads S H x y v u k Q c rx ry h q => ?_⟩
  unfold oLe at h
  split at h
  · simp only [Rep] at rx ry; subst rx ry
    exact ⟨_, _, rfl, rfl, post_val c q (by simp only [Rep]) h⟩
  · exact h.elim
theorem op_gtA : OpR X (compareOp .Gt) (rI0 fun i j => .bl (decide (j < i))) ∧ SndOp X.K (rI0 fun i j => .bl (decide (j < i))) oGt := by
  refine ⟨op_gt, fun G ads S H x y v u k Q c rx ry h q => ?_⟩
  unfold oGt at h
  split at h
  · simp only [Rep] at rx ry; subst rx ry
    exact ⟨_, _, rfl, rfl, post_val c q (by simp only [Rep]) h⟩
  · exact h.elim
theorem op_geA : OpR X (compareOp .GtE) (rI0 fun i j => .bl (decide (j ≤ i))) ∧ SndOp X.K (rI0 fun i j => .bl (decide (j ≤ i))) oGe := by
  refine ⟨op_ge, fun G ads S H x y v u k Q c rx ry h q => ?_⟩
  unfold oGe at h
  split at h
  · simp only [Rep] at rx ry; subst rx ry
    exact ⟨_, _, rfl, rfl, post_val c q (by simp only [Rep]) h⟩
  · exact h.elim
theorem lexLt_eq : ∀ a b : List Int, HT.lexLt a b = lexLt a b
  | [], [] => rfl
  | [], _ :: _ => rfl
  | _ :: _, [] => rfl
  | x :: xs, y :: ys => by
    rw [HT.lexLt_cons, lexLt, lexLt_eq xs ys]
theorem op_ltA (hu : X.A.units < cLine) : OpR X (compareOp .Lt) (fun x y H Q => rI0 (fun i j => .bl (decide (i < j))) x y H Q ∨ rLtT X.K x y H Q) ∧ SndOp X.K (fun x y H Q => rI0 (fun i j => .bl (decide (i < j))) x y H Q ∨ rLtT X.K x y H Q) oLt := by
  refine ⟨op_lt.or (op_ltT hu), fun G ads S H x y v u k Q c rx ry h q => ?_⟩
  unfold oLt at h
  split at h
  · simp only [Rep] at rx ry; subst rx ry
    exact .inl ⟨_, _, rfl, rfl, post_val c q (by simp only [Rep]) h⟩
  · split at h
    · rename_i ns ms h1 h2
      simp only [Rep] at rx ry
      obtain ⟨a, vs, rfl, e1, _, e2⟩ := rx
      obtain ⟨b, us, rfl, e3, _, e4⟩ := ry
      have z1 := e2.ints h1
      have z2 := e4.ints h2
      subst z1 z2
      refine .inr ⟨a, b, ns, ms, rfl, rfl, SqT.of e1, SqT.of e3, ?_⟩
      rw [lexLt_eq]
      exact post_val c q (by simp only [Rep]) h
    · exact h.elim
  · exact h.elim
end

/-! ### data as the library's -/
mutual
def D.py : D → PyData
  | .non => .none
  | .bl b => .bool b
  | .int i => .int i
  | .str s => .str ⟨s.toArray⟩
  | .tup xs => .tuple (D.pyAll xs)
  | .lst xs => .list (D.pyAll xs)
  | .own _ => .none
  | .scr _ => .none
def D.pyAll : List D → List PyData
  | [] => []
  | x :: xs => D.py x :: D.pyAll xs
end
mutual
theorem py_plain : ∀ d : D, d.py.plain = true
  | .non => rfl
  | .bl _ => rfl
  | .int _ => rfl
  | .str _ => rfl
  | .tup xs => by simp only [D.py, PyData.plain]; exact pyAll_plain xs
  | .lst xs => by simp only [D.py, PyData.plain]; exact pyAll_plain xs
  | .own _ => rfl
  | .scr _ => rfl
theorem pyAll_plain : ∀ ds : List D, PyData.plainAll (D.pyAll ds) = true
  | [] => rfl
  | x :: xs => by simp only [D.pyAll, PyData.plainAll, py_plain x, pyAll_plain xs, Bool.and_self]
end
theorem str_beq (a b : List Nat) : ((⟨a.toArray⟩ : Str) == ⟨b.toArray⟩) = (a == b) := by
  by_cases h : a = b
  · subst h; simp
  · have h2 : ¬ (⟨a.toArray⟩ : Str) = ⟨b.toArray⟩ := fun q => h (by simpa using congrArg (fun z => z.cps.toList) q)
    rw [beq_eq_false_iff_ne.mpr h, beq_eq_false_iff_ne.mpr h2]
mutual
theorem py_eqv : ∀ x y : D, x.pln = true → y.pln = true → PyData.eqv x.py y.py = x.eqv y
  | .non, y, _, hy => by cases y <;> simp_all [D.py, PyData.eqv, D.eqv, D.pln]
  | .bl a, y, _, hy => by cases y <;> simp_all [D.py, PyData.eqv, D.eqv, D.pln]
  | .int i, y, _, hy => by cases y <;> simp_all [D.py, PyData.eqv, D.eqv, D.pln]
  | .str s, y, _, hy => by
    cases y with
    | str t => simp only [D.py, PyData.eqv, D.eqv, str_beq]
    | _ => simp_all [D.py, PyData.eqv, D.eqv, D.pln]
  | .tup xs, y, hx, hy => by
    cases y with
    | tup ys => simp only [D.py, PyData.eqv, D.eqv]; exact pyAll_eqv xs ys (by simpa [D.pln] using hx) (by simpa [D.pln] using hy)
    | _ => simp_all [D.py, PyData.eqv, D.eqv, D.pln]
  | .lst xs, y, hx, hy => by
    cases y with
    | lst ys => simp only [D.py, PyData.eqv, D.eqv]; exact pyAll_eqv xs ys (by simpa [D.pln] using hx) (by simpa [D.pln] using hy)
    | _ => simp_all [D.py, PyData.eqv, D.eqv, D.pln]
  | .own _, _, hx, _ => by simp [D.pln] at hx
  | .scr _, _, hx, _ => by simp [D.pln] at hx
theorem pyAll_eqv : ∀ xs ys : List D, D.plnAll xs = true → D.plnAll ys = true → PyData.eqvAll (D.pyAll xs) (D.pyAll ys) = D.eqvAll xs ys
  | [], [], _, _ => by simp only [D.pyAll, PyData.eqvAll, D.eqvAll]
  | [], y :: ys, _, _ => by simp only [D.pyAll, PyData.eqvAll, D.eqvAll]
  | x :: xs, [], _, _ => by simp only [D.pyAll, PyData.eqvAll, D.eqvAll]
  | x :: xs, y :: ys, hx, hy => by
    simp only [D.plnAll, Bool.and_eq_true] at hx hy
    simp only [D.pyAll, PyData.eqvAll, D.eqvAll, py_eqv x y hx.1 hy.1, pyAll_eqv xs ys hx.2 hy.2]
end
mutual
theorem py_dep : ∀ x : D, x.py.depth = x.dep
  | .non => by simp [D.py, PyData.depth, D.dep]
  | .bl _ => by simp [D.py, PyData.depth, D.dep]
  | .int _ => by simp [D.py, PyData.depth, D.dep]
  | .str _ => by simp [D.py, PyData.depth, D.dep]
  | .tup xs => by simp only [D.py, PyData.depth, D.dep, pyAll_dep xs]
  | .lst xs => by simp only [D.py, PyData.depth, D.dep, pyAll_dep xs]
  | .own _ => by simp [D.py, PyData.depth, D.dep]
  | .scr _ => by simp [D.py, PyData.depth, D.dep]
theorem pyAll_dep : ∀ xs : List D, PyData.depthAll (D.pyAll xs) = D.depAll xs
  | [] => by simp [D.pyAll, PyData.depthAll, D.depAll]
  | x :: xs => by simp only [D.pyAll, PyData.depthAll, D.depAll, py_dep x, pyAll_dep xs]
end
section
variable {K : PySem.W.Frag} {mu : Addr → Prop} {ads : List Addr} {H : Hp}
mutual
theorem rep_dp : ∀ (d : D) (v : V), d.pln = true → Rep K mu ads H d v → Dp K H v d.py
  | .non, v, _, h => by simp only [Rep] at h; subst h; exact .non
  | .bl b, v, _, h => by simp only [Rep] at h; subst h; exact .bl b
  | .int i, v, _, h => by simp only [Rep] at h; subst h; exact .int i
  | .str s, v, _, h => by simp only [Rep] at h; rw [h.1]; exact .str _
  | .tup ds, v, p, h => by
    simp only [Rep] at h
    obtain ⟨a, vs, rfl, h1, _, h2⟩ := h
    exact .tup (SqT.of h1) (repL_dp ds vs (by simpa [D.pln] using p) h2)
  | .lst ds, v, p, h => by
    simp only [Rep] at h
    obtain ⟨a, vs, rfl, h1, _, h2⟩ := h
    exact .lst (SqL.of h1) (repL_dp ds vs (by simpa [D.pln] using p) h2)
  | .own _, _, p, _ => by simp [D.pln] at p
  | .scr _, _, p, _ => by simp [D.pln] at p
theorem repL_dp : ∀ (ds : List D) (vs : List V), D.plnAll ds = true → RepL K mu ads H ds vs → DpAll K H vs (D.pyAll ds)
  | [], vs, _, h => by simp only [RepL] at h; subst h; exact .nil
  | d :: ds, vs, p, h => by
    simp only [RepL] at h
    simp only [D.plnAll, Bool.and_eq_true] at p
    obtain ⟨v, r, rfl, h1, h2⟩ := h
    exact .cons (rep_dp d v p.1 h1) (repL_dp ds r p.2 h2)
end
end
theorem res_dp {K : PySem.W.Frag} {G : Gh} {ads : List Addr} {S : Sto} {H : Hp} (c : Cur K G ads S H) {x : D} {v : V} (r : Rep K (mu G ads) ads H x v) (p : (res S x).pln = true) : Dp K H v (res S x).py := by
  rcases res_eq (S := S) (x := x) with e | ⟨n, ds, rfl, h1, e⟩
  · rw [e] at p ⊢; exact rep_dp x v p r
  · rw [e] at p ⊢
    obtain ⟨a, vs, rfl, h2, h3⟩ := res_lst c r e
    exact .lst (SqL.of h2) (repL_dp ds vs (by simpa [D.pln] using p) h3)

/-! ### ==, !=, in, not in -/
section
variable {X : Cx}
def rEqP (K : PySem.W.Frag) : R2 := fun x y H Q => ∃ d e, Dp K H x d ∧ Dp K H y e ∧ d.plain = true ∧ e.plain = true ∧ (d.depth ≤ 64 ∨ e.depth ≤ 64) ∧ Q (.bl (PyData.eqv d e)) H
def rNeP (K : PySem.W.Frag) : R2 := fun x y H Q => ∃ d e, Dp K H x d ∧ Dp K H y e ∧ d.plain = true ∧ e.plain = true ∧ (d.depth ≤ 64 ∨ e.depth ≤ 64) ∧ Q (.bl (!PyData.eqv d e)) H
theorem op_eqP (hu : X.A.units + 65 < cLine) : OpR X (compareOp .Eq) (rEqP X.K) := by
  intro pins s σ H x y v u Q I rx ry h
  obtain ⟨d, e, hd, he, sd, se, hz, q⟩ := h
  obtain ⟨as, r1⟩ := Dp.reads I d x v hd rx
  obtain ⟨bs, r2⟩ := Dp.reads I e y u he ry
  exact SeqAt.eq_plain r1 r2 sd se (by omega) ⟨.bl _, H, I, rfl, q⟩
theorem op_neP (hu : X.A.units + 65 < cLine) : OpR X (compareOp .NotEq) (rNeP X.K) := by
  intro pins s σ H x y v u Q I rx ry h
  obtain ⟨d, e, hd, he, sd, se, hz, q⟩ := h
  obtain ⟨as, r1⟩ := Dp.reads I d x v hd rx
  obtain ⟨bs, r2⟩ := Dp.reads I e y u he ry
  exact SeqAt.ne_plain r1 r2 sd se (by omega) ⟨.bl _, H, I, rfl, q⟩
theorem op_eqA (hu : X.A.units + 65 < cLine) : OpR X (compareOp .Eq) (rEqP X.K) ∧ SndOp X.K (rEqP X.K) oEq := by
  refine ⟨op_eqP hu, fun G ads S H x y v u k Q c rx ry h q => ?_⟩
  obtain ⟨⟨p1, p2, hz⟩, hk⟩ := h
  refine ⟨_, _, res_dp c rx p1, res_dp c ry p2, py_plain _, py_plain _, by rw [py_dep, py_dep]; exact hz, ?_⟩
  rw [py_eqv _ _ p1 p2]
  exact post_val c q (by simp only [Rep]) hk
theorem op_neA (hu : X.A.units + 65 < cLine) : OpR X (compareOp .NotEq) (rNeP X.K) ∧ SndOp X.K (rNeP X.K) oNe := by
  refine ⟨op_neP hu, fun G ads S H x y v u k Q c rx ry h q => ?_⟩
  obtain ⟨⟨p1, p2, hz⟩, hk⟩ := h
  refine ⟨_, _, res_dp c rx p1, res_dp c ry p2, py_plain _, py_plain _, by rw [py_dep, py_dep]; exact hz, ?_⟩
  rw [py_eqv _ _ p1 p2]
  exact post_val c q (by simp only [Rep]) hk
def rInP (K : PySem.W.Frag) (neg : Bool) : R2 := fun x y H Q => ∃ d ds, Dp K H x d ∧ (Dp K H y (.list ds) ∨ Dp K H y (.tuple ds)) ∧ d.plain = true ∧ PyData.plainAll ds = true ∧ (PyData.depthAll ds ≤ 64 ∨ d.depth ≤ 64) ∧ Q (.bl (if neg then !(ds.any fun z => PyData.eqv z d) else ds.any fun z => PyData.eqv z d)) H
theorem op_inP (hu : X.A.units + 66 < cLine) : OpR X (compareOp .In) (rInP X.K false) := by
  intro pins s σ H x y v u Q I rx ry h
  obtain ⟨d, ds, hd, he, sd, se, hz, q⟩ := h
  obtain ⟨as, r1⟩ := Dp.reads I d x v hd rx
  rcases he with he | he
  · obtain ⟨bs, r2⟩ := Dp.reads I _ y u he ry
    exact SeqAt.in_list_data r2 r1 se sd (by omega) ⟨.bl _, H, I, rfl, q⟩
  · obtain ⟨bs, r2⟩ := Dp.reads I _ y u he ry
    exact SeqAt.in_tuple_data r2 r1 se sd (by omega) ⟨.bl _, H, I, rfl, q⟩
theorem op_notInP (hu : X.A.units + 66 < cLine) : OpR X (compareOp .NotIn) (rInP X.K true) := by
  intro pins s σ H x y v u Q I rx ry h
  obtain ⟨d, ds, hd, he, sd, se, hz, q⟩ := h
  obtain ⟨as, r1⟩ := Dp.reads I d x v hd rx
  rcases he with he | he
  · obtain ⟨bs, r2⟩ := Dp.reads I _ y u he ry
    exact SeqAt.notIn_list_data r2 r1 se sd (by omega) ⟨.bl _, H, I, rfl, q⟩
  · obtain ⟨bs, r2⟩ := Dp.reads I _ y u he ry
    exact SeqAt.notIn_tuple_data r2 r1 se sd (by omega) ⟨.bl _, H, I, rfl, q⟩
theorem any_py {x : D} (hx : x.pln = true) : ∀ ys : List D, D.plnAll ys = true → ((D.pyAll ys).any fun z => PyData.eqv z x.py) = ys.any fun z => z.eqv x
  | [], _ => rfl
  | y :: ys, h => by
    simp only [D.plnAll, Bool.and_eq_true] at h
    simp only [D.pyAll, List.any_cons, py_eqv y x h.1 hx, any_py hx ys h.2]
abbrev rInS (neg : Bool) : R2 := fun x y H Q => ∃ i j, x = .str i ∧ y = .str j ∧ Q (.bl (if neg then !(!(Builtin.Str.occurrences j i 0 j.length 1).isEmpty) else (!(Builtin.Str.occurrences j i 0 j.length 1).isEmpty))) H
end
end Dat
set_option Elab.async false
set_option linter.all false
set_option maxRecDepth 100000
set_option maxHeartbeats 1000000
/-! DatC: more of expressions: texts, tests, arguments, subscripts, calls of built-ins. -/
namespace Dat
open PySem PySem.Spec PyProof.Rows L2

section
variable {X : Cx}
abbrev rInA (K : PySem.W.Frag) (neg : Bool) : R2 := fun x y H Q => rInP K neg x y H Q ∨ (∃ (c : Nat) (z : Str), x = .str ⟨#[c]⟩ ∧ y = .str z ∧ Q (.bl (if neg then !decide (c ∈ z.cps.toList) else decide (c ∈ z.cps.toList))) H)
theorem snd_in {K : PySem.W.Frag} (neg : Bool) {G : Gh} {ads : List Addr} {S : Sto} {H : Hp} {x y : D} {v u : V} {k : DK} {Q : VK} (c : Cur K G ads S H) (rx : Rep K (mu G ads) ads H x v) (ry : Rep K (mu G ads) ads H y u) (h1 : InOk x (res S y))
    (hk : k (.bl (if neg then !inD x (res S y) else inD x (res S y))) S) (q : PostE K G ads H k Q) : rInA K neg v u H Q := by
  cases hy : res S y with
  | lst ys =>
    rw [hy] at h1 hk
    obtain ⟨p1, p2, hz⟩ := h1
    have hd := res_dp c ry (by rw [hy]; simpa [D.pln] using p2)
    rw [hy] at hd
    simp only [D.py] at hd
    refine .inl ⟨_, _, rep_dp x v p1 rx, .inl hd, py_plain _, pyAll_plain _, by rw [pyAll_dep, py_dep]; exact hz.symm, ?_⟩
    rw [any_py p1 ys p2]
    exact post_val c q (by simp only [Rep, inD]) hk
  | tup ys =>
    rw [hy] at h1 hk
    obtain ⟨p1, p2, hz⟩ := h1
    have hd := res_dp c ry (by rw [hy]; simpa [D.pln] using p2)
    rw [hy] at hd
    simp only [D.py] at hd
    refine .inl ⟨_, _, rep_dp x v p1 rx, .inr hd, py_plain _, pyAll_plain _, by rw [pyAll_dep, py_dep]; exact hz.symm, ?_⟩
    rw [any_py p1 ys p2]
    exact post_val c q (by simp only [Rep, inD]) hk
  | str b =>
    rw [hy] at h1 hk
    cases x with
    | str a =>
      simp only [InOk] at h1
      obtain ⟨d, rfl⟩ : ∃ d, a = [d] := by
        cases a with
        | nil => simp at h1
        | cons d r => cases r with | nil => exact ⟨d, rfl⟩ | cons _ _ => simp at h1
      simp only [Rep, strV] at rx
      rw [rx.1, (res_str ry hy).1]
      refine .inr ⟨d, _, rfl, rfl, ?_⟩
      have e : inD (.str [d]) (.str b) = decide (d ∈ b) := rfl
      rw [e] at hk
      exact post_val c q (by simp only [Rep]) hk
    | _ => exact h1.elim
  | _ => rw [hy] at h1; exact h1.elim
theorem op_inA (hu : X.A.units + 66 < cLine) : OpR X (compareOp .In) (rInA X.K false) ∧ SndOp X.K (rInA X.K false) oIn :=
  ⟨(op_inP hu).or op_in_sign, fun G ads S H x y v u k Q c rx ry h q => snd_in false c rx ry h.1 h.2 q⟩
theorem op_notInA (hu : X.A.units + 66 < cLine) : OpR X (compareOp .NotIn) (rInA X.K true) ∧ SndOp X.K (rInA X.K true) oNotIn :=
  ⟨(op_notInP hu).or op_notIn_sign, fun G ads S H x y v u k Q c rx ry h q => snd_in true c rx ry h.1 h.2 q⟩

/-! ### is None -/
theorem isNon_rel {K : PySem.W.Frag} {mu : Addr → Prop} {ads : List Addr} {H : Hp} {x : D} {v : V} (r : Rep K mu ads H x v) : decide (v = .non) = isNon x := by
  cases x with
  | non => simp only [Rep] at r; subst r; rfl
  | bl b => simp only [Rep] at r; subst r; rfl
  | int b => simp only [Rep] at r; subst r; rfl
  | str b => simp only [Rep, strV] at r; rw [r.1]; rfl
  | tup b => simp only [Rep] at r; obtain ⟨_, _, rfl, _⟩ := r; rfl
  | lst b => simp only [Rep] at r; obtain ⟨_, _, rfl, _⟩ := r; rfl
  | own b => simp only [Rep] at r; obtain ⟨_, _, rfl⟩ := r; rfl
  | scr b => simp only [Rep] at r; obtain ⟨_, rfl, _⟩ := r; rfl
variable {a b : Expr} {Ta Tb : DTE} {pos : Pos}
theorem snd_isN {K : PySem.W.Frag} {t : TE} {T : DTE} (h : SndE K t T) : SndE K (tIsN t) (dIsN T) := fun G ads S H σ env k Q c re hk q => by
  refine h G ads S H σ env _ _ c re hk fun ads1 S1 H1 x v c1 e1 r1 h1 => ?_
  refine q ads1 S1 H1 (.bl (isNon x)) _ c1 e1 ?_ h1
  simp only [Rep]; rw [isNon_rel r1]
theorem snd_notN {K : PySem.W.Frag} {t : TE} {T : DTE} (h : SndE K t T) : SndE K (tNotN t) (dNotN T) := fun G ads S H σ env k Q c re hk q => by
  refine h G ads S H σ env _ _ c re hk fun ads1 S1 H1 x v c1 e1 r1 h1 => ?_
  refine q ads1 S1 H1 (.bl (!isNon x)) _ c1 e1 ?_ h1
  simp only [Rep]; rw [isNon_rel r1]
theorem de_isN {j pos'} (ha : DE X a Ta) : DE X (.Compare a [.Is] [.Constant .none j pos'] pos) (dIsN Ta) := by
  obtain ⟨ta, p1, s1⟩ := ha.ex
  exact ⟨_, pe_cmp (pc_isN p1), snd_isN s1⟩
theorem de_notN {j pos'} (ha : DE X a Ta) : DE X (.Compare a [.IsNot] [.Constant .none j pos'] pos) (dNotN Ta) := by
  obtain ⟨ta, p1, s1⟩ := ha.ex
  exact ⟨_, pe_cmp (pc_notN p1), snd_notN s1⟩
theorem snd_B {K : PySem.W.Frag} {t : TE} {T : DTE} (h : SndE K t T) : SndT K (tB t) (tBl T) := fun G ads S H σ env k Q c re hk q => by
  refine h G ads S H σ env _ _ c re hk fun ads1 S1 H1 x v c1 e1 r1 h1 => ?_
  cases x with
  | bl b =>
    simp only [Rep] at r1; subst r1
    exact ⟨b, rfl, q ads1 S1 H1 b c1 e1 h1⟩
  | _ => exact h1.elim
theorem dt_isN {j pos'} (ha : DE X a Ta) : DT X (.Compare a [.Is] [.Constant .none j pos'] pos) (tBl (dIsN Ta)) := by
  obtain ⟨ta, p1, s1⟩ := ha.ex
  exact ⟨_, pt_cmp (pc_isN p1), snd_B (snd_isN s1)⟩
theorem dt_notN {j pos'} (ha : DE X a Ta) : DT X (.Compare a [.IsNot] [.Constant .none j pos'] pos) (tBl (dNotN Ta)) := by
  obtain ⟨ta, p1, s1⟩ := ha.ex
  exact ⟨_, pt_cmp (pc_notN p1), snd_B (snd_notN s1)⟩

/-! ### truth -/
theorem tru_rep {K : PySem.W.Frag} {G : Gh} {ads : List Addr} {S : Sto} {H : Hp} (c : Cur K G ads S H) {x : D} {v : V} (r : Rep K (mu G ads) ads H x v) {b : Bool} (h : truD S x = some b) : TruV K v H b := by
  unfold truD at h
  split at h
  · rename_i e; rw [res_non r e]; cases h; rfl
  · rename_i e; rw [res_bl r e]; cases h; rfl
  · rename_i e; rw [res_int r e]; cases h; rfl
  · rename_i s e
    rw [(res_str r e).1]; cases h
    refine ⟨by simp only [Str.length, List.size_toArray]; exact (res_str r e).2, ?_⟩
    cases s with
    | nil => simp [Str.length]
    | cons _ _ =>
      simp only [Str.length, List.size_toArray, List.isEmpty_cons, List.length_cons]
      rw [Bool.not_false, eq_comm, bne_iff_ne]; omega
  · rename_i ds e
    obtain ⟨p, vs, rfl, h1, _, h2⟩ := res_tup r e
    cases h
    have hl := h2.length
    refine .inr (.inl ⟨vs, SqT.of h1, ?_⟩)
    cases vs with
    | nil => cases ds with | nil => rfl | cons _ _ => simp at hl
    | cons _ _ => cases ds with | nil => simp at hl | cons _ _ => rfl
  · rename_i ds e
    obtain ⟨p, vs, rfl, h1, h2⟩ := res_lst c r e
    cases h
    have hl := h2.length
    refine .inl ⟨vs, SqL.of h1, ?_⟩
    cases vs with
    | nil => cases ds with | nil => rfl | cons _ _ => simp at hl
    | cons _ _ => cases ds with | nil => simp at hl | cons _ _ => rfl
  · cases h
theorem onB_some {o : Option Bool} {k : Bool → Prop} (h : onB o k) : ∃ b, o = some b ∧ k b := by
  cases o with
  | none => exact h.elim
  | some b => exact ⟨b, rfl, h⟩
theorem onO_some {α : Type} {o : Option α} {k : α → Prop} (h : onO o k) : ∃ b, o = some b ∧ k b := by
  cases o with
  | none => exact h.elim
  | some b => exact ⟨b, rfl, h⟩
/-- a test that is its value's truth -/
theorem dt_tru (ha : DE X a Ta) (he : ∀ whole, isTrue a X.env whole = (do let v ← whole; standAt a.pos; holding [v] (truthy v)) := by intro _; rfl) : DT X a (tTru Ta) := by
  obtain ⟨ta, p1, s1⟩ := ha.ex
  refine ⟨_, pt_truth p1 he, fun G ads S H σ env k Q c re h q => ?_⟩
  refine s1 G ads S H σ env _ _ c re h fun ads1 S1 H1 x v c1 e1 r1 h1 => ?_
  obtain ⟨b, e, h2⟩ := onB_some h1
  exact ⟨b, tru_rep c1 r1 e, q ads1 S1 H1 b c1 e1 h2⟩
theorem snd_and {K : PySem.W.Frag} {t u : TT} {T U : DTT} (h1 : SndT K t T) (h2 : SndT K u U) : SndT K (L2.tAnd t u) (Dat.tAnd T U) := fun G ads S H σ env k Q c re h q => by
  refine h1 G ads S H σ env _ _ c re h fun ads1 S1 H1 b c1 e1 hb => ?_
  cases b with
  | true => exact h2 G ads1 S1 H1 σ env k Q c1 (repE_evo e1 re) hb fun ads2 S2 H2 b2 c2 e2 k2 => q ads2 S2 H2 b2 c2 (e1.trans e2) k2
  | false => exact q ads1 S1 H1 false c1 e1 hb
theorem snd_or {K : PySem.W.Frag} {t u : TT} {T U : DTT} (h1 : SndT K t T) (h2 : SndT K u U) : SndT K (L2.tOr t u) (Dat.tOr T U) := fun G ads S H σ env k Q c re h q => by
  refine h1 G ads S H σ env _ _ c re h fun ads1 S1 H1 b c1 e1 hb => ?_
  cases b with
  | false => exact h2 G ads1 S1 H1 σ env k Q c1 (repE_evo e1 re) hb fun ads2 S2 H2 b2 c2 e2 k2 => q ads2 S2 H2 b2 c2 (e1.trans e2) k2
  | true => exact q ads1 S1 H1 true c1 e1 hb
variable {T U : DTT} {rest : List Expr}
theorem dw_and1 (h : DT X a T) : DW X (.BoolOp .And [a] pos) T := by
  obtain ⟨t, p, s⟩ := h.ex
  exact ⟨_, pw_and1 p, s⟩
theorem dw_or1 (h : DT X a T) : DW X (.BoolOp .Or [a] pos) T := by
  obtain ⟨t, p, s⟩ := h.ex
  exact ⟨_, pw_or1 p, s⟩
theorem dw_and (h : DT X a T) (h2 : DW X (.BoolOp .And (b :: rest) pos) U) : DW X (.BoolOp .And (a :: b :: rest) pos) (Dat.tAnd T U) := by
  obtain ⟨t, p, s⟩ := h.ex
  obtain ⟨u, p2, s2⟩ := h2.ex
  exact ⟨_, pw_and p p2, snd_and s s2⟩
theorem dw_or (h : DT X a T) (h2 : DW X (.BoolOp .Or (b :: rest) pos) U) : DW X (.BoolOp .Or (a :: b :: rest) pos) (Dat.tOr T U) := by
  obtain ⟨t, p, s⟩ := h.ex
  obtain ⟨u, p2, s2⟩ := h2.ex
  exact ⟨_, pw_or p p2, snd_or s s2⟩
theorem DW.dt {e : Expr} (h : DW X e T) : DT X e T := by
  obtain ⟨t, p, s⟩ := h.ex
  exact ⟨_, p.pt, s⟩
theorem dt_not (h : DT X a T) : DT X (.UnaryOp .Not a pos) (Dat.tNot T) := by
  obtain ⟨t, p, s⟩ := h.ex
  refine ⟨_, pt_not p, fun G ads S H σ env k Q c re h q => ?_⟩
  exact s G ads S H σ env _ _ c re h fun ads1 S1 H1 b c1 e1 hb => q ads1 S1 H1 (!b) c1 e1 hb
/-- not e as a value: e's truth -/
theorem de_not (ha : DE X a Ta) : DE X (.UnaryOp .Not a pos) (dNot (tTru Ta)) := by
  obtain ⟨ta, p1, s1⟩ := ha.ex
  refine ⟨_, pe_notT p1, fun G ads S H σ env k Q c re h q => ?_⟩
  refine s1 G ads S H σ env _ _ c re h fun ads1 S1 H1 x v c1 e1 r1 h1 => ?_
  obtain ⟨b, e, h2⟩ := onB_some h1
  exact ⟨b, tru_rep c1 r1 e, q ads1 S1 H1 (.bl (!b)) _ c1 e1 (by simp only [Rep]) h2⟩
theorem de_one {op : BoolOp} (h : DE X a Ta) : DE X (.BoolOp op [a] pos) Ta := by
  obtain ⟨t, p, s⟩ := h.ex
  exact ⟨_, pe_one p, s⟩
theorem de_and (h : DE X a Ta) (h2 : DE X (.BoolOp .And (b :: rest) pos) Tb) : DE X (.BoolOp .And (a :: b :: rest) pos) (dAnd Ta Tb) := by
  obtain ⟨t, p, s⟩ := h.ex
  obtain ⟨u, p2, s2⟩ := h2.ex
  refine ⟨_, pe_andT p p2, fun G ads S H σ env k Q c re h q => ?_⟩
  refine s G ads S H σ env _ _ c re h fun ads1 S1 H1 x v c1 e1 r1 h1 => ?_
  obtain ⟨b, e, h2⟩ := onB_some h1
  refine ⟨b, tru_rep c1 r1 e, ?_⟩
  cases b with
  | true => exact s2 G ads1 S1 H1 σ env k Q c1 (repE_evo e1 re) h2 fun ads2 S2 H2 d w c2 e2 r2 k2 => q ads2 S2 H2 d w c2 (e1.trans e2) r2 k2
  | false => exact q ads1 S1 H1 x v c1 e1 r1 h2
theorem de_or (h : DE X a Ta) (h2 : DE X (.BoolOp .Or (b :: rest) pos) Tb) : DE X (.BoolOp .Or (a :: b :: rest) pos) (dOr Ta Tb) := by
  obtain ⟨t, p, s⟩ := h.ex
  obtain ⟨u, p2, s2⟩ := h2.ex
  refine ⟨_, pe_orT p p2, fun G ads S H σ env k Q c re h q => ?_⟩
  refine s G ads S H σ env _ _ c re h fun ads1 S1 H1 x v c1 e1 r1 h1 => ?_
  obtain ⟨b, e, h2⟩ := onB_some h1
  refine ⟨b, tru_rep c1 r1 e, ?_⟩
  cases b with
  | false => exact s2 G ads1 S1 H1 σ env k Q c1 (repE_evo e1 re) h2 fun ads2 S2 H2 d w c2 e2 r2 k2 => q ads2 S2 H2 d w c2 (e1.trans e2) r2 k2
  | true => exact q ads1 S1 H1 x v c1 e1 r1 h2
theorem de_if {c : Expr} (hc : DT X c T) (h : DE X a Ta) (h2 : DE X b Tb) : DE X (.IfExp c a b pos) (dIf T Ta Tb) := by
  obtain ⟨tc, p0, s0⟩ := hc.ex
  obtain ⟨t, p, s⟩ := h.ex
  obtain ⟨u, p2, s2⟩ := h2.ex
  refine ⟨_, pe_ifExp p0 p p2, fun G ads S H σ env k Q c re h q => ?_⟩
  refine s0 G ads S H σ env _ _ c re h fun ads1 S1 H1 b c1 e1 hb => ?_
  cases b with
  | true => exact s G ads1 S1 H1 σ env k Q c1 (repE_evo e1 re) hb fun ads2 S2 H2 d w c2 e2 r2 k2 => q ads2 S2 H2 d w c2 (e1.trans e2) r2 k2
  | false => exact s2 G ads1 S1 H1 σ env k Q c1 (repE_evo e1 re) hb fun ads2 S2 H2 d w c2 e2 r2 k2 => q ads2 S2 H2 d w c2 (e1.trans e2) r2 k2
variable {c : Expr} {Tc : DTE}
theorem snd_chain {K : PySem.W.Frag} {r r' : R2} {f g : DOp} {ta tb tc : TE} (h1 : SndOp K r f) (h2 : SndOp K r' g) (ha : SndE K ta Ta) (hb : SndE K tb Tb) (hc : SndE K tc Tc) : SndE K (tChain r r' ta tb tc) (dChain f g Ta Tb Tc) := fun G ads S H σ env k Q c re h q => by
  refine ha G ads S H σ env _ _ c re h fun ads1 S1 H1 x v c1 e1 r1 k1 => ?_
  refine hb G ads1 S1 H1 σ env _ _ c1 (repE_evo e1 re) k1 fun ads2 S2 H2 y u c2 e2 r2 k2 => ?_
  refine h1 G ads2 S2 H2 x y v u _ _ c2 (rep_evo e2 _ _ r1) r2 k2 fun ads3 S3 H3 d w c3 e3 r3 k3 => ?_
  cases d with
  | bl b =>
    simp only [Rep] at r3; subst r3
    refine ⟨b, rfl, ?_⟩
    cases b with
    | true =>
      refine hc G ads3 S3 H3 σ env _ _ c3 (repE_evo ((e1.trans e2).trans e3) re) k3 fun ads4 S4 H4 z w c4 e4 r4 k4 => ?_
      exact h2 G ads4 S4 H4 y z u w k Q c4 (rep_evo (e3.trans e4) _ _ r2) r4 k4 fun ads5 S5 H5 d w c5 e5 r5 k5 => q ads5 S5 H5 d w c5 ((((e1.trans e2).trans e3).trans e4).trans e5) r5 k5
    | false => exact q ads3 S3 H3 (.bl false) _ c3 ((e1.trans e2).trans e3) (by simp only [Rep]) k3
  | _ => exact k3.elim
theorem de_chain {op op' : CmpOp} {r r' : R2} {f g : DOp} (ho : OpR X (compareOp op) r ∧ SndOp X.K r f) (ho' : OpR X (compareOp op') r' ∧ SndOp X.K r' g) (ha : DE X a Ta) (hb : DE X b Tb) (hc : DE X c Tc)
    (hm : lastMarks [op, op'] [b, c] = false := by with_unfolding_all rfl) : DE X (.Compare a [op, op'] [b, c] pos) (dChain f g Ta Tb Tc) := by
  obtain ⟨ta, p1, s1⟩ := ha.ex
  obtain ⟨tb, p2, s2⟩ := hb.ex
  obtain ⟨tc, p3, s3⟩ := hc.ex
  exact ⟨_, pe_chain ho.1 ho'.1 p1 p2 p3 hm, snd_chain ho.2 ho'.2 s1 s2 s3⟩
theorem dt_chain {op op' : CmpOp} {r r' : R2} {f g : DOp} (ho : OpR X (compareOp op) r ∧ SndOp X.K r f) (ho' : OpR X (compareOp op') r' ∧ SndOp X.K r' g) (ha : DE X a Ta) (hb : DE X b Tb) (hc : DE X c Tc)
    (hm : lastMarks [op, op'] [b, c] = false := by with_unfolding_all rfl) : DT X (.Compare a [op, op'] [b, c] pos) (tBl (dChain f g Ta Tb Tc)) := by
  obtain ⟨ta, p1, s1⟩ := ha.ex
  obtain ⟨tb, p2, s2⟩ := hb.ex
  obtain ⟨tc, p3, s3⟩ := hc.ex
  exact ⟨_, pt_chain ho.1 ho'.1 p1 p2 p3 hm, snd_bl (snd_chain ho.2 ho'.2 s1 s2 s3)⟩

/-! ### arguments, displays -/
variable {e : Expr} {es : List Expr} {Te : DTE} {TA' : DTA}
theorem da_nil : DA X [] aNil := ⟨_, pa_nil, fun G ads S H σ env k Q c re h q => q ads S H [] [] c (Evo.refl _ _) .nil h⟩
theorem da_cons (h : DE X e Te) (h2 : DA X es TA') (hs : starEach (e :: es) X.env = (false, eval e X.env) :: starEach es X.env := by rfl) : DA X (e :: es) (aCons Te TA') := by
  obtain ⟨t, p, s⟩ := h.ex
  obtain ⟨u, p2, s2⟩ := h2.ex
  refine ⟨_, pa_cons p p2 hs, fun G ads S H σ env k Q c re h q => ?_⟩
  refine s G ads S H σ env _ _ c re h fun ads1 S1 H1 x v c1 e1 r1 k1 => ?_
  exact s2 G ads1 S1 H1 σ env _ _ c1 (repE_evo e1 re) k1 fun ads2 S2 H2 ds vs c2 e2 r2 k2 => q ads2 S2 H2 (x :: ds) (v :: vs) c2 (e1.trans e2) (.cons (rep_evo e2 _ _ r1) r2) k2
theorem de_tup {x1} (h : DA X es TA') : DE X (.Tuple es x1 pos) (dTup TA') := by
  obtain ⟨t, p, s⟩ := h.ex
  refine ⟨_, pe_tup p, fun G ads S H σ env k Q c re h q => ?_⟩
  refine s G ads S H σ env _ _ c re h fun ads1 S1 H1 ds vs c1 e1 r1 k1 => ⟨by rw [r1.length]; exact k1.1, fun p hp => ?_⟩
  exact post_tup c1 (fun ads2 S2 H2 d w c2 e2 r2 k2 => q ads2 S2 H2 d w c2 (e1.trans e2) r2 k2) hp r1 k1.2
theorem dn_lst (h : DA X es TA') : DN X (.List es pos) (nLst TA') := by
  obtain ⟨t, p, s⟩ := h.ex
  refine ⟨_, pe_lst p, fun G ads S H σ env k Q c re h q => ?_⟩
  refine s G ads S H σ env _ _ c re h fun ads1 S1 H1 ds vs c1 e1 r1 k1 => ⟨by rw [r1.length]; exact k1.1, fun p hp => ?_⟩
  exact q ads1 S1 H1 _ p ds vs c1 e1 hp (Keeps.new hp) upd_same r1 k1.2
theorem snd_new {K : PySem.W.Frag} {t : TE} {T : DTA} (h : SndN K t T) : SndE K t (dNew T) := fun G ads S H σ env k Q c re hk q => by
  refine h G ads S H σ env _ _ c re hk fun ads1 S1 H1 H2 p ds vs c1 e1 hp kp h2 r1 k1 => ?_
  refine q ads1 S1 H2 (.lst ds) _ (c1.keeps kp) (e1.trans (kp.evo ads1)) ?_ k1
  simp only [Rep]
  exact ⟨p, vs, rfl, h2, c1.nomu hp, repL_evo (kp.evo ads1) _ _ r1⟩
theorem de_new (h : DN X e TA') : DE X e (dNew TA') := by
  obtain ⟨t, p, s⟩ := h.ex
  exact ⟨_, p, snd_new s⟩

/-! ### subscripts -/
theorem ixN_same (n : Nat) (i : Int) : L2.ixN n i = Dat.ixN n i := rfl
theorem at_vals {K : PySem.W.Frag} {mu : Addr → Prop} {ads : List Addr} {H : Hp} {ds : List D} {vs : List V} (r : RepL K mu ads H ds vs) {i : Int} {d : D} (h : Dat.atI ds i = some d) : ∃ v, L2.atI vs i = some v ∧ Rep K mu ads H d v := by
  unfold Dat.atI at h
  cases hx : Dat.ixN ds.length i with
  | none => rw [hx] at h; cases h
  | some j =>
    rw [hx] at h
    obtain ⟨v, h1, h2⟩ := r.get (show ds[j]? = some d from h)
    refine ⟨v, ?_, h2⟩
    unfold L2.atI
    rw [r.length, ixN_same, hx]
    exact h1
abbrev rIxA (K : PySem.W.Frag) : R2 := fun x y H Q => rIxL K x y H Q ∨ rIxT K x y H Q ∨ rIxS x y H Q
theorem snd_idx {K : PySem.W.Frag} : SndOp K (rIxA K) oIdx := fun G ads S H x y v u k Q c rx ry h q => by
  unfold oIdx at h
  split at h
  · rename_i ds i hx
    obtain ⟨d, hd, hk⟩ := onO_some h
    obtain ⟨a, vs, rfl, h1, h2⟩ := res_lst c rx hx
    simp only [Rep] at ry; subst ry
    obtain ⟨w, h3, h4⟩ := at_vals h2 hd
    exact .inl ⟨a, vs, i, w, rfl, rfl, SqL.of h1, h3, post_val c q h4 hk⟩
  · rename_i ds i hx
    obtain ⟨d, hd, hk⟩ := onO_some h
    obtain ⟨a, vs, rfl, h1, _, h2⟩ := res_tup rx hx
    simp only [Rep] at ry; subst ry
    obtain ⟨w, h3, h4⟩ := at_vals h2 hd
    exact .inr (.inl ⟨a, vs, i, w, rfl, rfl, SqT.of h1, h3, post_val c q h4 hk⟩)
  · rename_i s i hx
    obtain ⟨d, hd, hk⟩ := onO_some h
    rw [(res_str rx hx).1]
    simp only [Rep] at ry; subst ry
    refine .inr (.inr ⟨_, i, d, rfl, rfl, by simp only [Str.length, List.size_toArray]; exact (res_str rx hx).2, ?_, ?_⟩)
    · show L2.atI s i = some d
      exact hd
    · exact post_val c q (by simp only [Rep, strV]; exact ⟨trivial, Nat.le_trans (Nat.le_refl 1) (by decide)⟩) hk
  · rename_i ns i hx
    obtain ⟨d, hd, hk⟩ := onO_some h
    obtain ⟨a, rfl, h1⟩ := res_scr rx hx
    simp only [Rep] at ry; subst ry
    refine .inl ⟨a, _, i, .int d, rfl, rfl, h1.sq, ?_, post_val c q (by simp only [Rep]) hk⟩
    unfold L2.atI
    unfold Dat.atI at hd
    rw [List.length_map, ixN_same]
    cases hx : Dat.ixN ns.length i with
    | none => rw [hx] at hd; cases hd
    | some j =>
      rw [hx] at hd
      show (ns.map V.int)[j]? = _
      rw [List.getElem?_map, show ns[j]? = some d from hd]; rfl
  · exact h.elim
theorem de_idx (ha : DE X a Ta) (hb : DE X b Tb) (hs : PlainIx b := by intro _ _; rfl) : DE X (.Subscript a b pos) (dOp oIdx Ta Tb) := by
  obtain ⟨ta, p1, s1⟩ := ha.ex
  obtain ⟨tb, p2, s2⟩ := hb.ex
  exact ⟨_, pe_ix (ix_list.or (ix_tup.or ix_str)) p1 p2 hs, snd_op snd_idx s1 s2⟩
theorem do_no : DO X none pNo := ⟨_, po_none, fun G ads S H σ env k Q c re h q => q ads S H none c (Evo.refl _ _) h⟩
theorem do_so (h : DE X e Te) : DO X (some e) (pSo Te) := by
  obtain ⟨t, p, s⟩ := h.ex
  refine ⟨_, po_some p, fun G ads S H σ env k Q c re h q => ?_⟩
  refine s G ads S H σ env _ _ c re h fun ads1 S1 H1 x v c1 e1 r1 k1 => ?_
  cases x with
  | int i => simp only [Rep] at r1; subst r1; exact ⟨i, rfl, q ads1 S1 H1 (some i) c1 e1 k1⟩
  | _ => exact k1.elim
theorem sIx_same (n d : Nat) (o : Option Int) : HT.sIx n d o = Dat.sIx n d o := by
  cases o <;> rfl
theorem cut_repL {K : PySem.W.Frag} {mu : Addr → Prop} {ads : List Addr} {H : Hp} {ds : List D} {vs : List V} (r : RepL K mu ads H ds vs) (lo hi : Option Int) : RepL K mu ads H (Dat.cut ds lo hi) (cutV vs lo hi) := by
  unfold Dat.cut cutV
  rw [sIx_same, sIx_same, r.length]
  exact (r.drop _).take _
abbrev rSlX (K : PySem.W.Frag) : V → Option Int → Option Int → Hp → VK → Prop := fun x lo hi H Q => rSlL K x lo hi H Q ∨ rSlA K x lo hi H Q ∨ rSlS x lo hi H Q
theorem cut_le {α : Type} (xs : List α) (lo hi : Option Int) : (Dat.cut xs lo hi).length ≤ xs.length := by
  unfold Dat.cut
  rw [List.length_take, List.length_drop]; omega
theorem cutS_S (s : List Nat) (lo hi : Option Int) : cutS ⟨s.toArray⟩ lo hi = ⟨(Dat.cut s lo hi).toArray⟩ := by
  unfold cutS Dat.cut
  simp only [Str.length, List.size_toArray, sIx_same]
variable {lo hi : Option Expr} {Tl Th : DTO} {p2 : Pos}
theorem snd_sl {K : PySem.W.Frag} {te : TE} {tl th : TO} (h : SndE K te Te) (h1 : SndO K tl Tl) (h2 : SndO K th Th) : SndE K (tSl (rSlX K) te tl th) (dSl Te Tl Th) := fun G ads S H σ env k Q c re hk q => by
  refine h G ads S H σ env _ _ c re hk fun ads1 S1 H1 x v c1 e1 r1 k1 => ?_
  refine h1 G ads1 S1 H1 σ env _ _ c1 (repE_evo e1 re) k1 fun ads2 S2 H2 l c2 e2 k2 => ?_
  refine h2 G ads2 S2 H2 σ env _ _ c2 (repE_evo (e1.trans e2) re) k2 fun ads3 S3 H3 u c3 e3 k3 => ?_
  have r3 := rep_evo (e2.trans e3) _ _ r1
  have ee := (e1.trans e2).trans e3
  have q3 : PostE K G ads3 H3 k Q := fun ads4 S4 H4 d w c4 e4 r4 k4 => q ads4 S4 H4 d w c4 (ee.trans e4) r4 k4
  unfold sliced at k3
  split at k3
  · rename_i ds hx
    obtain ⟨a, vs, rfl, g1, g2⟩ := res_lst c3 r3 hx
    exact .inl ⟨a, vs, rfl, SqL.of g1, fun p hp => post_lst c3 q3 hp (cut_repL g2 l u) k3⟩
  · rename_i ds hx
    obtain ⟨a, vs, rfl, g1, gm, g2⟩ := res_tup r3 hx
    refine .inr (.inl ⟨a, vs, rfl, SqT.of g1, fun hw => ?_, fun _ p hp => post_tup c3 q3 hp (cut_repL g2 l u) k3⟩)
    have e : Dat.cut ds l u = ds := by
      unfold Dat.cut
      rw [← sIx_same, ← sIx_same, ← g2.length, hw.1, hw.2]
      rw [List.drop_zero, Nat.sub_zero, g2.length, List.take_length]
    rw [e] at k3
    exact post_val c3 q3 (by simp only [Rep]; exact ⟨a, vs, rfl, g1, gm, g2⟩) k3
  · rename_i s hx
    rw [(res_str r3 hx).1]
    refine .inr (.inr ⟨_, rfl, by simp only [Str.length, List.size_toArray]; exact (res_str r3 hx).2, ?_⟩)
    rw [cutS_S]
    exact post_val c3 q3 (by simp only [Rep, strV]; exact ⟨trivial, Nat.le_trans (cut_le s l u) (res_str r3 hx).2⟩) k3
  · exact k3.elim
theorem de_sl (h : DE X e Te) (h1 : DO X lo Tl) (h2 : DO X hi Th) : DE X (.Subscript e (.Slice lo hi none p2) pos) (dSl Te Tl Th) := by
  obtain ⟨t, p, s⟩ := h.ex
  obtain ⟨u, p1, s1⟩ := h1.ex
  obtain ⟨w, p3, s3⟩ := h2.ex
  exact ⟨_, pe_slice (sl_list.or (sl_tupA.or sl_str)) p p1 p3, snd_sl s s1 s3⟩

/-! ### built-in calls -/
variable {id : String} {x : Str} {p : Pos}
theorem snd_cb {K : PySem.W.Frag} {r : List V → Hp → VK → Prop} {f : DCB} {t : TA} (hr : SndCB K r f) (h : SndA K t TA') : SndE K (tCB r t) (dCB f TA') := fun G ads S H σ env k Q c re hk q => by
  refine h G ads S H σ env _ _ c re hk fun ads1 S1 H1 ds vs c1 e1 r1 k1 => ?_
  exact hr G ads1 S1 H1 ds vs k Q c1 r1 k1 fun ads2 S2 H2 d w c2 e2 r2 k2 => q ads2 S2 H2 d w c2 (e1.trans e2) r2 k2
theorem de_cb {r : List V → Hp → VK → Prop} {f : DCB} (hc : CallR X (.builtin id) r ∧ SndCB X.K r f) (hg : Gl X x) (hm : X.mg x = none) (hv : bootBuiltins x = some (.builtin id)) (ha : DA X (e :: es) TA') (hn : x ≠ "__name__" := by decide) (hdb : (x == ("__debug__" : Str)) = false := by decide)
    (he : starEach (e :: es) X.env = (false, eval e X.env) :: starEach es X.env := by rfl) (hpl : (backTo pos (starEach es X.env)).any (·.1) = false := by rfl) : DE X (.Call (.Name x p) (e :: es) [] pos) (dCB f TA') := by
  obtain ⟨t, p, s⟩ := ha.ex
  exact ⟨_, pe_callB hc.1 hg hm hv p hn hdb he hpl, snd_cb hc.2 s⟩
theorem de_cty {T : String} {r : List V → Hp → VK → Prop} {f : DCB} (hc : CallR X (.type T) r ∧ SndCB X.K r f) (hg : Gl X x) (hm : X.mg x = none) (hv : bootBuiltins x = some (.type T)) (ha : DA X (e :: es) TA') (hn : x ≠ "__name__" := by decide) (hdb : (x == ("__debug__" : Str)) = false := by decide)
    (he : starEach (e :: es) X.env = (false, eval e X.env) :: starEach es X.env := by rfl) (hpl : (backTo pos (starEach es X.env)).any (·.1) = false := by rfl) : DE X (.Call (.Name x p) (e :: es) [] pos) (dCB f TA') := by
  obtain ⟨t, p, s⟩ := ha.ex
  exact ⟨_, pe_callTy hc.1 hg hm hv p hn hdb he hpl, snd_cb hc.2 s⟩
theorem repL_one {K : PySem.W.Frag} {mu : Addr → Prop} {ads : List Addr} {H : Hp} {d : D} {vs : List V} (h : RepL K mu ads H [d] vs) : ∃ v, vs = [v] ∧ Rep K mu ads H d v := by
  simp only [RepL] at h
  obtain ⟨v, r, rfl, h1, rfl⟩ := h
  exact ⟨v, rfl, h1⟩
theorem repL_two {K : PySem.W.Frag} {mu : Addr → Prop} {ads : List Addr} {H : Hp} {d e : D} {vs : List V} (h : RepL K mu ads H [d, e] vs) : ∃ v w, vs = [v, w] ∧ Rep K mu ads H d v ∧ Rep K mu ads H e w := by
  simp only [RepL] at h
  obtain ⟨v, r, rfl, h1, w, r2, rfl, h2, rfl⟩ := h
  exact ⟨v, w, rfl, h1, h2⟩
theorem cb_abs : CallR X (.builtin "abs") (fun xs H Q => ∃ i, xs = [.int i] ∧ Q (.int (if i < 0 then -i else i)) H) ∧ SndCB X.K (fun xs H Q => ∃ i, xs = [.int i] ∧ Q (.int (if i < 0 then -i else i)) H) cAbs := by
  refine ⟨call_abs, fun G ads S H xs vs k Q c r0 h q => ?_⟩
  unfold cAbs at h
  split at h
  · obtain ⟨v, rfl, r⟩ := repL_one r0
    simp only [Rep] at r; subst r
    exact ⟨_, rfl, post_val c q (by simp only [Rep]) h⟩
  · exact h.elim
theorem cb_max2 (hc : X.calm = true) : CallR X (.builtin "max") (fun xs H Q => ∃ i j, xs = [.int i, .int j] ∧ Q (.int (if j > i then j else i)) H) ∧ SndCB X.K (fun xs H Q => ∃ i j, xs = [.int i, .int j] ∧ Q (.int (if j > i then j else i)) H) cMax2 := by
  refine ⟨call_max2 hc, fun G ads S H xs vs k Q c r0 h q => ?_⟩
  unfold cMax2 at h
  split at h
  · obtain ⟨v, w, rfl, r, r2⟩ := repL_two r0
    simp only [Rep] at r r2; subst r r2
    exact ⟨_, _, rfl, post_val c q (by simp only [Rep]) h⟩
  · exact h.elim
theorem cb_min2 (hc : X.calm = true) : CallR X (.builtin "min") (fun xs H Q => ∃ i j, xs = [.int i, .int j] ∧ Q (.int (if j < i then j else i)) H) ∧ SndCB X.K (fun xs H Q => ∃ i j, xs = [.int i, .int j] ∧ Q (.int (if j < i then j else i)) H) cMin2 := by
  refine ⟨call_min2 hc, fun G ads S H xs vs k Q c r0 h q => ?_⟩
  unfold cMin2 at h
  split at h
  · obtain ⟨v, w, rfl, r, r2⟩ := repL_two r0
    simp only [Rep] at r r2; subst r r2
    exact ⟨_, _, rfl, post_val c q (by simp only [Rep]) h⟩
  · exact h.elim
abbrev rInt1 : List V → Hp → VK → Prop := fun xs H Q => (∃ i, xs = [.int i] ∧ Q (.int i) H) ∨ ∃ k, xs = [.bl k] ∧ Q (.int (if k then 1 else 0)) H
theorem cb_int : CallR X (.type "int") rInt1 ∧ SndCB X.K rInt1 cInt := by
  refine ⟨call_int1, fun G ads S H xs vs k Q c r0 h q => ?_⟩
  unfold cInt at h
  split at h
  · obtain ⟨v, rfl, r⟩ := repL_one r0
    simp only [Rep] at r; subst r
    exact .inl ⟨_, rfl, post_val c q (by simp only [Rep]) h⟩
  · obtain ⟨v, rfl, r⟩ := repL_one r0
    simp only [Rep] at r; subst r
    exact .inr ⟨_, rfl, post_val c q (by simp only [Rep]) h⟩
  · exact h.elim
abbrev rLen1 (K : PySem.W.Frag) : List V → Hp → VK → Prop := fun xs H Q => ∃ x n, xs = [x] ∧ LenV K x H n ∧ Q (.int n) H
theorem len_rep {K : PySem.W.Frag} {G : Gh} {ads : List Addr} {S : Sto} {H : Hp} (c : Cur K G ads S H) {x : D} {v : V} (r : Rep K (mu G ads) ads H x v) {n : Nat} (h : lenD S x = some n) : LenV K v H n := by
  unfold lenD at h
  split at h
  · rename_i ds e
    obtain ⟨a, vs, rfl, h1, h2⟩ := res_lst c r e
    cases h; exact .inl ⟨vs, SqL.of h1, h2.length.symm⟩
  · rename_i ds e
    obtain ⟨a, vs, rfl, h1, _, h2⟩ := res_tup r e
    cases h; exact .inr ⟨vs, SqT.of h1, h2.length.symm⟩
  · rename_i s e
    rw [(res_str r e).1]; cases h
    exact ⟨by simp only [Str.length, List.size_toArray]; exact (res_str r e).2, by simp [Str.length]⟩
  · rename_i ns e
    obtain ⟨a, rfl, h1⟩ := res_scr r e
    cases h; exact .inl ⟨_, h1.sq, by simp⟩
  · cases h
theorem cb_len : CallR X (.builtin "len") (rLen1 X.K) ∧ SndCB X.K (rLen1 X.K) cLen := by
  refine ⟨call_len, fun G ads S H xs vs k Q c r0 h q => ?_⟩
  unfold cLen at h
  split at h
  · obtain ⟨v, rfl, r⟩ := repL_one r0
    obtain ⟨n, e, hk⟩ := onO_some h
    exact ⟨v, n, rfl, len_rep c r e, post_val c q (by simp only [Rep]) hk⟩
  · exact h.elim
theorem cb_all (hc : X.calm = true) : CallR X (.builtin "all") (rAll X.K) ∧ SndCB X.K (rAll X.K) cAll := by
  refine ⟨cr_all hc, fun G ads S H xs vs k Q c r0 h q => ?_⟩
  unfold cAll at h
  split at h
  · obtain ⟨v, rfl, r⟩ := repL_one r0
    split at h
    · rename_i ds e
      obtain ⟨bs, e2, hk⟩ := onO_some h
      obtain ⟨a, vs, rfl, h1, h2⟩ := res_lst c r e
      have e3 := h2.bls e2
      subst e3
      exact ⟨a, bs, rfl, SqL.of h1, post_val c q (by simp only [Rep]) hk⟩
    · exact h.elim
  · exact h.elim
theorem cb_any (hc : X.calm = true) : CallR X (.builtin "any") (rAny X.K) ∧ SndCB X.K (rAny X.K) cAny := by
  refine ⟨cr_any hc, fun G ads S H xs vs k Q c r0 h q => ?_⟩
  unfold cAny at h
  split at h
  · obtain ⟨v, rfl, r⟩ := repL_one r0
    split at h
    · rename_i ds e
      obtain ⟨bs, e2, hk⟩ := onO_some h
      obtain ⟨a, vs, rfl, h1, h2⟩ := res_lst c r e
      have e3 := h2.bls e2
      subst e3
      exact ⟨a, bs, rfl, SqL.of h1, post_val c q (by simp only [Rep]) hk⟩
    · exact h.elim
  · exact h.elim
/-- tuple(x) -/
theorem snd_tupOf {K : PySem.W.Frag} {te : TE} (h : SndE K te Te) : SndE K (tThen te (kTup K)) (dCB cTup (aCons Te aNil)) := fun G ads S H σ env k Q c re hk q => by
  refine h G ads S H σ env _ _ c re hk fun ads1 S1 H1 x v c1 e1 r1 k1 => ?_
  have q1 : PostE K G ads1 H1 k Q := fun ads2 S2 H2 d w c2 e2 r2 k2 => q ads2 S2 H2 d w c2 (e1.trans e2) r2 k2
  have k1' : cTup [x] S1 k := k1
  unfold cTup at k1'
  simp only at k1'
  split at k1'
  · rename_i ds e
    obtain ⟨a, vs, rfl, g1, g2⟩ := res_lst c1 r1 e
    exact .inl ⟨a, vs, rfl, SqL.of g1, fun p hp => post_tup c1 q1 hp g2 k1'⟩
  · rename_i ds e
    obtain ⟨a, vs, rfl, g1, gm, g2⟩ := res_tup r1 e
    exact .inr ⟨a, vs, rfl, SqT.of g1, post_val c1 q1 (by simp only [Rep]; exact ⟨a, vs, rfl, g1, gm, g2⟩) k1'⟩
  · exact k1'.elim
theorem de_tupOf {pos' : Pos} (hg : Gl X "tuple") (hm : X.mg "tuple" = none) (ha : DE X a Ta) (na : starEach [a] X.env = (false, eval a X.env) :: starEach [] X.env := by rfl) : DE X (.Call (.Name "tuple" pos') [a] [] pos) (dCB cTup (aCons Ta aNil)) := by
  obtain ⟨t, p, s⟩ := ha.ex
  exact ⟨_, pe_tupleOf hg hm p na, snd_tupOf s⟩

/-! ### join -/
theorem joinS_eq (sep : List Nat) : ∀ ss : List (List Nat), TL.joinL sep ss = joinS sep ss
  | [] => rfl
  | [_] => rfl
  | s :: t :: r => by
    show s ++ (sep ++ TL.joinL sep (t :: r)) = s ++ sep ++ joinS sep (t :: r)
    rw [joinS_eq sep (t :: r), List.append_assoc]
theorem join_len (sep : List Nat) : ∀ ss : List (List Nat), (joinS sep ss).length ≤ (ss.map (·.length)).sum + ss.length * sep.length
  | [] => by simp [joinS]
  | [s] => by simp [joinS]
  | s :: t :: r => by
    have ih := join_len sep (t :: r)
    have e : joinS sep (s :: t :: r) = s ++ sep ++ joinS sep (t :: r) := rfl
    rw [e, List.length_append, List.length_append, List.map_cons, List.sum_cons, List.length_cons (a := s), Nat.succ_mul]
    omega
theorem de_join {apos cpos : Pos} (ho : DE X a Ta) (he : DE X b Tb) (hs : starEach [b] X.env = [(false, eval b X.env)] := by rfl) (hbase : attributeBase a "join" X.env (eval a X.env) = eval a X.env := by rfl) (hline : (apos.endLine == cpos.line) = true := by rfl) :
    DE X (.Call (.Attribute a "join" apos) [b] [] cpos) (dJoin Ta Tb) := by
  obtain ⟨ta, p1, s1⟩ := ho.ex
  obtain ⟨tb, p2, s2⟩ := he.ex
  refine ⟨_, pe_join p1 p2 hs hbase hline, fun G ads S H σ env k Q c re hk q => ?_⟩
  refine s1 G ads S H σ env _ _ c re hk fun ads1 S1 H1 x v c1 e1 r1 k1 => ?_
  cases x with
  | str sep =>
    have r1' := r1
    simp only [Rep] at r1'
    refine ⟨⟨_, r1'.1⟩, ?_⟩
    refine s2 G ads1 S1 H1 σ env _ _ c1 (repE_evo e1 re) k1 fun ads2 S2 H2 y u c2 e2 r2 k2 => ?_
    have q2 : PostE X.K G ads2 H2 k Q := fun ads3 S3 H3 d w c3 e3 r3 k3 => q ads3 S3 H3 d w c3 ((e1.trans e2).trans e3) r3 k3
    split at k2
    · rename_i ds hx
      obtain ⟨ss, e3, hz, hk⟩ := onO_some k2
      obtain ⟨p, vs, rfl, h1, h2⟩ := res_lst c2 r2 hx
      have e4 := h2.strs e3
      subst e4
      have em : (ss.map strV) = (ss.map fun s => (⟨s.toArray⟩ : Str)).map V.str := by rw [List.map_map]; rfl
      refine ⟨_, p, ss.map fun s => (⟨s.toArray⟩ : Str), r1'.1, rfl, .inl (by rw [← em]; exact SqL.of h1), ?_, ?_⟩
      · rw [List.map_map, List.length_map]
        have : ((fun s : Str => s.length) ∘ fun s : List Nat => (⟨s.toArray⟩ : Str)) = fun s : List Nat => s.length := by funext s; simp [Str.length]
        rw [this]
        simpa [Str.length] using hz
      · have ej : Txt.join ⟨sep.toArray⟩ (ss.map fun s => (⟨s.toArray⟩ : Str)) = ⟨(joinS sep ss).toArray⟩ := by
          have := SX.join_S sep ss
          rw [← joinS_eq]
          exact this
        rw [ej]
        exact post_val c2 q2 (by simp only [Rep, strV]; exact ⟨trivial, Nat.le_trans (join_len sep ss) hz⟩) hk
    · exact k2.elim
  | _ => exact k1.elim
end
end Dat
set_option Elab.async false
set_option linter.all false
set_option maxRecDepth 100000
set_option maxHeartbeats 1000000
/-! DatF: products, what is walked, targets, list comprehensions, statements. -/
namespace Dat
open PySem PySem.Spec PyProof.Rows L2

/-! ### a step, the callers' objects widened -/
section
variable {K : PySem.W.Frag} {G G' : Gh} {ads ads' : List Addr} {S S' : Sto} {H H' : Hp}
/-- what may change grows by addresses that were free -/
def Wider (G G' : Gh) (H : Hp) : Prop := ∀ a, G'.mu0 a → G.mu0 a ∨ H a = none
theorem Wider.refl (G : Gh) (H : Hp) : Wider G G H := fun _ h => .inl h
theorem mu_back2 (w : Wider G G' H) (e : Evo ads H ads' H') {a : Addr} {o : HO} (ha : H a = some o) (hm : ¬ mu G ads a) : ¬ mu G' ads' a := by
  obtain ⟨⟨m, rfl, h⟩, _, _⟩ := e
  rintro (q | q)
  · rcases w a q with q | q
    · exact hm (.inl q)
    · rw [q] at ha; cases ha
  · rcases List.mem_append.mp q with q | q
    · exact hm (.inr q)
    · rw [h a q] at ha; cases ha
mutual
theorem rep_evo2 (w : Wider G G' H) (e : Evo ads H ads' H') : ∀ (d : D) (v : V), Rep K (mu G ads) ads H d v → Rep K (mu G' ads') ads' H' d v
  | .non, v, h => by simp only [Rep] at h ⊢; exact h
  | .bl b, v, h => by simp only [Rep] at h ⊢; exact h
  | .int i, v, h => by simp only [Rep] at h ⊢; exact h
  | .str s, v, h => by simp only [Rep] at h ⊢; exact h
  | .tup ds, v, h => by
    simp only [Rep] at h ⊢
    obtain ⟨a, vs, rfl, h1, h2, h3⟩ := h
    exact ⟨a, vs, rfl, e.frame _ _ h1 fun q => h2 (.inr q), mu_back2 w e h1 h2, repL_evo2 w e ds vs h3⟩
  | .lst ds, v, h => by
    simp only [Rep] at h ⊢
    obtain ⟨a, vs, rfl, h1, h2, h3⟩ := h
    exact ⟨a, vs, rfl, e.frame _ _ h1 fun q => h2 (.inr q), mu_back2 w e h1 h2, repL_evo2 w e ds vs h3⟩
  | .own n, v, h => by
    simp only [Rep] at h ⊢
    obtain ⟨a, h1, rfl⟩ := h
    obtain ⟨⟨m, rfl, _⟩, _, _⟩ := e
    exact ⟨a, by rw [List.getElem?_append_left (List.getElem?_eq_some_iff.mp h1).1]; exact h1, rfl⟩
  | .scr ns, v, h => by
    simp only [Rep] at h ⊢
    obtain ⟨a, rfl, h⟩ := h
    rcases h with ⟨h | ⟨o, h⟩, hm⟩ | h
    · exact ⟨a, rfl, .inl ⟨.inl (e.frame _ _ h fun q => hm (.inr q)), mu_back2 w e h hm⟩⟩
    · exact ⟨a, rfl, .inl ⟨.inr ⟨o, e.frame _ _ h fun q => hm (.inr q)⟩, mu_back2 w e h hm⟩⟩
    · exact ⟨a, rfl, .inr h⟩
theorem repL_evo2 (w : Wider G G' H) (e : Evo ads H ads' H') : ∀ (ds : List D) (vs : List V), RepL K (mu G ads) ads H ds vs → RepL K (mu G' ads') ads' H' ds vs
  | [], vs, h => by simp only [RepL] at h ⊢; exact h
  | d :: ds, vs, h => by
    simp only [RepL] at h ⊢
    obtain ⟨v, r, rfl, h1, h2⟩ := h
    exact ⟨v, r, rfl, rep_evo2 w e d v h1, repL_evo2 w e ds r h2⟩
end
theorem repE_evo2 {env : Env} {σ : L2.St} (w : Wider G G' H) (e : Evo ads H ads' H') (h : RepE K (mu G ads) ads H env σ) : RepE K (mu G' ads') ads' H' env σ :=
  ⟨h.1, fun i d q => let ⟨v, q1, q2⟩ := h.2 i d q; ⟨v, q1, rep_evo2 w e d v q2⟩⟩
end

/-! ### what is walked -/
/-- what is walked gives these data, one a turn, as long as the heap grows as steps let it -/
def Walks (K : PySem.W.Frag) (G : Gh) (J : It) (ds : List D) (ads1 : List Addr) (H1 : Hp) : Prop :=
  ∀ G' ads2 S2 H2, Wider G G' H1 → Cur K G' ads2 S2 H2 → Evo ads1 H1 ads2 H2 →
    (∀ i, i < ds.length → J.go i H2) ∧ J.stop ds.length H2 ∧ ∀ i x H', i < ds.length → J.yld i H2 x H' → Keeps H2 H' ∧ ∃ d, ds[i]? = some d ∧ Rep K (mu G' ads2) ads2 H' d x
def SndW (K : PySem.W.Frag) (wi : TI) (T : DTI) : Prop := ∀ (G : Gh) ads S H (σ : L2.St) env (k : List D → Sto → Prop) (R : It → Hp → Prop), Cur K G ads S H → RepE K (mu G ads) ads H env σ → T env S k →
  (∀ ads' S' H' J ds, Cur K G ads' S' H' → Evo ads H ads' H' → Walks K G J ds ads' H' → k ds S' → R J H') → wi σ H R
structure DI' (X : Cx) (tg e : Expr) (T : DTI) : Prop where
  ex : ∃ t, PI X tg e t ∧ SndW X.K t T

section
variable {X : Cx} {tg a b : Expr} {Ta Tb : DTE} {pos : Pos}
/-- a list, a tuple, a text -/
def iAny (K : PySem.W.Frag) (tl : TE) : TI := fun σ H R => tl σ H fun x H1 =>
  (∃ a xs, x = .ref a ∧ SqL K H1 a xs ∧ R (Itl K a) H1) ∨ (∃ a xs, x = .ref a ∧ SqT K H1 a xs ∧ R (Itt K a) H1) ∨ ∃ z, x = .str z ∧ R (Its z) H1
theorem pi_any {l : Expr} {tl : TE} (hl : PE X l tl) : PI X tg l (iAny X.K tl) := by
  refine ⟨fun pins s σ H R I h => ?_⟩
  refine thn (hl.run pins s σ H _ I h) fun v s1 ⟨x, H1, I1, r1, q1⟩ => ?_
  rcases q1 with ⟨a, xs, e, hq, q⟩ | ⟨a, xs, e, hq, q⟩ | ⟨z, e, q⟩
  · subst e
    cases r1
    obtain ⟨its, rv, p, hz⟩ := I1.list hq
    refine wpAny_pyIter_list p.isList ?_
    refine ⟨s1.heap.objs.size, [s1.heap.objs.size], _, _, H1, rfl, I1.kept (t' := s1.toks) fun b o e => Heap.get?_push_of_some _ e, turn_list a _, ⟨_, Heap.get?_push_size _ rfl, rfl, rfl⟩, fun b hb => ?_, q⟩
    have e : b = s1.heap.objs.size := by simpa using hb
    subst e
    exact I1.fpOk (Nat.le_refl _) (I1.hok.fresh (Nat.le_refl _))
  · subst e
    cases r1
    obtain ⟨its, rv, p, hz⟩ := I1.tuple hq
    refine wpAny_pyIter_tuple (show s1.heap.IsTuple a its.toArray from p) ?_
    refine ⟨s1.heap.objs.size, [s1.heap.objs.size], _, _, H1, rfl, I1.kept (t' := s1.toks) fun b o e => Heap.get?_push_of_some _ e, turn_tuple a _, ⟨_, Heap.get?_push_size _ rfl, rfl, rfl⟩, fun b hb => ?_, q⟩
    have e : b = s1.heap.objs.size := by simpa using hb
    subst e
    exact I1.fpOk (Nat.le_refl _) (I1.hok.fresh (Nat.le_refl _))
  · subst e
    obtain ⟨t, rfl⟩ := r1
    cases ha : z.cps.all (· < 128)
    · exact wpAny_pyIter_wide ha (pi_one (tk := s1.toks) I1 _ (turn_str _ z t "str_iterator" (.inr rfl)) ⟨_, Heap.get?_push_size _ rfl, rfl, rfl⟩ q)
    · exact wpAny_pyIter_ascii ha (pi_one (tk := s1.toks) I1 _ (turn_str _ z t "str_ascii_iterator" (.inl rfl)) ⟨_, Heap.get?_push_size _ rfl, rfl, rfl⟩ q)
theorem walks_lst {K : PySem.W.Frag} {G : Gh} {ads : List Addr} {H : Hp} {p : Addr} {vs : List V} {ds : List D} (h : H p = some (.lst vs)) (hm : ¬ mu G ads p) (r : RepL K (mu G ads) ads H ds vs) : Walks K G (Itl K p) ds ads H := fun G' ads2 S2 H2 w c e => by
  have h2 : H2 p = some (.lst vs) := e.frame _ _ h fun q => hm (.inr q)
  have r2 := repL_evo2 w e _ _ r
  have hl := r2.length
  have wk := walk_list (K := K) (a := p) (xs := vs)
  rw [← hl]
  refine ⟨fun i hi => wk.goes i H2 hi (SqL.of h2), wk.stops H2 (SqL.of h2), fun i x H' hi hy => ?_⟩
  obtain ⟨rfl, hx⟩ := wk.yields i H2 x H' hi (SqL.of h2) hy
  obtain ⟨d, q1, q2⟩ := r2.getV hx
  exact ⟨Keeps.refl _, d, q1, q2⟩
theorem walks_tup {K : PySem.W.Frag} {G : Gh} {ads : List Addr} {H : Hp} {p : Addr} {vs : List V} {ds : List D} (h : H p = some (.tup vs)) (hm : ¬ mu G ads p) (r : RepL K (mu G ads) ads H ds vs) : Walks K G (Itt K p) ds ads H := fun G' ads2 S2 H2 w c e => by
  have h2 : H2 p = some (.tup vs) := e.frame _ _ h fun q => hm (.inr q)
  have r2 := repL_evo2 w e _ _ r
  have hl := r2.length
  have wk := walk_tup (K := K) (a := p) (xs := vs)
  rw [← hl]
  refine ⟨fun i hi => wk.goes i H2 hi (SqT.of h2), wk.stops H2 (SqT.of h2), fun i x H' hi hy => ?_⟩
  obtain ⟨rfl, hx⟩ := wk.yields i H2 x H' hi (SqT.of h2) hy
  obtain ⟨d, q1, q2⟩ := r2.getV hx
  exact ⟨Keeps.refl _, d, q1, q2⟩
theorem walks_str {K : PySem.W.Frag} {G : Gh} {ads : List Addr} {H : Hp} {s : List Nat} : Walks K G (Its ⟨s.toArray⟩) (s.map fun c => D.str [c]) ads H := fun G' ads2 S2 H2 w c e => by
  have wk := walk_str (z := ⟨s.toArray⟩)
  have hz : (⟨s.toArray⟩ : Str).cps.size = (s.map fun c => D.str [c]).length := by simp
  refine ⟨fun i hi => wk.goes i H2 (by rw [hz]; exact hi) trivial, by rw [← hz]; exact wk.stops H2 trivial, fun i x H' hi hy => ?_⟩
  obtain ⟨rfl, c, hc, rfl⟩ := wk.yields i H2 x H' (by rw [hz]; exact hi) trivial hy
  refine ⟨Keeps.refl _, .str [c], ?_, ?_⟩
  · rw [List.getElem?_map]
    have : s[i]? = some c := by simpa using hc
    rw [this]; rfl
  · simp only [Rep, strV]; exact ⟨trivial, Nat.le_trans (Nat.le_refl 1) (by decide)⟩
theorem di_val (ha : DE X a Ta) : DI' X tg a (iVal Ta) := by
  obtain ⟨t, p, s⟩ := ha.ex
  refine ⟨_, pi_any p, fun G ads S H σ env k R c re hk q => ?_⟩
  refine s G ads S H σ env _ _ c re hk fun ads1 S1 H1 x v c1 e1 r1 k1 => ?_
  obtain ⟨ds, e, hk⟩ := onO_some k1
  cases x with
  | lst xs =>
    cases e
    simp only [Rep] at r1
    obtain ⟨p, vs, rfl, h1, h2, h3⟩ := r1
    exact .inl ⟨p, vs, rfl, SqL.of h1, q ads1 S1 H1 _ _ c1 e1 (walks_lst h1 h2 h3) hk⟩
  | tup xs =>
    cases e
    simp only [Rep] at r1
    obtain ⟨p, vs, rfl, h1, h2, h3⟩ := r1
    exact .inr (.inl ⟨p, vs, rfl, SqT.of h1, q ads1 S1 H1 _ _ c1 e1 (walks_tup h1 h2 h3) hk⟩)
  | str s =>
    cases e
    simp only [Rep] at r1
    rw [r1.1]
    exact .inr (.inr ⟨_, rfl, q ads1 S1 H1 _ _ c1 e1 walks_str hk⟩)
  | _ => cases e
theorem walks_rng {K : PySem.W.Frag} {G : Gh} {ads : List Addr} {H : Hp} {lo hi : Int} : Walks K G (Itr lo (hi - lo).toNat) (rngD lo hi) ads H := fun G' ads2 S2 H2 w c e => by
  have hz : (rngD lo hi).length = (hi - lo).toNat := by simp [rngD]
  rw [hz]
  refine ⟨fun i hi => hi, Nat.le_refl _, fun i x H' hi hy => ?_⟩
  obtain ⟨rfl, rfl⟩ := hy
  refine ⟨Keeps.refl _, .int (lo + (i : Nat)), ?_, by simp only [Rep]⟩
  unfold rngD
  rw [List.getElem?_map, List.getElem?_range hi]; rfl
theorem di_rng1 {p : Pos} (hg : Gl X "range") (hm : X.mg "range" = none) (ha : DE X a Ta) (ns : starEach [a] X.env = (false, eval a X.env) :: starEach [] X.env := by rfl) (hs : starEach [a] X.env = [(false, eval a X.env)] := by rfl) : DI' X tg (.Call (.Name "range" p) [a] [] pos) (iRng1 Ta) := by
  obtain ⟨t, p1, s⟩ := ha.ex
  refine ⟨_, pi_range1 hg hm (pa_cons p1 pa_nil ns) hs, fun G ads S H σ env k R c re hk q => ?_⟩
  refine s G ads S H σ env _ _ c re hk fun ads1 S1 H1 x v c1 e1 r1 k1 => ?_
  cases x with
  | int n =>
    simp only [Rep] at r1; subst r1
    refine ⟨n, rfl, k1.1.1, k1.1.2, ?_⟩
    have w := walks_rng (K := X.K) (G := G) (ads := ads1) (H := H1) (lo := 0) (hi := n)
    rw [Int.sub_zero] at w
    exact q ads1 S1 H1 _ _ c1 e1 w k1.2
  | _ => exact k1.elim
theorem di_rng2 {p : Pos} (hg : Gl X "range") (hm : X.mg "range" = none) (ha : DE X a Ta) (hb : DE X b Tb) (ns : starEach [a, b] X.env = (false, eval a X.env) :: starEach [b] X.env := by rfl) (ns2 : starEach [b] X.env = (false, eval b X.env) :: starEach [] X.env := by rfl)
    (hs : starEach [a, b] X.env = [(false, eval a X.env), (false, eval b X.env)] := by rfl) (hs2 : starEach [b] X.env = [(false, eval b X.env)] := by rfl) : DI' X tg (.Call (.Name "range" p) [a, b] [] pos) (iRng2 Ta Tb) := by
  obtain ⟨t, p1, s⟩ := ha.ex
  obtain ⟨u, p2, s2⟩ := hb.ex
  refine ⟨_, pi_range2 hg hm (pa_cons p1 (pa_cons p2 pa_nil ns2) ns) hs hs2, fun G ads S H σ env k R c re hk q => ?_⟩
  refine s G ads S H σ env _ _ c re hk fun ads1 S1 H1 x v c1 e1 r1 k1 => ?_
  refine s2 G ads1 S1 H1 σ env _ _ c1 (repE_evo e1 re) k1 fun ads2 S2 H2 y w c2 e2 r2 k2 => ?_
  split at k2
  · rename_i m n
    simp only [Rep] at r1 r2; subst r1 r2
    exact ⟨m, n, rfl, k2.1, q ads2 S2 H2 _ _ c2 (e1.trans e2) walks_rng k2.2⟩
  · exact k2.elim

/-! ### targets -/
theorem dg_name (i : Nat) {x : Str} (hN : X.N.Nodup) (hi : X.N[i]? = some x := by rfl) (hx : Loc X.env.scope x := by first | exact Or.inl rfl | exact Or.inr rfl) (hf : X.fn x = true ∨ X.env.scope.names.lookup x = some .local := by first | exact .inl rfl | exact .inr rfl | assumption) :
    DG X (.Name x pos) [i] (Dat.gName i) := ⟨_, pg_name hN hi hx hf, fun G ads S H σ env d v k Q c re r hk q => by
  have hk' : k (env.set i (some d)) S := by rw [← setE_eq]; exact hk
  refine q ads S H _ _ c (Evo.refl _ _) (repE_set re r) (fun j hj => ?_) (by simp) hk'
  have : i ≠ j := fun e => hj (by simp [e])
  rw [List.getElem?_set_ne this]⟩
theorem dgs_nil : DGs X [] [] Dat.gNil := ⟨_, pgs_nil, fun G ads S H σ env ds vs k Q c re r hk q => by
  cases ds with
  | nil =>
    simp only [RepL] at r; subst r
    exact ⟨rfl, q ads S H env σ c (Evo.refl _ _) re (fun _ _ => rfl) rfl hk⟩
  | cons _ _ => exact hk.elim⟩
theorem dgs_cons {e : Expr} {es : List Expr} {sl sl2 : List Nat} {g : DTG} {r : DTGs} (h : DG X e sl g) (h2 : DGs X es sl2 r) (hs : (assignEach (e :: es) X.env).map (·.2) = assign e X.env :: (assignEach es X.env).map (·.2) := by rfl) : DGs X (e :: es) (sl ++ sl2) (Dat.gCons g r) := by
  obtain ⟨t, p, s⟩ := h.ex
  obtain ⟨u, p2, s2⟩ := h2.ex
  refine ⟨_, pgs_cons p p2 hs, fun G ads S H σ env ds vs k Q c re r hk q => ?_⟩
  cases ds with
  | nil => exact hk.elim
  | cons d ds =>
    simp only [RepL] at r
    obtain ⟨v, r, rfl, h1, h3⟩ := r
    refine ⟨v, r, rfl, ?_⟩
    refine s G ads S H σ env d v _ _ c re h1 hk fun ads1 S1 H1 env1 σ1 c1 e1 re1 f1 l1 k1 => ?_
    refine s2 G ads1 S1 H1 σ1 env1 ds r _ _ c1 re1 (repL_evo e1 _ _ h3) k1 fun ads2 S2 H2 env2 σ2 c2 e2 re2 f2 l2 k2 => ?_
    exact q ads2 S2 H2 env2 σ2 c2 (e1.trans e2) re2 (fun i hi => (f2 i fun z => hi (List.mem_append_right _ z)).trans (f1 i fun z => hi (List.mem_append_left _ z))) (l2.trans l1) k2
theorem dg_tup {es : List Expr} {j n : Nat} {sl : List Nat} {r : DTGs} (hc : X.calm = true) (h : DGs X es sl r) (hn : (assignEach es X.env).length = n := by rfl) (hst : (assignEach es X.env).findIdx? (·.1) = none := by rfl) : DG X (.Tuple es j pos) sl (Dat.gTup n r) := by
  obtain ⟨t, p, s⟩ := h.ex
  refine ⟨_, pg_tup hc p hn hst, fun G ads S H σ env d v k Q c re rd hk q => ?_⟩
  cases d with
  | tup ds =>
    simp only [Rep] at rd
    obtain ⟨a, vs, rfl, h1, _, h3⟩ := rd
    refine ⟨a, vs, rfl, SqT.of h1, by rw [h3.length]; exact hk.1, ?_⟩
    exact s G ads S H σ env ds vs k Q c re h3 hk.2 q
  | _ => exact hk.elim
end
end Dat
set_option Elab.async false
set_option linter.all false
set_option maxRecDepth 100000
set_option maxHeartbeats 1000000
/-! DatS: list comprehensions, statements. -/
namespace Dat
open PySem PySem.Spec PyProof.Rows L2

/-! ### a list in the making: at D, which nobody knows of -/
def dropH (H : Hp) (p : Addr) : Hp := fun b => if b = p then none else H b
theorem dropH_ne {H : Hp} {p b : Addr} (h : b ≠ p) : dropH H p b = H b := by unfold dropH; rw [if_neg h]
theorem dropH_eq {H : Hp} {p : Addr} : dropH H p p = none := by unfold dropH; rw [if_pos rfl]
theorem dropH_upd {H : Hp} {p : Addr} {o : HO} : dropH (upd H p o) p = dropH H p := by
  funext b
  by_cases e : b = p
  · subst e; rw [dropH_eq, dropH_eq]
  · rw [dropH_ne e, dropH_ne e, upd_ne e]
theorem dropH_keeps {H : Hp} {p : Addr} : Keeps (dropH H p) H := fun b o h => by
  by_cases e : b = p
  · subst e; rw [dropH_eq] at h; cases h
  · rw [dropH_ne e] at h; exact h
abbrev Gh.plus (G : Gh) (p : Addr) : Gh := { G with mu0 := fun a => G.mu0 a ∨ a = p }
section
variable {K : PySem.W.Frag} {G : Gh} {ads ads' : List Addr} {S S' : Sto} {H H' : Hp} {p : Addr}
theorem ne_mu {o : HO} {a : Addr} (h : ¬ mu (G.plus p) ads a) : a ≠ p ∧ ¬ mu G ads a := ⟨fun e => h (.inl (.inr e)), fun q => h (q.elim (fun z => .inl (.inl z)) .inr)⟩
mutual
/-- an object of the callers' is changed: data stay -/
theorem rep_upd0 {mu : Addr → Prop} (hp : mu p) {o : HO} : ∀ (d : D) (v : V), Rep K mu ads H d v → Rep K mu ads (upd H p o) d v
  | .non, v, h => by simp only [Rep] at h ⊢; exact h
  | .bl b, v, h => by simp only [Rep] at h ⊢; exact h
  | .int i, v, h => by simp only [Rep] at h ⊢; exact h
  | .str s, v, h => by simp only [Rep] at h ⊢; exact h
  | .tup ds, v, h => by
    simp only [Rep] at h ⊢
    obtain ⟨a, vs, rfl, h1, h2, h3⟩ := h
    exact ⟨a, vs, rfl, by rw [upd_ne (show a ≠ p from fun e => h2 (e ▸ hp))]; exact h1, h2, repL_upd0 hp ds vs h3⟩
  | .lst ds, v, h => by
    simp only [Rep] at h ⊢
    obtain ⟨a, vs, rfl, h1, h2, h3⟩ := h
    exact ⟨a, vs, rfl, by rw [upd_ne (show a ≠ p from fun e => h2 (e ▸ hp))]; exact h1, h2, repL_upd0 hp ds vs h3⟩
  | .own n, v, h => by simp only [Rep] at h ⊢; exact h
  | .scr ns, v, h => by
    simp only [Rep] at h ⊢
    obtain ⟨a, rfl, h⟩ := h
    rcases h with ⟨h | ⟨u, h⟩, hm⟩ | h
    · exact ⟨a, rfl, .inl ⟨.inl (by rw [upd_ne (show a ≠ p from fun e => hm (e ▸ hp))]; exact h), hm⟩⟩
    · exact ⟨a, rfl, .inl ⟨.inr ⟨u, by rw [upd_ne (show a ≠ p from fun e => hm (e ▸ hp))]; exact h⟩, hm⟩⟩
    · exact ⟨a, rfl, .inr h⟩
theorem repL_upd0 {mu : Addr → Prop} (hp : mu p) {o : HO} : ∀ (ds : List D) (vs : List V), RepL K mu ads H ds vs → RepL K mu ads (upd H p o) ds vs
  | [], vs, h => by simp only [RepL] at h ⊢; exact h
  | d :: ds, vs, h => by
    simp only [RepL] at h ⊢
    obtain ⟨v, r, rfl, h1, h2⟩ := h
    exact ⟨v, r, rfl, rep_upd0 hp d v h1, repL_upd0 hp ds r h2⟩
end
theorem repKV_upd0 {κ ι : Type} {f : κ → ι} {mu : Addr → Prop} (hp : mu p) {o : HO} : ∀ (ds : List (κ × D)) (vs : List (ι × V)), RepKV f K mu ads H ds vs → RepKV f K mu ads (upd H p o) ds vs
  | [], vs, h => by simp only [RepKV] at h ⊢; exact h
  | d :: ds, vs, h => by
    simp only [RepKV] at h ⊢
    obtain ⟨v, r, rfl, h1, h2⟩ := h
    exact ⟨v, r, rfl, rep_upd0 hp d.2 v h1, repKV_upd0 hp ds r h2⟩
theorem mo_upd0 {mu : Addr → Prop} (hp : mu p) {o : HO} {a : Addr} (hne : a ≠ p) : ∀ {mo : MO}, MoOk K mu ads H a mo → MoOk K mu ads (upd H p o) a mo
  | .lst ds, ⟨vs, h1, h2⟩ => ⟨vs, by rw [upd_ne hne]; exact h1, repL_upd0 hp _ _ h2⟩
  | .dct ds, ⟨vs, h1, h2⟩ => ⟨vs, by rw [upd_ne hne]; exact h1, repKV_upd0 hp _ _ h2⟩
  | .dtt ds, ⟨vs, h1, h2⟩ => ⟨vs, by rw [upd_ne hne]; exact h1, repKV_upd0 hp _ _ h2⟩
  | .dead, _ => trivial
/-- at a free address a list is begun -/
theorem Cur.begin (c : Cur K G ads S H) (hp : H p = none) {o : HO} : Cur K (G.plus p) ads S (upd H p o) := by
  have kp : Keeps H (upd H p o) := Keeps.new hp
  have hn := c.nomu hp
  refine ⟨c.len, c.nd, fun b u h hb => kp b u (c.base b u h hb), c.fresh, fun a h => ?_, fun a h => ?_, c.wsub, fun n mo h => ?_⟩
  · rcases h with (h | h) | h
    · obtain ⟨u, z⟩ := c.trk a (.inl h); exact ⟨u, kp a u z⟩
    · subst h; exact ⟨o, upd_same⟩
    · obtain ⟨u, z⟩ := c.trk a (.inr h); exact ⟨u, kp a u z⟩
  · rcases h with h | h
    · exact c.apart a h
    · subst h; exact fun z => hn (.inr z)
  · obtain ⟨a, h1, h2⟩ := c.obj n mo h
    obtain ⟨u, z⟩ := c.trk a (.inr (List.mem_of_getElem? h1))
    refine ⟨a, h1, ?_⟩
    have w : Wider G (G.plus p) H := fun a h => h.elim .inl fun e => .inr (e ▸ hp)
    have e := kp.evo ads
    cases mo with
    | lst ds => obtain ⟨vs, q1, q2⟩ := h2; exact ⟨vs, kp a _ q1, repL_evo2 w e _ _ q2⟩
    | dct ds => obtain ⟨vs, q1, q2⟩ := h2; exact ⟨vs, kp a _ q1, kvw w e _ _ q2⟩
    | dtt ds => obtain ⟨vs, q1, q2⟩ := h2; exact ⟨vs, kp a _ q1, kvw w e _ _ q2⟩
    | dead => trivial
where kvw {κ ι : Type} {f : κ → ι} {G G' : Gh} {ads ads' : List Addr} {H H' : Hp} (w : Wider G G' H) (e : Evo ads H ads' H') : ∀ (ds : List (κ × D)) (vs : List (ι × V)), RepKV f K (mu G ads) ads H ds vs → RepKV f K (mu G' ads') ads' H' ds vs
  | [], vs, h => by simp only [RepKV] at h ⊢; exact h
  | d :: ds, vs, h => by
    simp only [RepKV] at h ⊢
    obtain ⟨v, r, rfl, h1, h2⟩ := h
    exact ⟨v, r, rfl, rep_evo2 w e d.2 v h1, kvw w e ds r h2⟩
/-- it grows -/
theorem Cur.grow (c : Cur K (G.plus p) ads S H) (h0 : G.H0 p = none) {o : HO} : Cur K (G.plus p) ads S (upd H p o) := by
  have hn : p ∉ ads := c.apart p (.inr rfl)
  refine ⟨c.len, c.nd, fun b u h hb => ?_, c.fresh, fun a h => ?_, c.apart, c.wsub, fun n mo h => ?_⟩
  · by_cases e : b = p
    · subst e
      have h' : G.H0 b = some u := h
      rw [h0] at h'; cases h'
    · rw [upd_ne e]; exact c.base b u h hb
  · by_cases e : a = p
    · subst e; exact ⟨o, upd_same⟩
    · obtain ⟨u, z⟩ := c.trk a h; exact ⟨u, by rw [upd_ne e]; exact z⟩
  · obtain ⟨a, h1, h2⟩ := c.obj n mo h
    have hne : a ≠ p := fun e => hn (e ▸ List.mem_of_getElem? h1)
    exact ⟨a, h1, mo_upd0 (.inl (.inr rfl)) hne h2⟩
mutual
theorem rep_drop : ∀ (d : D) (v : V), Rep K (mu (G.plus p) ads) ads H d v → Rep K (mu G ads) ads (dropH H p) d v
  | .non, v, h => by simp only [Rep] at h ⊢; exact h
  | .bl b, v, h => by simp only [Rep] at h ⊢; exact h
  | .int i, v, h => by simp only [Rep] at h ⊢; exact h
  | .str s, v, h => by simp only [Rep] at h ⊢; exact h
  | .tup ds, v, h => by
    simp only [Rep] at h ⊢
    obtain ⟨a, vs, rfl, h1, h2, h3⟩ := h
    have q := ne_mu (o := .tup vs) h2
    exact ⟨a, vs, rfl, by rw [dropH_ne q.1]; exact h1, q.2, repL_drop ds vs h3⟩
  | .lst ds, v, h => by
    simp only [Rep] at h ⊢
    obtain ⟨a, vs, rfl, h1, h2, h3⟩ := h
    have q := ne_mu (o := .lst vs) h2
    exact ⟨a, vs, rfl, by rw [dropH_ne q.1]; exact h1, q.2, repL_drop ds vs h3⟩
  | .own n, v, h => by simp only [Rep] at h ⊢; exact h
  | .scr ns, v, h => by
    simp only [Rep] at h ⊢
    obtain ⟨a, rfl, h⟩ := h
    rcases h with ⟨h | ⟨u, h⟩, hm⟩ | h
    · have q := ne_mu (o := .tup []) hm
      exact ⟨a, rfl, .inl ⟨.inl (by rw [dropH_ne q.1]; exact h), q.2⟩⟩
    · have q := ne_mu (o := .tup []) hm
      exact ⟨a, rfl, .inl ⟨.inr ⟨u, by rw [dropH_ne q.1]; exact h⟩, q.2⟩⟩
    · exact ⟨a, rfl, .inr h⟩
theorem repL_drop : ∀ (ds : List D) (vs : List V), RepL K (mu (G.plus p) ads) ads H ds vs → RepL K (mu G ads) ads (dropH H p) ds vs
  | [], vs, h => by simp only [RepL] at h ⊢; exact h
  | d :: ds, vs, h => by
    simp only [RepL] at h ⊢
    obtain ⟨v, r, rfl, h1, h2⟩ := h
    exact ⟨v, r, rfl, rep_drop d v h1, repL_drop ds r h2⟩
end
theorem repKV_drop {κ ι : Type} {f : κ → ι} : ∀ (ds : List (κ × D)) (vs : List (ι × V)), RepKV f K (mu (G.plus p) ads) ads H ds vs → RepKV f K (mu G ads) ads (dropH H p) ds vs
  | [], vs, h => by simp only [RepKV] at h ⊢; exact h
  | d :: ds, vs, h => by
    simp only [RepKV] at h ⊢
    obtain ⟨v, r, rfl, h1, h2⟩ := h
    exact ⟨v, r, rfl, rep_drop d.2 v h1, repKV_drop ds r h2⟩
/-- .. and is forgotten -/
theorem Cur.dropped (c : Cur K (G.plus p) ads S H) (h0 : G.H0 p = none) (hm : ¬ G.mu0 p) : Cur K G ads S (dropH H p) := by
  have hn : p ∉ ads := c.apart p (.inr rfl)
  refine ⟨c.len, c.nd, fun b u h hb => ?_, c.fresh, fun a h => ?_, fun a h => c.apart a (.inl h), c.wsub, fun n mo h => ?_⟩
  · have e : b ≠ p := fun e => by subst e; rw [h0] at h; cases h
    rw [dropH_ne e]; exact c.base b u h hb
  · have e : a ≠ p := fun e => by
      subst e
      exact h.elim hm hn
    obtain ⟨u, z⟩ := c.trk a (h.elim (fun z => .inl (.inl z)) .inr)
    exact ⟨u, by rw [dropH_ne e]; exact z⟩
  · obtain ⟨a, h1, h2⟩ := c.obj n mo h
    have hne : a ≠ p := fun e => hn (e ▸ List.mem_of_getElem? h1)
    refine ⟨a, h1, ?_⟩
    cases mo with
    | lst ds => obtain ⟨vs, q1, q2⟩ := h2; exact ⟨vs, by rw [dropH_ne hne]; exact q1, repL_drop _ _ q2⟩
    | dct ds => obtain ⟨vs, q1, q2⟩ := h2; exact ⟨vs, by rw [dropH_ne hne]; exact q1, repKV_drop _ _ q2⟩
    | dtt ds => obtain ⟨vs, q1, q2⟩ := h2; exact ⟨vs, by rw [dropH_ne hne]; exact q1, repKV_drop _ _ q2⟩
    | dead => trivial
theorem Evo.dropped (e : Evo ads H ads' H') (hp : p ∉ ads) (hp' : p ∉ ads') : Evo ads (dropH H p) ads' (dropH H' p) := by
  obtain ⟨⟨m, rfl, hm⟩, fr, th⟩ := e
  refine ⟨⟨m, rfl, fun a ha => ?_⟩, fun b o h hb => ?_, fun a ha h => ?_⟩
  · by_cases q : a = p
    · subst q; exact dropH_eq
    · rw [dropH_ne q]; exact hm a ha
  · by_cases q : b = p
    · subst q; rw [dropH_eq] at h; cases h
    · rw [dropH_ne q] at h ⊢; exact fr b o h hb
  · have q : a ≠ p := fun e => hp (e ▸ ha)
    rw [dropH_ne q] at h ⊢
    exact th a ha h
end

/-! ### list comprehensions -/
theorem wipeE_len (env : Env) : ∀ vs : List Nat, (wipeE env vs).length = env.length
  | [] => rfl
  | v :: vs => by unfold wipeE; rw [clrE_eq, List.length_set, wipeE_len env vs]
theorem wipe_get (σ : L2.St) (i : Nat) : ∀ vs : List Nat, (wipe σ vs)[i]? = if i ∈ vs then σ[i]?.map (fun _ => none) else σ[i]?
  | [] => by simp [wipe]
  | v :: vs => by
    unfold wipe
    by_cases e : v = i
    · subst e
      rw [if_pos (List.mem_cons_self)]
      by_cases hl : v < σ.length
      · rw [List.getElem?_set_self (by rw [wipe_length]; exact hl), List.getElem?_eq_getElem hl]; rfl
      · rw [List.getElem?_eq_none (by rw [List.length_set, wipe_length]; omega), List.getElem?_eq_none (by omega)]; rfl
    · rw [List.getElem?_set_ne e, wipe_get σ i vs]
      have : (i ∈ v :: vs) ↔ i ∈ vs := by simp [Ne.symm e]
      simp only [this]
theorem wipeE_get (σ : Env) (i : Nat) : ∀ vs : List Nat, (wipeE σ vs)[i]? = if i ∈ vs then σ[i]?.map (fun _ => none) else σ[i]?
  | [] => by simp [wipeE]
  | v :: vs => by
    unfold wipeE
    rw [clrE_eq]
    by_cases e : v = i
    · subst e
      rw [if_pos (List.mem_cons_self)]
      by_cases hl : v < σ.length
      · rw [List.getElem?_set_self (by rw [wipeE_len]; exact hl), List.getElem?_eq_getElem hl]; rfl
      · rw [List.getElem?_eq_none (by rw [List.length_set, wipeE_len]; omega), List.getElem?_eq_none (by omega)]; rfl
    · rw [List.getElem?_set_ne e, wipeE_get σ i vs]
      have : (i ∈ v :: vs) ↔ i ∈ vs := by simp [Ne.symm e]
      simp only [this]
theorem repE_wipe {K : PySem.W.Frag} {mu : Addr → Prop} {ads : List Addr} {H : Hp} {env : Env} {σ : L2.St} (vs : List Nat) (h : RepE K mu ads H env σ) : RepE K mu ads H (wipeE env vs) (wipe σ vs) := by
  refine ⟨by rw [wipeE_len, wipe_length]; exact h.1, fun i d q => ?_⟩
  rw [wipeE_get] at q
  split at q
  · cases hx : env[i]? with
    | none => rw [hx] at q; cases q
    | some o => rw [hx] at q; cases q
  · rename_i hi
    obtain ⟨v, q1, q2⟩ := h.2 i d q
    exact ⟨v, by rw [wipe_get, if_neg hi]; exact q1, q2⟩
theorem wipe_same {σ σ2 : L2.St} {vs : List Nat} (h : ∀ i, i ∉ vs → σ2[i]? = (wipe σ vs)[i]?) (hl : σ2.length = (wipe σ vs).length) : wipe σ2 vs = wipe σ vs := by
  apply List.ext_getElem?
  intro i
  rw [wipe_get]
  by_cases hi : i ∈ vs
  · rw [if_pos hi, wipe_get, if_pos hi]
    rw [wipe_length] at hl
    by_cases hlt : i < σ.length
    · rw [List.getElem?_eq_getElem hlt, List.getElem?_eq_getElem (by omega)]; rfl
    · rw [List.getElem?_eq_none (by omega : σ2.length ≤ i), List.getElem?_eq_none (by omega : σ.length ≤ i)]
  · rw [if_neg hi, h i hi]

theorem snd_lc {K : PySem.W.Frag} {wi : TI} {it : DTI} {g : TG} {Tg : DTG} {tt : TT} {Tt : DTT} {te : TE} {Te : DTE} {sl vs : List Nat} (hi : SndW K wi it) (hg : SndG K sl g Tg) (ht : SndT K tt Tt) (he : SndE K te Te) (hsl : ∀ i ∈ sl, i ∈ vs) :
    SndN K (tLc wi g tt te vs) (nLc it Tg Tt Te vs) := fun G ads S H σ env k Q c re hk q => by
  refine hi G ads S H σ env _ _ c re hk fun ads1 S1 H1 J ds c1 e1 wk k1 => fun p hp => ?_
  have h0 : G.H0 p = none := c1.none0 hp
  have hm0 : ¬ G.mu0 p := fun z => c1.nomu hp (.inl z)
  have hpa1 : p ∉ ads1 := fun z => c1.nomu hp (.inr z)
  have hd1 : dropH H1 p = H1 := by
    funext b
    by_cases e : b = p
    · subst e; rw [dropH_eq, hp]
    · exact dropH_ne e
  refine ⟨fun i m H => m = ds.length - i ∧ i ≤ ds.length ∧ ∃ ads2 S2 acc vsa, Cur K (G.plus p) ads2 S2 H ∧ H p = some (.lst vsa) ∧ Evo ads1 H1 ads2 (dropH H p) ∧ RepL K (mu (G.plus p) ads2) ads2 H acc vsa ∧ lcT Tg Tt Te (wipeE env vs) (ds.drop i) acc S2 k,
    ⟨ds.length, by simp, Nat.zero_le _, ads1, S1, [], [], c1.begin hp, upd_same, ?_, .nil, by simpa using k1⟩, ?_⟩
  · rw [dropH_upd, hd1]; exact Evo.refl _ _
  rintro i m H2 ⟨rfl, hile, ads2, S2, acc, vsa, c2, hacc, ev2, racc, kk⟩
  have hpa2 : p ∉ ads2 := c2.apart p (.inr rfl)
  have ev2' : Evo ads1 H1 ads2 H2 := ev2.trans (dropH_keeps.evo ads2)
  have w2 : Wider G (G.plus p) H1 := fun a h => h.elim .inl fun e => .inr (e ▸ hp)
  obtain ⟨wgo, wstop, wy⟩ := wk (G.plus p) ads2 S2 H2 w2 c2 ev2'
  by_cases hlt : i < ds.length
  · refine .inr ⟨wgo i hlt, fun H' => ∃ m', m' < ds.length - i ∧ (m' = ds.length - (i + 1) ∧ i + 1 ≤ ds.length ∧ ∃ ads2 S2 acc vsa, Cur K (G.plus p) ads2 S2 H' ∧ H' p = some (.lst vsa) ∧ Evo ads1 H1 ads2 (dropH H' p) ∧ RepL K (mu (G.plus p) ads2) ads2 H' acc vsa ∧ lcT Tg Tt Te (wipeE env vs) (ds.drop (i + 1)) acc S2 k), fun H' hN => hN, fun x H3 hy => ?_⟩
    obtain ⟨kp3, d, hd, rd⟩ := wy i x H3 hlt hy
    have hcons : ds.drop i = d :: ds.drop (i + 1) := by
      have := List.drop_eq_getElem_cons hlt
      rw [this]
      have : ds[i] = d := by
        rw [List.getElem?_eq_getElem hlt] at hd
        exact Option.some.inj hd
      rw [this]
    rw [hcons] at kk
    unfold lcT at kk
    have c3 := c2.keeps kp3
    have ev3 : Evo ads2 H2 ads2 H3 := kp3.evo ads2
    have re3 : RepE K (mu (G.plus p) ads2) ads2 H3 (wipeE env vs) (wipe σ vs) := repE_wipe vs (repE_evo ev3 (repE_evo2 w2 ev2' (repE_evo e1 re)))
    refine hg (G.plus p) ads2 S2 H3 (wipe σ vs) (wipeE env vs) d x _ _ c3 re3 rd kk fun ads4 S4 H4 env4 σ4 c4 e4 re4 f4 l4 k4 => ⟨wipe_same (fun j hj => f4 j fun z => hj (hsl j z)) l4, ?_⟩
    refine ht (G.plus p) ads4 S4 H4 σ4 env4 _ _ c4 re4 k4 fun ads5 S5 H5 b c5 e5 k5 => ?_
    have ev5 : Evo ads2 H2 ads5 H5 := (ev3.trans e4).trans e5
    cases b with
    | true =>
      refine he (G.plus p) ads5 S5 H5 σ4 env4 _ _ c5 (repE_evo e5 re4) k5 fun ads6 S6 H6 y w c6 e6 r6 k6 => ?_
      have ev6 : Evo ads2 H2 ads6 H6 := ev5.trans e6
      have hacc6 : H6 p = some (.lst vsa) := ev6.frame _ _ hacc hpa2
      have hpa6 : p ∉ ads6 := c6.apart p (.inr rfl)
      have racc6 := repL_evo ev6 _ _ racc
      refine ⟨vsa, hacc6, by rw [racc6.length]; exact k6.1, ds.length - (i + 1), by omega, rfl, hlt, ads6, S6, acc ++ [y], vsa ++ [w], c6.grow h0, upd_same, ?_, ?_, k6.2⟩
      · rw [dropH_upd]
        exact ev2.trans (ev6.dropped hpa2 hpa6)
      · exact repL_upd0 (.inl (.inr rfl)) _ _ (racc6.app (.one r6))
    | false =>
      have hpa5 : p ∉ ads5 := c5.apart p (.inr rfl)
      exact ⟨ds.length - (i + 1), by omega, rfl, hlt, ads5, S5, acc, vsa, c5, ev5.frame _ _ hacc hpa2, ev2.trans (ev5.dropped hpa2 hpa5), repL_evo ev5 _ _ racc, k5⟩
  · have ei : i = ds.length := by omega
    subst ei
    refine .inl ⟨wstop, ?_⟩
    rw [List.drop_length] at kk
    exact q ads2 S2 (dropH H2 p) H2 p acc vsa (c2.dropped h0 hm0) (e1.trans ev2) dropH_eq dropH_keeps hacc (repL_drop _ _ racc) kk

structure DTs (X : Cx) (ifs : List Expr) (T : DTT) : Prop where
  ex : ∃ t, PTs X ifs t ∧ SndT X.K t T
section
variable {X : Cx}
theorem dts_nil : DTs X [] Dat.tYes := ⟨_, pts_nil, fun G ads S H σ env k Q c re h q => q ads S H true c (Evo.refl _ _) h⟩
theorem dts_one {c : Expr} {T : DTT} (h : DT X c T) : DTs X [c] T := by
  obtain ⟨t, p, s⟩ := h.ex
  exact ⟨_, pts_one p, s⟩
end

/-! ### one reading for all contexts -/
def canE (K : PySem.W.Frag) (T : DTE) : TE := fun σ H Q => ∃ (G : Gh) (ads : List Addr) (S : Sto) (env : Env) (k : DK), Cur K G ads S H ∧ RepE K (mu G ads) ads H env σ ∧ T env S k ∧ PostE K G ads H k Q
def canT (K : PySem.W.Frag) (T : DTT) : TT := fun σ H Q => ∃ (G : Gh) (ads : List Addr) (S : Sto) (env : Env) (k : Bool → Sto → Prop), Cur K G ads S H ∧ RepE K (mu G ads) ads H env σ ∧ T env S k ∧
  ∀ ads' S' H' b, Cur K G ads' S' H' → Evo ads H ads' H' → k b S' → Q b H'
def canG (K : PySem.W.Frag) (sl : List Nat) (T : DTG) : TG := fun v σ H Q => ∃ (G : Gh) (ads : List Addr) (S : Sto) (env : Env) (d : D) (k : Env → Sto → Prop), Cur K G ads S H ∧ RepE K (mu G ads) ads H env σ ∧ Rep K (mu G ads) ads H d v ∧ T d env S k ∧
  ∀ ads' S' H' env' σ', Cur K G ads' S' H' → Evo ads H ads' H' → RepE K (mu G ads') ads' H' env' σ' → (∀ i, i ∉ sl → σ'[i]? = σ[i]?) → σ'.length = σ.length → k env' S' → Q σ' H'
theorem snd_canE {K : PySem.W.Frag} {T : DTE} : SndE K (canE K T) T := fun G ads S H σ env k Q c re h q => ⟨G, ads, S, env, k, c, re, h, q⟩
theorem snd_canT {K : PySem.W.Frag} {T : DTT} : SndT K (canT K T) T := fun G ads S H σ env k Q c re h q => ⟨G, ads, S, env, k, c, re, h, q⟩
theorem snd_canG {K : PySem.W.Frag} {sl : List Nat} {T : DTG} : SndG K sl (canG K sl T) T := fun G ads S H σ env d v k Q c re r h q => ⟨G, ads, S, env, d, k, c, re, r, h, q⟩
section
variable {X : Cx}
theorem DE.can {e : Expr} {T : DTE} (h : DE X e T) : PE X e (canE X.K T) := by
  obtain ⟨t, p, s⟩ := h.ex
  exact ⟨fun pins st σ H Q I ⟨G, ads, S, env, k, c, re, hT, q⟩ => p.run pins st σ H Q I (s G ads S H σ env k Q c re hT q)⟩
theorem DTs.can {e : List Expr} {T : DTT} (h : DTs X e T) : PTs X e (canT X.K T) := by
  obtain ⟨t, p, s⟩ := h.ex
  exact ⟨fun pins st σ H Q I ⟨G, ads, S, env, k, c, re, hT, q⟩ => p.run pins st σ H Q I (s G ads S H σ env k Q c re hT q)⟩
theorem DG.can {e : Expr} {sl : List Nat} {T : DTG} (h : DG X e sl T) : PG X e (canG X.K sl T) := by
  obtain ⟨t, p, s⟩ := h.ex
  exact ⟨fun pins st σ H v u Q I r ⟨G, ads, S, env, d, k, c, re, rd, hT, q⟩ => p.run pins st σ H v u Q I r (s G ads S H σ env d v k Q c re rd hT q)⟩
/-- [elt for tg in iter if ..] -/
theorem dn_lc {elt tg iter : Expr} {ifs : List Expr} {scope : Scope} {own : List (Str × Nat)} {pos : Pos} {it : DTI} {Tg : DTG} {Tt : DTT} {Te : DTE} {sl : List Nat} (hc : X.calm = true) (hN : X.N.Nodup) (hi : DI' X tg iter it) (ok : BlkOk X.N X.env.scope scope own)
    (hg : ∀ (s : Shared) (H : Hp) (C : Addr) (cl : List (Str × Addr)) (fp : List Addr), DG (X.blk s H scope (compEnvC scope cl C X.env) fp) tg sl Tg)
    (ht : ∀ (s : Shared) (H : Hp) (C : Addr) (cl : List (Str × Addr)) (fp : List Addr), DTs (X.blk s H scope (compEnvC scope cl C X.env) fp) ifs Tt)
    (he : ∀ (s : Shared) (H : Hp) (C : Addr) (cl : List (Str × Addr)) (fp : List Addr), DE (X.blk s H scope (compEnvC scope cl C X.env) fp) elt Te)
    (hsl : ∀ i ∈ sl, i ∈ own.map (·.2) := by decide) (hs : ∀ x, foldedSetIterable iter X.env x = pure x := by intro _; rfl) : DN X (.ListComp elt [⟨tg, iter, ifs, 0⟩] scope pos) (nLc it Tg Tt Te (own.map (·.2))) := by
  obtain ⟨wi, p, s⟩ := hi.ex
  exact ⟨_, pe_lc hc hN p ok (fun s H C cl fp => (hg s H C cl fp).can) (fun s H C cl fp => (ht s H C cl fp).can) (fun s H C cl fp => (he s H C cl fp).can) hs, snd_lc s snd_canG snd_canT snd_canE hsl⟩

/-! ### statements -/
variable {K : PySem.W.Frag}
theorem PostS.evo {G : Gh} {ads ads' : List Addr} {H H' : Hp} {E : DEnds} {D : Ends} (p : PostS K G ads H E D) (e : Evo ads H ads' H') : PostS K G ads' H' E D :=
  ⟨fun a S h env σ c v => p.nx a S h env σ c (e.trans v), fun a S h d w c v => p.rt a S h d w c (e.trans v), fun a S h env σ c v => p.bk a S h env σ c (e.trans v), fun a S h env σ c v => p.ct a S h env σ c (e.trans v)⟩
variable {st : Stmt} {rest : List Stmt} {T U : DTS} {pos : Pos}
theorem dss_nil : DSs X [] sNext := ⟨_, pss_nil, fun G ads S H σ env E D c re h p => p.nx ads S H env σ c (Evo.refl _ _) re h⟩
theorem dss_cons (h : DS X st T) (h2 : DSs X rest U) : DSs X (st :: rest) (sSeq T U) := by
  obtain ⟨t, p, s⟩ := h.ex
  obtain ⟨u, p2, s2⟩ := h2.ex
  refine ⟨_, pss_cons p p2, fun G ads S H σ env E D c re hT q => ?_⟩
  refine s G ads S H σ env _ _ c re hT ⟨fun a S' H' env' σ' c' v re' k => ?_, q.rt, q.bk, q.ct⟩
  exact s2 G a S' H' σ' env' E D c' re' k (q.evo v)
theorem dss_one (h : DS X st T) : DSs X [st] T := by
  obtain ⟨t, p, s⟩ := h.ex
  exact ⟨_, pss_one p, s⟩
theorem ds_drop {e : Expr} {Te : DTE} (h : DE X e Te) (hs : swapsWith e none pos.line X.env = pure false := by rfl) : DS X (.Expr e pos) (sDrop Te) := by
  obtain ⟨t, p, s⟩ := h.ex
  refine ⟨_, ps_expr p hs, fun G ads S H σ env E D c re hT q => ?_⟩
  exact s G ads S H σ env _ _ c re hT fun a S' H' d v c' ev r k => q.nx a S' H' env σ c' ev (repE_evo ev re) k
theorem ds_ret {e : Expr} {Te : DTE} (h : DE X e Te) : DS X (.Return (some e) pos) (sRet Te) := by
  obtain ⟨t, p, s⟩ := h.ex
  refine ⟨_, ps_ret p, fun G ads S H σ env E D c re hT q => ?_⟩
  exact s G ads S H σ env _ _ c re hT q.rt
theorem ds_retN {e : Expr} {Tn : DTA} (h : DN X e Tn) : DS X (.Return (some e) pos) (sRetN Tn) := by
  obtain ⟨t, p, s⟩ := h.ex
  refine ⟨_, ps_ret p, fun G ads S H σ env E D c re hT q => ?_⟩
  refine s G ads S H σ env _ _ c re hT fun a S' H1 H' p ds vs c' ev hp kp hl r k => ?_
  have ev2 : Evo a H1 (a ++ [p]) H' := evo_push hp kp
  have r2 := repL_evo ev2 _ _ r
  refine q.rt (a ++ [p]) (S' ++ [.lst ds]) H' _ _ (c'.push (mo := .lst ds) hp kp hl ⟨vs, hl, r2⟩) (ev.trans ev2) ?_ k
  simp only [Rep]
  exact ⟨p, by rw [c'.len]; simp, rfl⟩
theorem ds_if {c : Expr} {a b : List Stmt} {Tc : DTT} (hc : DT X c Tc) (ha : DSs X a T) (hb : DSs X b U) : DS X (.If c a b pos) (sIf Tc T U) := by
  obtain ⟨tc, p0, s0⟩ := hc.ex
  obtain ⟨t, p, s⟩ := ha.ex
  obtain ⟨u, p2, s2⟩ := hb.ex
  refine ⟨_, ps_if p0 p p2, fun G ads S H σ env E D c re hT q => ?_⟩
  refine s0 G ads S H σ env _ _ c re hT fun a S' H' b c' ev k => ?_
  cases b with
  | true => exact s G a S' H' σ env E D c' (repE_evo ev re) k (q.evo ev)
  | false => exact s2 G a S' H' σ env E D c' (repE_evo ev re) k (q.evo ev)
theorem ds_set (i : Nat) {x : Str} {e : Expr} {Te : DTE} {pos' : Pos} (hN : X.N.Nodup) (h : DE X e Te) (hi : X.N[i]? = some x := by rfl) (hx : Loc X.env.scope x := by first | exact Or.inl rfl | exact Or.inr rfl) (hs : swapsWith e (some (.Name x pos')) pos.line X.env = pure false := by rfl)
    (hf : X.fn x = true ∨ X.env.scope.names.lookup x = some .local := by first | exact .inl rfl | exact .inr rfl | assumption) : DS X (.Assign [.Name x pos'] e pos) (sSet i Te) := by
  obtain ⟨t, p, s⟩ := h.ex
  refine ⟨_, ps_set hN hi hx p hs hf, fun G ads S H σ env E D c re hT q => ?_⟩
  exact s G ads S H σ env _ _ c re hT fun a S' H' d v c' ev r k => q.nx a S' H' _ _ c' ev (by rw [setE_eq]; exact repE_set (repE_evo ev re) r) k
theorem snd_own {te : TE} {Tn : DTA} {i : Nat} (s : SndN K te Tn) {D : Ends} {G : Gh} {ads : List Addr} {S : Sto} {H : Hp} {σ : L2.St} {env : Env} {E : DEnds} (c : Cur K G ads S H) (re : RepE K (mu G ads) ads H env σ) (hT : sOwn i Tn E env S) (q : PostS K G ads H E D) :
    te σ H fun x H1 => D.nx (σ.set i (some x)) H1 := by
  refine s G ads S H σ env _ _ c re hT fun a S' H1 H' p ds vs c' ev hp kp hl r k => ?_
  have ev2 : Evo a H1 (a ++ [p]) H' := evo_push hp kp
  have r2 := repL_evo ev2 _ _ r
  refine q.nx (a ++ [p]) (S' ++ [.lst ds]) H' _ _ (c'.push (mo := .lst ds) hp kp hl ⟨vs, hl, r2⟩) (ev.trans ev2) (by rw [setE_eq]; exact repE_set (repE_evo (ev.trans ev2) re) (by simp only [Rep]; exact ⟨p, by rw [c'.len]; simp, rfl⟩)) k
/-- x = a new list that is changed later -/
theorem ds_own (i : Nat) {x : Str} {e : Expr} {Tn : DTA} {pos' : Pos} (hN : X.N.Nodup) (h : DN X e Tn) (hi : X.N[i]? = some x := by rfl) (hx : Loc X.env.scope x := by first | exact Or.inl rfl | exact Or.inr rfl) (hs : swapsWith e (some (.Name x pos')) pos.line X.env = pure false := by rfl)
    (hf : X.fn x = true ∨ X.env.scope.names.lookup x = some .local := by first | exact .inl rfl | exact .inr rfl | assumption) : DS X (.Assign [.Name x pos'] e pos) (sOwn i Tn) := by
  obtain ⟨t, p, s⟩ := h.ex
  exact ⟨_, ps_set hN hi hx p hs hf, fun G ads S H σ env E D c re hT q => snd_own s c re hT q⟩
/-- x = [..]: the comprehension stores into a plain local name -/
theorem ds_setLc (i : Nat) {y : Str} {py : Pos} {elt tg iter : Expr} {ifs : List Expr} {scope : Scope} {own : List (Str × Nat)} {spos : Pos} {it : DTI} {Tg : DTG} {Tt : DTT} {Te : DTE} {sl : List Nat} (hc : X.calm = true) (hN : X.N.Nodup) (hsw : swapsWith (.ListComp elt [⟨tg, iter, ifs, 0⟩] scope pos) (some (.Name y py)) spos.line X.env = pure true)
    (hi : DI' X tg iter it) (ok : BlkOk X.N X.env.scope scope own)
    (hg : ∀ (s : Shared) (H : Hp) (C : Addr) (cl : List (Str × Addr)) (fp : List Addr), DG (X.blk s H scope (compEnvC scope cl C X.env) fp) tg sl Tg)
    (ht : ∀ (s : Shared) (H : Hp) (C : Addr) (cl : List (Str × Addr)) (fp : List Addr), DTs (X.blk s H scope (compEnvC scope cl C X.env) fp) ifs Tt)
    (he : ∀ (s : Shared) (H : Hp) (C : Addr) (cl : List (Str × Addr)) (fp : List Addr), DE (X.blk s H scope (compEnvC scope cl C X.env) fp) elt Te)
    (hy : X.N[i]? = some y := by rfl) (hyl : X.env.scope.names.lookup y = some .local := by rfl)
    (hsl : ∀ i ∈ sl, i ∈ own.map (·.2) := by decide) (hs : ∀ x, foldedSetIterable iter X.env x = pure x := by intro _; rfl) : DS X (.Assign [.Name y py] (.ListComp elt [⟨tg, iter, ifs, 0⟩] scope pos) spos) (sSet i (dNew (nLc it Tg Tt Te (own.map (·.2))))) := by
  obtain ⟨wi, p, s⟩ := hi.ex
  have sn := snd_new (snd_lc s (snd_canG (K := X.K) (sl := sl) (T := Tg)) (snd_canT (K := X.K) (T := Tt)) (snd_canE (K := X.K) (T := Te)) hsl)
  refine ⟨_, ps_setLc (g := canG X.K sl Tg) (tt := canT X.K Tt) (te := canE X.K Te) hc hN hy hyl hsw p ok (fun s H C cl fp => (hg s H C cl fp).can) (fun s H C cl fp => (ht s H C cl fp).can) (fun s H C cl fp => (he s H C cl fp).can) hs, fun G ads S H σ env E D c re hT q => ?_⟩
  exact sn G ads S H σ env _ _ c re hT fun a S' H' d v c' ev r k => q.nx a S' H' _ _ c' ev (by rw [setE_eq]; exact repE_set (repE_evo ev re) r) k
theorem ds_asg {tg e : Expr} {Te : DTE} {sl : List Nat} {Tg : DTG} (h : DE X e Te) (hg : DG X tg sl Tg) (hs : swapsWithSole [tg] e pos.line X.env = pure false := by rfl) (hw : swappedStores [tg] e X.env = pure none := by rfl)
    (h1 : (assignEach [tg] X.env).map (·.2) = [assign tg X.env] := by rfl) : DS X (.Assign [tg] e pos) (sAsg Tg Te) := by
  obtain ⟨t, p, s⟩ := h.ex
  obtain ⟨u, p2, s2⟩ := hg.ex
  refine ⟨_, ps_asg p p2 hs hw h1, fun G ads S H σ env E D c re hT q => ?_⟩
  refine s G ads S H σ env _ _ c re hT fun a S' H' d v c' ev r k => ?_
  exact s2 G a S' H' σ env d v _ _ c' (repE_evo ev re) r k fun a2 S2 H2 env2 σ2 c2 e2 re2 _ _ k2 => q.nx a2 S2 H2 env2 σ2 c2 (ev.trans e2) re2 k2
theorem ds_par (i j : Nat) {x y : Str} {a b : Expr} {Ta Tb : DTE} {px py pt : Pos} {kt k2 pt2} (hc : X.calm = true) (hN : X.N.Nodup) (ha : DE X a Ta) (hb : DE X b Tb)
    (hw : swappedStores [.Tuple [.Name x px, .Name y py] kt pt] (.Tuple [a, b] k2 pt2) X.env = pure (some [x, y])) (hi : X.N[i]? = some x := by rfl) (hj : X.N[j]? = some y := by rfl) (hij : i ≠ j := by decide)
    (hx : X.env.scope.names.lookup x = some .local := by rfl) (hy : X.env.scope.names.lookup y = some .local := by rfl)
    (hs : swapsWithSole [.Tuple [.Name x px, .Name y py] kt pt] (.Tuple [a, b] k2 pt2) pos.line X.env = pure false := by rfl)
    (ns : starEach [a, b] X.env = (false, eval a X.env) :: starEach [b] X.env := by rfl) (ns2 : starEach [b] X.env = (false, eval b X.env) :: starEach [] X.env := by rfl) :
    DS X (.Assign [.Tuple [.Name x px, .Name y py] kt pt] (.Tuple [a, b] k2 pt2) pos) (sPar i j Ta Tb) := by
  obtain ⟨t, p, s⟩ := ha.ex
  obtain ⟨u, p2, s2⟩ := hb.ex
  refine ⟨_, ps_par hc hN hi hj hij hx hy (pa_cons p (pa_cons p2 pa_nil ns2) ns) hw hs, fun G ads S H σ env E D c re hT q => ?_⟩
  refine s G ads S H σ env _ _ c re hT fun a S' H' d v c' ev r k => ?_
  refine s2 G a S' H' σ env _ _ c' (repE_evo ev re) k fun a2 S2 H2 d2 v2 c2 e2 r2 k2 => ?_
  exact ⟨v, v2, rfl, q.nx a2 S2 H2 _ _ c2 (ev.trans e2) (by rw [setE_eq, setE_eq]; exact repE_set (repE_set (repE_evo (ev.trans e2) re) (rep_evo e2 _ _ r)) r2) k2⟩
theorem ds_for {tg iter : Expr} {body : List Stmt} {it : DTI} {sl : List Nat} {Tg : DTG} {Tb : DTS} (hp : PassesOwn (model X.prog X.w) X.A X.env X.xe) (hc : X.calm = true) (hi : DI' X tg iter it) (hg : DG X tg sl Tg) (hb : DSs X body Tb) (hs : ∀ x, foldedSetIterable iter X.env x = pure x := by intro _; rfl) : DS X (.For tg iter body [] pos) (sFor it Tg Tb) := by
  obtain ⟨wi, p, s⟩ := hi.ex
  obtain ⟨g, pg, sg⟩ := hg.ex
  obtain ⟨tb, pb, sb⟩ := hb.ex
  refine ⟨_, ps_for hp hc p pg pb hs, fun G ads S H σ env E D c re hT q => ?_⟩
  refine s G ads S H σ env _ _ c re hT fun ads1 S1 H1 J ds c1 e1 wk k1 => ?_
  refine ⟨fun i m σ H => m = ds.length - i ∧ i ≤ ds.length ∧ ∃ ads2 S2 env2, Cur X.K G ads2 S2 H ∧ Evo ads1 H1 ads2 H ∧ RepE X.K (mu G ads2) ads2 H env2 σ ∧ forT Tg Tb E (ds.drop i) env2 S2,
    ⟨ds.length, by simp, Nat.zero_le _, ads1, S1, env, c1, Evo.refl _ _, repE_evo e1 re, by simpa using k1⟩, ?_⟩
  rintro i m σ2 H2 ⟨rfl, hile, ads2, S2, env2, c2, ev2, re2, kk⟩
  obtain ⟨wgo, wstop, wy⟩ := wk G ads2 S2 H2 (Wider.refl _ _) c2 ev2
  by_cases hlt : i < ds.length
  · refine .inr ⟨wgo i hlt, fun σ' H' => ∃ m', m' < ds.length - i ∧ (m' = ds.length - (i + 1) ∧ i + 1 ≤ ds.length ∧ ∃ ads2 S2 env2, Cur X.K G ads2 S2 H' ∧ Evo ads1 H1 ads2 H' ∧ RepE X.K (mu G ads2) ads2 H' env2 σ' ∧ forT Tg Tb E (ds.drop (i + 1)) env2 S2), fun σ' H' hN => hN, fun x H3 hy => ?_⟩
    obtain ⟨kp3, d, hd, rd⟩ := wy i x H3 hlt hy
    have hcons : ds.drop i = d :: ds.drop (i + 1) := by
      rw [List.drop_eq_getElem_cons hlt]
      have : ds[i] = d := by
        rw [List.getElem?_eq_getElem hlt] at hd
        exact Option.some.inj hd
      rw [this]
    rw [hcons] at kk
    unfold forT at kk
    have ev3 : Evo ads2 H2 ads2 H3 := kp3.evo ads2
    refine sg G ads2 S2 H3 σ2 env2 d x _ _ (c2.keeps kp3) (repE_evo ev3 re2) rd kk fun ads4 S4 H4 env4 σ4 c4 e4 re4 _ _ k4 => ?_
    have evT : Evo ads1 H1 ads4 H4 := ev2.trans (ev3.trans e4)
    have nxt : ∀ a S' H' env' σ', Cur X.K G a S' H' → Evo ads4 H4 a H' → RepE X.K (mu G a) a H' env' σ' → forT Tg Tb E (ds.drop (i + 1)) env' S' →
        ∃ m', m' < ds.length - i ∧ (m' = ds.length - (i + 1) ∧ i + 1 ≤ ds.length ∧ ∃ ads2 S2 env2, Cur X.K G ads2 S2 H' ∧ Evo ads1 H1 ads2 H' ∧ RepE X.K (mu G ads2) ads2 H' env2 σ' ∧ forT Tg Tb E (ds.drop (i + 1)) env2 S2) :=
      fun a S' H' env' σ' c' v r' k' => ⟨ds.length - (i + 1), by omega, rfl, hlt, a, S', env', c', evT.trans v, r', k'⟩
    have eall : Evo ads H ads4 H4 := e1.trans evT
    exact sb G ads4 S4 H4 σ4 env4 _ _ c4 re4 k4 ⟨nxt, (q.evo eall).rt, (q.evo eall).nx, nxt⟩
  · have ei : i = ds.length := by omega
    subst ei
    refine .inl ⟨wstop, ?_⟩
    rw [List.drop_length] at kk
    exact q.nx ads2 S2 H2 env2 σ2 c2 (e1.trans ev2) re2 kk
theorem ds_while {c : Expr} {body : List Stmt} {Tc : DTT} {Tb : DTS} (hp : PassesOwn (model X.prog X.w) X.A X.env X.xe) (hc : DT X c Tc) (hb : DSs X body Tb) : DS X (.While c body [] pos) (sWhile Tc Tb) := by
  obtain ⟨tc, p, s⟩ := hc.ex
  obtain ⟨tb, pb, sb⟩ := hb.ex
  refine ⟨_, ps_while hp p pb, fun G ads S H σ env E D c re hT q => ?_⟩
  obtain ⟨W, ⟨m0, w0⟩, turn⟩ := hT
  refine ⟨fun m σ' H' => ∃ ads2 S2 env2, Cur X.K G ads2 S2 H' ∧ Evo ads H ads2 H' ∧ RepE X.K (mu G ads2) ads2 H' env2 σ' ∧ W m env2 S2, ⟨m0, ads, S, env, c, Evo.refl _ _, re, w0⟩, ?_⟩
  rintro m σ2 H2 ⟨ads2, S2, env2, c2, ev2, re2, w2⟩
  refine s G ads2 S2 H2 σ2 env2 _ _ c2 re2 (turn m env2 S2 w2) fun ads3 S3 H3 b c3 e3 k3 => ?_
  have ev3 := ev2.trans e3
  cases b with
  | true =>
    rw [if_pos rfl]
    refine ⟨fun σ' H' => ∃ m', m' < m ∧ ∃ ads2 S2 env2, Cur X.K G ads2 S2 H' ∧ Evo ads H ads2 H' ∧ RepE X.K (mu G ads2) ads2 H' env2 σ' ∧ W m' env2 S2, fun σ' H' hN => hN, ?_⟩
    have nxt : ∀ a S' H' env' σ', Cur X.K G a S' H' → Evo ads3 H3 a H' → RepE X.K (mu G a) a H' env' σ' → (∃ m', m' < m ∧ W m' env' S') →
        ∃ m', m' < m ∧ ∃ ads2 S2 env2, Cur X.K G ads2 S2 H' ∧ Evo ads H ads2 H' ∧ RepE X.K (mu G ads2) ads2 H' env2 σ' ∧ W m' env2 S2 := fun a S' H' env' σ' c' v r' ⟨m', l, w'⟩ => ⟨m', l, a, S', env', c', ev3.trans v, r', w'⟩
    exact sb G ads3 S3 H3 σ2 env2 _ _ c3 (repE_evo e3 re2) k3 ⟨nxt, (q.evo ev3).rt, (q.evo ev3).nx, nxt⟩
  | false =>
    rw [if_neg Bool.false_ne_true]
    exact q.nx ads3 S3 H3 env2 σ2 c3 ev3 (repE_evo e3 re2) k3
end
end Dat
set_option Elab.async false
set_option linter.all false
set_option maxRecDepth 100000
set_option maxHeartbeats 1000000
/-! DatG: products, objects that change, calls of defs, a def's promise. -/
namespace Dat
open PySem PySem.Spec PyProof.Rows L2

/-! ### products -/
theorem foldl_reps {α : Type} (a : List α) : ∀ (n : Nat) (acc : List α), (List.replicate n a.toArray).foldl (· ++ ·) acc.toArray = (acc ++ (List.replicate n a).flatten).toArray
  | 0, acc => by simp
  | n + 1, acc => by
    rw [List.replicate_succ, List.foldl_cons, List.replicate_succ, List.flatten_cons]
    have e : acc.toArray ++ a.toArray = (acc ++ a).toArray := by simp
    rw [e, foldl_reps a n (acc ++ a), List.append_assoc]
theorem mul_S (a : List Nat) {j : Int} (h0 : 0 ≤ j) : Txt.mul ⟨a.toArray⟩ j = ⟨(repL j.toNat a).toArray⟩ := by
  unfold Txt.mul repL
  by_cases h1 : j < 1
  · have : j = 0 := by omega
    subst this
    rfl
  · rw [if_neg h1]
    by_cases h2 : (j == 1 || (⟨a.toArray⟩ : Str).length == 0) = true
    · rw [if_pos h2]
      rcases Bool.or_eq_true _ _ ▸ h2 with h | h
      · have : j = 1 := by simpa using h
        subst this
        simp
      · have : a = [] := by
          have : a.length = 0 := by simpa [Str.length] using h
          exact List.length_eq_zero_iff.mp this
        subst this
        have e : ∀ n : Nat, (List.replicate n ([] : List Nat)).flatten = [] := fun n => by induction n with
          | zero => rfl
          | succ n ih => rw [List.replicate_succ, List.flatten_cons, ih]; rfl
        rw [e]
    · rw [if_neg h2]
      have := foldl_reps a j.toNat []
      simp only [List.nil_append] at this
      show (⟨(List.replicate j.toNat a.toArray).foldl (· ++ ·) #[]⟩ : Str) = _
      rw [← this]
section
variable {X : Cx}
abbrev rMulS : R2 := fun x y H Q => ∃ a j, x = .str a ∧ y = .int j ∧ PySem.MulOk a j ∧ Q (.str (Txt.mul a j)) H
theorem op_mulS : OpR X (binaryOp .Mult) rMulS := by
  intro pins s σ H x y v u Q I rx ry h
  obtain ⟨a, j, rfl, rfl, hm, q⟩ := h
  obtain ⟨t, rfl⟩ := rx
  obtain ⟨t', rfl⟩ := ry
  exact SB.mul hm fun t' k => ⟨.str (Txt.mul a j), H, I.tok _, ⟨_, rfl⟩, q⟩
theorem mulOk_small {a : List Nat} {j : Int} (h0 : 0 ≤ j) (h1 : j ≤ 1000) (h2 : a.length ≤ 1000) : PySem.MulOk ⟨a.toArray⟩ j := by
  have hl : (⟨a.toArray⟩ : Str).length = a.length := by simp [Str.length]
  refine ⟨?_, fun h3 _ => ?_, fun h3 _ => ?_⟩
  · have e1 : decide (j < -(2 ^ 63 : Int)) = false := decide_eq_false (by omega)
    have e2 : decide (j ≥ 2 ^ 63) = false := decide_eq_false (by omega)
    rw [e1, e2]; rfl
  · rw [hl]
    have h4 : (1000 : Int) ≤ (2 ^ 63 - 1) / j := by
      rw [Int.le_ediv_iff_mul_le (by omega)]
      have : (1000 : Int) * j ≤ 1000 * 1000 := Int.mul_le_mul_of_nonneg_left h1 (by decide)
      omega
    omega
  · rw [hl]
    have h5 : a.length * j.toNat ≤ 1000 * 1000 := Nat.mul_le_mul h2 (by omega)
    unfold Builtin.Str.tooLong
    simp only [decide_eq_false_iff_not, Nat.not_lt]
    refine Nat.le_trans h5 (by decide)
theorem repL_len {α : Type} (xs : List α) : ∀ n : Nat, (repL n xs).length = n * xs.length
  | 0 => by simp [repL]
  | n + 1 => by
    have := repL_len xs n
    unfold repL at this ⊢
    rw [List.replicate_succ, List.flatten_cons, List.length_append, this, Nat.succ_mul, Nat.add_comm]
abbrev rMulA (K : PySem.W.Frag) : R2 := fun x y H Q => rI CMul (fun i j => .int (i * j)) x y H Q ∨ rI CMulW (fun i j => .int (i * j)) x y H Q ∨ rMulS x y H Q ∨ rRepT K x y H Q ∨ rRep x y H Q
theorem op_mulA : OpR X (binaryOp .Mult) (rMulA X.K) ∧ SndOp X.K (rMulA X.K) oMul := by
  refine ⟨op_mul.or (op_mulW.or (op_mulS.or (op_repT.or op_rep))), fun G ads S H x y v u k Q c rx ry h q => ?_⟩
  unfold oMul at h
  split at h
  · rename_i i j hx
    rw [res_int rx hx]
    simp only [Rep] at ry; subst ry
    rcases h.1 with h1 | h1 | h1
    · exact .inl ⟨_, _, rfl, rfl, .inl h1, post_val c q (by simp only [Rep]) h.2⟩
    · exact .inl ⟨_, _, rfl, rfl, .inr h1, post_val c q (by simp only [Rep]) h.2⟩
    · exact .inr (.inl ⟨_, _, rfl, rfl, h1, post_val c q (by simp only [Rep]) h.2⟩)
  · rename_i a j hx
    rw [(res_str rx hx).1]
    simp only [Rep] at ry; subst ry
    refine .inr (.inr (.inl ⟨_, j, rfl, rfl, mulOk_small h.1.1 h.1.2.1 h.1.2.2, ?_⟩))
    rw [mul_S a h.1.1]
    refine post_val c q ?_ h.2
    simp only [Rep, strV]
    refine ⟨trivial, ?_⟩
    rw [repL_len]
    exact Nat.le_trans (Nat.mul_le_mul (by omega : j.toNat ≤ 1000) h.1.2.2) (by decide)
  · rename_i ds j hx
    obtain ⟨a, vs, rfl, h1, _, h2⟩ := res_tup rx hx
    simp only [Rep] at ry; subst ry
    have hl := h2.length
    refine .inr (.inr (.inr (.inl ⟨a, j, vs, rfl, rfl, SqT.of h1, ?_, h.1.1, h.1.2.1, by rw [hl]; exact h.1.2.2.1, fun p hp => post_tup c q hp (h2.rep j.toNat) h.2⟩)))
    intro e
    subst e
    exact h.1.2.2.2 (List.length_eq_zero_iff.mp (by simpa using hl.symm))
  · rename_i ds j hx
    obtain ⟨a, vs, rfl, h1, h2⟩ := res_lst c rx hx
    simp only [Rep] at ry; subst ry
    have hl := h2.length
    refine .inr (.inr (.inr (.inr ⟨a, j, vs, rfl, rfl, h1, by omega, by omega, ?_, fun p hp => post_lst c q hp (h2.rep j.toNat) h.2⟩)))
    rw [hl]
    exact Nat.le_trans (Nat.mul_le_mul h.1.2.2 (by omega : j.toNat ≤ 1000)) (by decide)
  · exact h.elim

/-! ### objects that change -/
variable {a b e : Expr} {Ta Tb Te : DTE} {pos : Pos}
theorem ty_lst {K : PySem.W.Frag} {H : Hp} {p : Addr} {xs : List V} (h : H p = some (.lst xs)) : tyV K "list" (.ref p) H := .inl ⟨rfl, xs, SqL.of h⟩
theorem set_own {K : PySem.W.Frag} {G : Gh} {ads : List Addr} {S : Sto} {H : Hp} (c : Cur K G ads S H) {n : Nat} {a : Addr} (ha : ads[n]? = some a) {ds : List D} {vs : List V} (r : RepL K (mu G ads) ads H ds vs) : Cur K G ads (S.set n (.lst ds)) (upd H a (.lst vs)) :=
  c.set (mo := .lst ds) ha ⟨vs, upd_same, repL_upd0 (.inr (List.mem_of_getElem? ha)) _ _ r⟩
theorem de_app {apos cpos : Pos} (ho : DE X a Ta) (he : DE X b Tb) (hs : starEach [b] X.env = (false, eval b X.env) :: starEach [] X.env := by rfl) (hbase : attributeBase a "append" X.env (eval a X.env) = eval a X.env := by rfl)
    (hfew : ((backTo cpos (starEach [b] X.env)).all (fun x => !x.1) && (backToKw cpos (keywordEach [] X.env)).all (fun x => x.1.isSome)
      && decide (([b] : List Expr).length + ([] : List Keyword).length + (if ([] : List Keyword).isEmpty then 0 else 1) < 30)) = true := by rfl) (hline : (apos.endLine == cpos.line) = true := by rfl) (hplain : (backTo cpos (starEach [] X.env)).any (·.1) = false := by rfl) :
    DE X (.Call (.Attribute a "append" apos) [b] [] cpos) (dApp Ta Tb) := by
  obtain ⟨t, p, s⟩ := ho.ex
  obtain ⟨u, p2, s2⟩ := he.ex
  refine ⟨_, pe_bm PySem.F.plainAttrs_list PySem.F.slot_list_append PySem.F.type_list_append mt_append p (pa_cons p2 pa_nil hs) hbase hfew hline hs hplain, fun G ads S H σ env k Q c re hT q => ?_⟩
  refine s G ads S H σ env _ _ c re hT fun ads1 S1 H1 x v c1 e1 r1 k1 => ?_
  cases x with
  | own n =>
    simp only at k1
    split at k1
    · rename_i ys hS
      obtain ⟨p, rfl, hp, vs0, hH, _⟩ := own_at c1 r1 hS
      refine ⟨ty_lst hH, ?_⟩
      refine s2 G ads1 S1 H1 σ env _ _ c1 (repE_evo e1 re) k1 fun ads2 S2 H2 y w c2 e2 r2 k2 => ?_
      split at k2
      · rename_i xs hS2
        obtain ⟨p2, hpp, hp2, vs2, hH2, rl⟩ := own_at c2 (rep_evo e2 _ _ r1) hS2
        cases hpp
        refine ⟨p, vs2, w, rfl, rfl, hH2, by rw [rl.length]; exact k2.1, ?_⟩
        have hin := List.mem_of_getElem? hp2
        exact q ads2 (S2.set n (.lst (xs ++ [y]))) _ .non _ (set_own c2 hp2 (rl.app (.one r2))) ((e1.trans e2).trans (evo_set hin)) (by simp only [Rep]) k2.2
      · exact k2.elim
    · exact k1.elim
  | _ => exact k1.elim
theorem ixN_lt {n j : Nat} {i : Int} (h : Dat.ixN n i = some j) : j < n := by
  unfold Dat.ixN at h
  split at h
  · split at h
    · cases h; omega
    · cases h
  · split at h
    · cases h; omega
    · cases h
/-- xs[i] = e -/
theorem ds_store {o i : Expr} {To Ti : DTE} {spos : Pos} (he : DE X e Te) (ho : DE X o To) (hi : DE X i Ti) 
    (hs : swapsWithSole [.Subscript o i pos] e spos.line X.env = pure false := by rfl) (hw : swappedStores [.Subscript o i pos] e X.env = pure none := by rfl)
    (hga : ∀ v, assign (.Subscript o i pos) X.env v = (do let ov ← holding [v] (eval o X.env); let iv ← holding [v, ov] (eval i X.env); standAt pos; holding [v, ov, iv] (setItem ov iv v); release [v, ov, iv] []) := by intro _; rfl)
    (h1 : (assignEach [.Subscript o i pos] X.env).map (·.2) = [assign (.Subscript o i pos) X.env] := by rfl) : DS X (.Assign [.Subscript o i pos] e spos) (sStore To Ti Te) := by
  obtain ⟨te, p, s⟩ := he.ex
  obtain ⟨to, p2, s2⟩ := ho.ex
  obtain ⟨ti, p3, s3⟩ := hi.ex
  refine ⟨_, ps_asg p (pg_sub p2 p3 set_list hga) hs hw h1, fun G ads S H σ env E D c re hT q => ?_⟩
  refine s G ads S H σ env _ _ c re hT fun ads1 S1 H1 v w c1 e1 r1 k1 => ?_
  refine s2 G ads1 S1 H1 σ env _ _ c1 (repE_evo e1 re) k1 fun ads2 S2 H2 x u c2 e2 r2 k2 => ?_
  refine s3 G ads2 S2 H2 σ env _ _ c2 (repE_evo (e1.trans e2) re) k2 fun ads3 S3 H3 y z c3 e3 r3 k3 => ?_
  split at k3
  · rename_i n j
    split at k3
    · rename_i xs hS
      obtain ⟨m, hm, hk⟩ := onO_some k3
      obtain ⟨a, rfl, ha, vs, hH, rl⟩ := own_at c3 (rep_evo e3 _ _ r2) hS
      simp only [Rep] at r3; subst r3
      have rw' := rep_evo (e2.trans e3) _ _ r1
      refine ⟨a, vs, j, m, rfl, rfl, hH, by rw [rl.length]; exact hm, ?_⟩
      have hin := List.mem_of_getElem? ha
      exact q.nx ads3 _ _ env σ (set_own c3 ha (rl.set rw' m)) (((e1.trans e2).trans e3).trans (evo_set hin)) (repE_evo (((e1.trans e2).trans e3).trans (evo_set hin)) re) hk
    · exact k3.elim
  · exact k3.elim
end

/-! ### a def's promise -/
def spOf (K : PySem.W.Frag) (F : FSp) : Sp := fun vs H Q _ => ∃ (W : List Addr) (mu0 : Addr → Prop) (S : Sto) (ds : List D) (k : DK),
  Cur K ⟨H, W, mu0⟩ W S H ∧ RepL K (mu ⟨H, W, mu0⟩ W) W H ds vs ∧ F ds S k ∧ PostE K ⟨H, W, mu0⟩ W H k Q
theorem thaw_rep {K : PySem.W.Frag} {G : Gh} {ads bds : List Addr} {S : Sto} {H : Hp} {nu : Addr → Prop} (c : Cur K G ads S H) {d d' : D} {v : V} (r : Rep K (mu G ads) ads H d v) (h : thaw S d = some d') (hn : ∀ a, nu a → mu G ads a) (ho : ∀ n a, d = .own n → ads[n]? = some a → ¬ nu a) :
    Rep K nu bds H d' v := by
  have pure_ : d.pur = true → d' = d → Rep K nu bds H d' v := fun p e => by
    subst e
    exact rep_mu hn _ _ (rep_pur _ _ p r)
  cases d with
  | own n =>
    cases hS : S[n]? with
    | none => simp only [thaw, hS] at h; cases h
    | some mo =>
      cases mo with
      | lst xs =>
        simp only [thaw, hS] at h
        split at h
        · rename_i hp
          cases h
          obtain ⟨a, rfl, ha, vs, hH, rl⟩ := own_at c r hS
          simp only [Rep]
          exact ⟨a, vs, rfl, hH, ho n a rfl ha, repL_mu hn _ _ (repL_pur _ _ hp rl)⟩
        · cases h
      | _ => simp only [thaw, hS] at h; cases h
  | non => simp only [thaw, D.pur, if_true] at h; cases h; exact pure_ rfl rfl
  | bl b => simp only [thaw, D.pur, if_true] at h; cases h; exact pure_ rfl rfl
  | int b => simp only [thaw, D.pur, if_true] at h; cases h; exact pure_ rfl rfl
  | str b => simp only [thaw, D.pur, if_true] at h; cases h; exact pure_ rfl rfl
  | scr b => simp only [thaw, D.pur, if_true] at h; cases h; exact pure_ rfl rfl
  | tup xs =>
    simp only [thaw] at h
    split at h
    · rename_i hp; cases h; exact pure_ hp rfl
    · cases h
  | lst xs =>
    simp only [thaw] at h
    split at h
    · rename_i hp; cases h; exact pure_ hp rfl
    · cases h
theorem cur_pure {K : PySem.W.Frag} {G : Gh} {ads : List Addr} {S : Sto} {H : Hp} (c : Cur K G ads S H) : Cur K ⟨H, [], mu G ads⟩ [] [] H :=
  ⟨rfl, List.nodup_nil, fun b o h _ => h, fun a h => (nomatch h), fun a h => h.elim (fun z => c.trk a z) (fun z => (nomatch z)), fun a _ h => (nomatch h), fun a h => (nomatch h), fun n mo h => by simp at h⟩
theorem snd_callP {K : PySem.W.Frag} {F : FSp} {G : Gh} {ads : List Addr} {S : Sto} {H : Hp} {ds : List D} {vs : List V} {k : DK} {Q : VK} {E : XK} (c : Cur K G ads S H) (r : RepL K (mu G ads) ads H ds vs) (h : callP F ds S k) (q : PostE K G ads H k Q) : spOf K F vs H Q E := by
  obtain ⟨hp, hF⟩ := h
  refine ⟨[], mu G ads, [], ds, _, cur_pure c, repL_mu (fun a h => h.elim id fun z => nomatch z) _ _ (repL_pur _ _ hp r), hF, fun ads2 S2 H2 d v c2 e2 r2 k2 => ?_⟩
  obtain ⟨d', hd, hk⟩ := onO_some k2
  have kp : Keeps H H2 := fun b o h => e2.frame b o h (by simp)
  refine q ads S H2 d' v (c.keeps kp) (kp.evo ads) (thaw_rep c2 r2 hd (fun a h => .inl h) fun n a _ ha hm => c2.apart a hm (List.mem_of_getElem? ha)) hk
mutual
theorem rep_drop0 {K : PySem.W.Frag} {mu : Addr → Prop} {ads : List Addr} {H : Hp} {p : Addr} (hp : mu p) : ∀ (d : D) (v : V), Rep K mu ads H d v → Rep K mu ads (dropH H p) d v
  | .non, v, h => by simp only [Rep] at h ⊢; exact h
  | .bl b, v, h => by simp only [Rep] at h ⊢; exact h
  | .int i, v, h => by simp only [Rep] at h ⊢; exact h
  | .str s, v, h => by simp only [Rep] at h ⊢; exact h
  | .tup ds, v, h => by
    simp only [Rep] at h ⊢
    obtain ⟨a, vs, rfl, h1, h2, h3⟩ := h
    exact ⟨a, vs, rfl, by rw [dropH_ne (show a ≠ p from fun e => h2 (e ▸ hp))]; exact h1, h2, repL_drop0 hp ds vs h3⟩
  | .lst ds, v, h => by
    simp only [Rep] at h ⊢
    obtain ⟨a, vs, rfl, h1, h2, h3⟩ := h
    exact ⟨a, vs, rfl, by rw [dropH_ne (show a ≠ p from fun e => h2 (e ▸ hp))]; exact h1, h2, repL_drop0 hp ds vs h3⟩
  | .own n, v, h => by simp only [Rep] at h ⊢; exact h
  | .scr ns, v, h => by
    simp only [Rep] at h ⊢
    obtain ⟨a, rfl, h⟩ := h
    rcases h with ⟨h | ⟨u, h⟩, hm⟩ | h
    · exact ⟨a, rfl, .inl ⟨.inl (by rw [dropH_ne (show a ≠ p from fun e => hm (e ▸ hp))]; exact h), hm⟩⟩
    · exact ⟨a, rfl, .inl ⟨.inr ⟨u, by rw [dropH_ne (show a ≠ p from fun e => hm (e ▸ hp))]; exact h⟩, hm⟩⟩
    · exact ⟨a, rfl, .inr h⟩
theorem repL_drop0 {K : PySem.W.Frag} {mu : Addr → Prop} {ads : List Addr} {H : Hp} {p : Addr} (hp : mu p) : ∀ (ds : List D) (vs : List V), RepL K mu ads H ds vs → RepL K mu ads (dropH H p) ds vs
  | [], vs, h => by simp only [RepL] at h ⊢; exact h
  | d :: ds, vs, h => by
    simp only [RepL] at h ⊢
    obtain ⟨v, r, rfl, h1, h2⟩ := h
    exact ⟨v, r, rfl, rep_drop0 hp d v h1, repL_drop0 hp ds r h2⟩
end
theorem snd_callN {K : PySem.W.Frag} {F : FSp} {G : Gh} {ads : List Addr} {S : Sto} {H : Hp} {ds : List D} {vs : List V} {k : List D → Sto → Prop} {Q : VK} {E : XK} (c : Cur K G ads S H) (r : RepL K (mu G ads) ads H ds vs) (h : callN F ds S k)
    (q : ∀ ads' S' H1 H' p ds vs, Cur K G ads' S' H1 → Evo ads H ads' H1 → H1 p = none → Keeps H1 H' → H' p = some (.lst vs) → RepL K (mu G ads') ads' H1 ds vs → k ds S' → Q (.ref p) H') : spOf K F vs H Q E := by
  obtain ⟨hp, hF⟩ := h
  refine ⟨[], mu G ads, [], ds, _, cur_pure c, repL_mu (fun a h => h.elim id fun z => nomatch z) _ _ (repL_pur _ _ hp r), hF, fun ads2 S2 H2 d v c2 e2 r2 k2 => ?_⟩
  split at k2
  · rename_i n
    split at k2
    · rename_i xs hS
      obtain ⟨a, rfl, ha, vs, hH, rl⟩ := own_at c2 r2 hS
      have hin := List.mem_of_getElem? ha
      have hfree : H a = none := by
        obtain ⟨m, rfl, hm⟩ := e2.more
        exact hm a (by simpa using hin)
      have kp : Keeps H (dropH H2 a) := fun b o h => by
        have : b ≠ a := fun e => by subst e; rw [hfree] at h; cases h
        rw [dropH_ne this]
        exact e2.frame b o h (by simp)
      refine q ads S (dropH H2 a) H2 a xs vs (c.keeps kp) (kp.evo ads) dropH_eq dropH_keeps hH ?_ k2.2
      exact repL_mu (fun b h => .inl h) _ _ (repL_pur _ _ k2.1 (repL_drop0 (.inr hin) _ _ rl))
    · exact k2.elim
  · exact k2.elim
theorem repKV_pur {κ ι : Type} {f : κ → ι} {K : PySem.W.Frag} {mu : Addr → Prop} {ads bds : List Addr} {H : Hp} : ∀ (ds : List (κ × D)) (vs : List (ι × V)), purKV ds = true → RepKV f K mu ads H ds vs → RepKV f K mu bds H ds vs
  | [], vs, _, h => by simp only [RepKV] at h ⊢; exact h
  | d :: ds, vs, p, h => by
    simp only [RepKV] at h ⊢
    simp only [purKV, Bool.and_eq_true] at p
    obtain ⟨v, r, rfl, h1, h2⟩ := h
    exact ⟨v, r, rfl, rep_pur d.2 v p.1 h1, repKV_pur ds r p.2 h2⟩
theorem repKV_mu {κ ι : Type} {f : κ → ι} {K : PySem.W.Frag} {mu mu' : Addr → Prop} {ads : List Addr} {H : Hp} (hm : ∀ a, mu' a → mu a) : ∀ (ds : List (κ × D)) (vs : List (ι × V)), RepKV f K mu ads H ds vs → RepKV f K mu' ads H ds vs
  | [], vs, h => by simp only [RepKV] at h ⊢; exact h
  | d :: ds, vs, h => by
    simp only [RepKV] at h ⊢
    obtain ⟨v, r, rfl, h1, h2⟩ := h
    exact ⟨v, r, rfl, rep_mu hm d.2 v h1, repKV_mu hm ds r h2⟩
theorem mo_pur {K : PySem.W.Frag} {mu mu' : Addr → Prop} {ads bds : List Addr} {H : Hp} {a : Addr} (hm : ∀ a, mu' a → mu a) : ∀ {mo : MO}, mo.pur = true → MoOk K mu ads H a mo → MoOk K mu' bds H a mo
  | .lst ds, p, ⟨vs, h1, h2⟩ => ⟨vs, h1, repL_mu hm _ _ (repL_pur _ _ p h2)⟩
  | .dct ds, p, ⟨vs, h1, h2⟩ => ⟨vs, h1, repKV_mu hm _ _ (repKV_pur _ _ p h2)⟩
  | .dtt ds, p, ⟨vs, h1, h2⟩ => ⟨vs, h1, repKV_mu hm _ _ (repKV_pur _ _ p h2)⟩
  | .dead, _, _ => trivial
theorem snd_callM {K : PySem.W.Frag} {F : FSp} {G : Gh} {ads : List Addr} {S : Sto} {H : Hp} {ds : List D} {vs : List V} {k : DK} {Q : VK} {E : XK} (c : Cur K G ads S H) (r : RepL K (mu G ads) ads H ds vs) (h : callM F ds S k) (q : PostE K G ads H k Q) : spOf K F vs H Q E := by
  unfold callM at h
  split at h
  · rename_i n rest
    obtain ⟨hp, h⟩ := h
    obtain ⟨mo, hS, hmo, hF⟩ := onO_some h
    simp only [RepL] at r
    obtain ⟨v, vr, rfl, r1, r2⟩ := r
    obtain ⟨a, rfl, ha, hob⟩ := own_at c r1 hS
    have hin := List.mem_of_getElem? ha
    have hmu : ∀ b, (mu ⟨H, [a], fun b => mu G ads b ∧ b ≠ a⟩ [a]) b → mu G ads b := fun b h => h.elim (fun z => z.1) fun z => by
      have : b = a := by simpa using z
      subst this; exact .inr hin
    have hmu2 : ∀ (l : List Addr) b, a ∈ l → mu G ads b → (mu ⟨H, [a], fun b => mu G ads b ∧ b ≠ a⟩ l) b := fun l b hl h => by
      by_cases e : b = a
      · subst e; exact .inr hl
      · exact .inl ⟨h, e⟩
    refine ⟨[a], fun b => mu G ads b ∧ b ≠ a, [mo], .own 0 :: rest, _, ⟨rfl, by simp, fun b o h _ => h, fun b h => .inl h, fun b h => c.trk b (hmu b h), fun b h z => ?_, fun b h => h, fun j m hj => ?_⟩, ?_, hF, fun ads2 S2 H2 d w c2 e2 rd k2 => ?_⟩
    · have : b = a := by simpa using z
      exact h.2 this
    · cases j with
      | zero =>
        simp at hj; subst hj
        exact ⟨a, rfl, mo_pur hmu hmo hob⟩
      | succ j => simp at hj
    · simp only [RepL]
      exact ⟨.ref a, vr, rfl, by simp only [Rep]; exact ⟨a, rfl, rfl⟩, repL_mu hmu _ _ (repL_pur _ _ hp r2)⟩
    · obtain ⟨mo', hS2, hmo', k3⟩ := onO_some k2
      obtain ⟨d', hd, hk⟩ := onO_some k3
      obtain ⟨m, rfl, hm⟩ := e2.more
      obtain ⟨b, hb, hob2⟩ := c2.obj 0 mo' hS2
      have hba : b = a := by simpa using hb.symm
      subst hba
      have hin2 : b ∈ [b] ++ m := by simp
      have ev : Evo ads H ads H2 := ⟨⟨[], by simp, fun a h => (nomatch h)⟩, fun x o hx hn => e2.frame x o hx (fun z => by
        have : x = b := by simpa using z
        exact hn (this ▸ hin)), fun x hx h => by
        by_cases e : x = b
        · subst e; exact e2.there x (by simp) h
        · obtain ⟨o, ho⟩ := h
          exact ⟨o, e2.frame x o ho (by simpa using e)⟩⟩
      have c3 : Cur K G ads (S.set n mo') H2 := by
        refine ⟨by simp [c.len], c.nd, fun x o hx hw => ?_, c.fresh, fun x hx => ?_, c.apart, c.wsub, fun j mj hj => ?_⟩
        · have hne : x ≠ b := fun e => by
            subst e
            rcases c.fresh x hin with z | z
            · exact hw z
            · rw [z] at hx; cases hx
          exact e2.frame x o (c.base x o hx hw) (by simpa using hne)
        · obtain ⟨o, ho⟩ := c.trk x hx
          by_cases e : x = b
          · subst e; exact e2.there x (by simp) ⟨o, ho⟩
          · exact ⟨o, e2.frame x o ho (by simpa using e)⟩
        · by_cases e : j = n
          · subst e
            have hl : j < S.length := by rw [c.len]; exact (List.getElem?_eq_some_iff.mp ha).1
            rw [List.getElem?_set_self hl] at hj
            cases hj
            exact ⟨b, ha, mo_pur (fun x hx => hmu2 _ x hin2 hx) hmo' hob2⟩
          · rw [List.getElem?_set_ne (Ne.symm e)] at hj
            obtain ⟨x, h1, h2⟩ := c.obj j mj hj
            have hne : x ≠ b := fun z => by subst z; exact e (nodup_at c.nd h1 ha)
            obtain ⟨o, ho⟩ := c.trk x (.inr (List.mem_of_getElem? h1))
            exact ⟨x, h1, mo_evo ev ((e2.frame x o ho (by simpa using hne)).trans ho.symm) h2⟩
      have hth : thaw S2 d = some d' ∧ d ≠ .own 0 := by
        unfold thawM at hd
        split at hd
        · cases hd
        · rename_i hne; exact ⟨hd, fun e => hne (by rw [e])⟩
      refine q ads _ H2 d' w c3 ev (thaw_rep c2 rd hth.1 (fun x hx => hmu2 _ x hin2 hx) fun j x ej hj hx => ?_) hk
      have hxm := List.mem_of_getElem? hj
      have hne : x ≠ b := fun e => by
        subst e
        have : j = 0 := nodup_at c2.nd hj (by simp)
        subst this
        exact hth.2 ej
      exact c2.apart x ⟨hx, hne⟩ hxm
  · exact h.elim
end Dat
set_option Elab.async false
set_option linter.all false
set_option maxRecDepth 100000
set_option maxHeartbeats 1000000
/-! DatH: defs called, a def's body, the law's own call. -/
namespace Dat
open PySem PySem.Spec PyProof.Rows L2

/-- a def of the text that may be called by its name: what it does with data -/
structure Cal (P : Program) (w : World) (K : PySem.W.Frag) (mg : Str → Option Value) (base : Heap) (x : Str) (lvl : Nat) (ps : List Str) (F : FSp) : Prop where
  ex : ∃ (f : Addr) (fd : FuncData), FnOk P w K mg base CX0 lvl f fd ps (spOf K F) ∧ PySem.W.keepIn K (.ref f) = true ∧ Binds K fd ps [] ∧ mg x = some (.ref f)
/-- .. by keywords alone: ks the keywords' names as they are written, g puts their values in the parameters' order -/
structure CalK (P : Program) (w : World) (K : PySem.W.Frag) (mg : Str → Option Value) (base : Heap) (x : Str) (lvl : Nat) (ps ks : List Str) (g : {α : Type} → List α → List α) (F : FSp) : Prop where
  ex : ∃ (f : Addr) (fd : FuncData), FnOk P w K mg base CX0 lvl f fd ps (spOf K F) ∧ PySem.W.keepIn K (.ref f) = true ∧ KBn K fd ps 0 ks (fun _ ws => g ws) (fun _ zs => g zs) ∧ mg x = some (.ref f)

structure DKw (X : Cx) (kws : List Keyword) (T : DTA) : Prop where
  ex : ∃ t, PK X kws t ∧ SndA X.K t T
section
variable {X : Cx} {lvl : Nat} {ps : List Str} {F : FSp} {x : Str} {p pos kpos : Pos} {e : Expr} {es : List Expr} {kws : List Keyword} {Te : DTE} {TA' : DTA} {nm : Option Str}
theorem dkw_nil : DKw X [] aNil := ⟨_, pk_nil, fun G ads S H σ env k Q c re h q => q ads S H [] [] c (Evo.refl _ _) .nil h⟩
theorem dkw_cons (h : DE X e Te) (h2 : DKw X kws TA') : DKw X (⟨nm, e, kpos⟩ :: kws) (aCons Te TA') := by
  obtain ⟨t, p, s⟩ := h.ex
  obtain ⟨u, p2, s2⟩ := h2.ex
  refine ⟨_, pk_cons p p2, fun G ads S H σ env k Q c re h q => ?_⟩
  refine s G ads S H σ env _ _ c re h fun ads1 S1 H1 x v c1 e1 r1 k1 => ?_
  exact s2 G ads1 S1 H1 σ env _ _ c1 (repE_evo e1 re) k1 fun ads2 S2 H2 ds vs c2 e2 r2 k2 => q ads2 S2 H2 (x :: ds) (v :: vs) c2 (e1.trans e2) (.cons (rep_evo e2 _ _ r1) r2) k2
theorem de_call (C : Cal X.prog X.w X.K X.mg X.base x lvl ps F) (hr : Room lvl X.A) (hg : Gl X x) (ha : DA X (e :: es) TA') (hdb : (x == ("__debug__" : Str)) = false := by decide) (he : starEach (e :: es) X.env = (false, eval e X.env) :: starEach es X.env := by rfl) (hpl : (backTo pos (starEach es X.env)).any (·.1) = false := by rfl) :
    DE X (.Call (.Name x p) (e :: es) [] pos) (dCall F TA') := by
  obtain ⟨f, fd, G, hk, hb, hm⟩ := C.ex
  obtain ⟨t, q, s⟩ := ha.ex
  refine ⟨_, pe_call (dvs := []) (E := E0) G hr hg hm hk hb .nil pass0 q hdb he hpl, fun G ads S H σ env k Q c re hT q => ?_⟩
  refine s G ads S H σ env _ _ c re hT fun ads1 S1 H1 ds vs c1 e1 r1 k1 => ?_
  rw [List.append_nil]
  exact snd_callP c1 r1 k1 fun ads2 S2 H2 d v c2 e2 r2 k2 => q ads2 S2 H2 d v c2 (e1.trans e2) r2 k2
theorem de_callM (C : Cal X.prog X.w X.K X.mg X.base x lvl ps F) (hr : Room lvl X.A) (hg : Gl X x) (ha : DA X (e :: es) TA') (hdb : (x == ("__debug__" : Str)) = false := by decide) (he : starEach (e :: es) X.env = (false, eval e X.env) :: starEach es X.env := by rfl) (hpl : (backTo pos (starEach es X.env)).any (·.1) = false := by rfl) :
    DE X (.Call (.Name x p) (e :: es) [] pos) (dCallM F TA') := by
  obtain ⟨f, fd, G, hk, hb, hm⟩ := C.ex
  obtain ⟨t, q, s⟩ := ha.ex
  refine ⟨_, pe_call (dvs := []) (E := E0) G hr hg hm hk hb .nil pass0 q hdb he hpl, fun G ads S H σ env k Q c re hT q => ?_⟩
  refine s G ads S H σ env _ _ c re hT fun ads1 S1 H1 ds vs c1 e1 r1 k1 => ?_
  rw [List.append_nil]
  exact snd_callM c1 r1 k1 fun ads2 S2 H2 d v c2 e2 r2 k2 => q ads2 S2 H2 d v c2 (e1.trans e2) r2 k2
theorem dn_call (C : Cal X.prog X.w X.K X.mg X.base x lvl ps F) (hr : Room lvl X.A) (hg : Gl X x) (ha : DA X (e :: es) TA') (hdb : (x == ("__debug__" : Str)) = false := by decide) (he : starEach (e :: es) X.env = (false, eval e X.env) :: starEach es X.env := by rfl) (hpl : (backTo pos (starEach es X.env)).any (·.1) = false := by rfl) :
    DN X (.Call (.Name x p) (e :: es) [] pos) (nCall F TA') := by
  obtain ⟨f, fd, G, hk, hb, hm⟩ := C.ex
  obtain ⟨t, q, s⟩ := ha.ex
  refine ⟨_, pe_call (dvs := []) (E := E0) G hr hg hm hk hb .nil pass0 q hdb he hpl, fun G ads S H σ env k Q c re hT q => ?_⟩
  refine s G ads S H σ env _ _ c re hT fun ads1 S1 H1 ds vs c1 e1 r1 k1 => ?_
  rw [List.append_nil]
  exact snd_callN c1 r1 k1 fun ads2 S2 H2 H3 p ds vs c2 e2 hp kp hl r2 k2 => q ads2 S2 H2 H3 p ds vs c2 (e1.trans e2) hp kp hl r2 k2
theorem de_callK {ks : List Str} {g : {α : Type} → List α → List α} {n : Nat} (C : CalK X.prog X.w X.K X.mg X.base x lvl ps ks g F) (hr : Room lvl X.A) (hg : Gl X x) (hkw : DKw X kws TA') (hn : n = ks.length := by rfl)
    (hgr : ∀ {α β : Type} {R : α → β → Prop} {xs : List α} {ys : List β}, Paired R xs ys → Paired R (g xs) (g ys))
    (hgD : ∀ {K : PySem.W.Frag} {mu : Addr → Prop} {ads : List Addr} {H : Hp} {ds : List D} {vs : List V}, ds.length = n → RepL K mu ads H ds vs → RepL K mu ads H (g ds) (g vs))
    (hall : (backToKw pos (keywordEach kws X.env)).all (·.1.isSome) = true := by rfl) (hks : (backToKw pos (keywordEach kws X.env)).filterMap (·.1) = ks := by rfl) (hdb : (x == ("__debug__" : Str)) = false := by decide)
    (hpl : ((backTo pos (starEach [] X.env)).any (·.1) || (backToKw pos (keywordEach kws X.env)).any (·.1.isNone)) = false := by rfl) :
    DE X (.Call (.Name x p) [] kws pos) (dCallK n g F TA') := by
  obtain ⟨f, fd, G, hk, hb, hm⟩ := C.ex
  obtain ⟨t, q, s⟩ := hkw.ex
  refine ⟨fun σ H Q => t σ H fun zs H1 => zs.length = ks.length ∧ spOf X.K F (g zs) H1 Q E0, ⟨fun pins st σ H Q I h => ?_⟩, fun G ads S H σ env k Q c re hT q => ?_⟩
  · refine wpAny_Call_Name_kw (ld_glob I hg hm ?_ hdb)
    refine PySem.W.callWith_KW0 (h₀ := X.base) I.ok.mod.kin hk hall ?_ hpl
    refine thn (q.run pos pins st σ H _ I h) fun ws s2 ⟨zs, H2, I2, rz, l2, q2⟩ => ⟨I2.kIn, ?_⟩
    rw [hks]
    exact run_fnN (us := []) (vs := []) G hr hb pass0 I2 .nil rz rfl l2 q2
  · refine s G ads S H σ env _ _ c re hT fun ads1 S1 H1 ds vs c1 e1 r1 k1 => ⟨by rw [r1.length, k1.1, hn], ?_⟩
    exact snd_callP c1 (hgD k1.1 r1) k1.2 fun ads2 S2 H2 d v c2 e2 r2 k2 => q ads2 S2 H2 d v c2 (e1.trans e2) r2 k2
end

/-! ### a def's body -/
section
variable {P : Program} {w : World} {K : PySem.W.Frag} {mg : Str → Option Value} {base : Heap}
abbrev FnP (K : PySem.W.Frag) (x : Str) (st : Stmt) (f : Addr) (fd : FuncData) : Prop := FunD K x x (defArgs st) (defBody st) (defScope st) [] [] f fd
theorem entry_rep {mu : Addr → Prop} {ads : List Addr} {H : Hp} {N : List Str} {ds : List D} {vs : List V} (r : RepL K mu ads H ds vs) : RepE K mu ads H (entry N.length ds) (L2.start N vs) := by
  have hl := r.length
  rw [entry_eq]
  refine ⟨by unfold L2.start; simp [hl], fun i d h => ?_⟩
  unfold L2.start
  by_cases hi : i < ds.length
  · rw [List.getElem?_append_left (by simpa using hi), List.getElem?_map] at h
    cases hq : ds[i]? with
    | none => rw [hq] at h; cases h
    | some d' =>
      rw [hq] at h; cases h
      obtain ⟨v, h1, h2⟩ := r.get hq
      exact ⟨v, by rw [List.getElem?_append_left (by rw [List.length_map, hl]; exact hi), List.getElem?_map, h1]; rfl, h2⟩
  · rw [List.getElem?_append_right (by simpa using hi), List.getElem?_replicate] at h
    split at h <;> cases h
theorem fn_data {x : Str} {st : Stmt} {f : Addr} {fd : FuncData} {N ps : List Str} {lvl : Nat} {F : FSp} {Tb : DTS} (Fd : FnP K x st f fd) (S : FnScope N ps (defScope st)) (len : ∀ ds S k, F ds S k → ds.length = ps.length)
    (hbody : ∀ (cdv : Value) (A : Around) (outer : List PySem.Env) (s : Shared) (H : Hp) (E : XK), Room lvl (A.deeper (envOfC x (defScope st) s.heap.objs.size f cdv)) → DSs (cxOf CX0 P w K mg base N x (defScope st) f cdv A outer s H E).nox (defBody st) Tb)
    (plain : ∀ ds S k, F ds S k → Tb (bodyK k) (entry N.length ds) S) : FnOk P w K mg base CX0 (lvl + 1) f fd ps (spOf K F) := by
  refine FunD.ok Fd S (fun vs H Q E h => ?_) (fun cdv A outer s H vs Q E hr h => ?_)
  · obtain ⟨W, mu0, S, ds, k, c, r, hF, q⟩ := h
    rw [r.length]; exact len ds S k hF
  · obtain ⟨t, p, sn⟩ := (hbody cdv A outer s H E hr).ex
    obtain ⟨W, mu0, S, ds, k, c, r, hF, q⟩ := h
    refine ⟨t, PSs.nox p, ?_⟩
    refine sn ⟨H, W, mu0⟩ W S H _ _ (bodyK k) _ c (entry_rep r) (plain ds S k hF) ⟨fun a S' H' env' σ' c' v re' h => ?_, q, fun a S' H' env' σ' c' v re' h => h.elim, fun a S' H' env' σ' c' v re' h => h.elim⟩
    exact q a S' H' .non .non c' v (by simp only [Rep]) h
theorem cal_mk {x : Str} {st : Stmt} {f : Addr} {fd : FuncData} {ps : List Str} {lvl : Nat} {F : FSp} (Fd : FnP K x st f fd) (ok : FnOk P w K mg base CX0 lvl f fd ps (spOf K F)) (hm : mg x = some (.ref f))
    (h : ∀ (kV doc pm : Value) (an : Option Addr) (cdv ct : Value) (us : List Value), us.length = ps.length → bindArgs (PySem.W.fnOf x x (defArgs st) (defBody st) (defScope st) .none kV doc pm an cdv ct) ⟨us, []⟩ = pure (ps.zip us)) : Cal P w K mg base x lvl ps F :=
  ⟨f, fd, ok, Fd.kp, FunD.bindsN Fd h, hm⟩
theorem calK_mk {x : Str} {st : Stmt} {f : Addr} {fd : FuncData} {ps ks : List Str} {lvl : Nat} {F : FSp} {g : {α : Type} → List α → List α} (Fd : FnP K x st f fd) (ok : FnOk P w K mg base CX0 lvl f fd ps (spOf K F)) (hm : mg x = some (.ref f))
    (hgr : ∀ {vs : List V} {us : List Value}, Vals vs us → Vals (g vs) (g us))
    (h : ∀ (kV doc pm : Value) (an : Option Addr) (cdv ct : Value) (us : List Value), us.length = ks.length → bindArgs (PySem.W.fnOf x x (defArgs st) (defBody st) (defScope st) .none kV doc pm an cdv ct) ⟨[], ks.zip us⟩ = pure (ps.zip (g us))) : CalK P w K mg base x lvl ps ks g F := by
  obtain ⟨oc, od, dV, kV, doc, pm, an, cdv, ct, osl, rfl, lk, hcd, hD, hK⟩ := Fd.ex
  rcases hD with ⟨_, rfl⟩ | ⟨e, _⟩
  · refine ⟨f, _, ok, Fd.kp, ⟨fun s us ws _ l1 l2 => ?_, fun _ r2 => hgr r2⟩, hm⟩
    have : us = [] := List.length_eq_zero_iff.mp l1
    subst this
    exact .of_eq (h kV doc pm an cdv ct ws l2)
  · exact absurd rfl e
/-- the law's own call: the script handed in -/
theorem sp_law {F : FSp} {H : Hp} {a : Addr} {ns : List Int} {E : XK} (hS : SqL K H a (ns.map V.int)) (hF : F [.scr ns] [] fun d _ => d = .bl true) : spOf K F [.ref a] H (fun v _ => v = .bl true) E := by
  refine ⟨[], fun _ => False, [], [.scr ns], fun d _ => d = .bl true, ⟨rfl, List.nodup_nil, fun b o h _ => h, fun a h => (nomatch h), fun a h => h.elim (fun z => z.elim) (fun z => (nomatch z)), fun a _ h => (nomatch h), fun a h => (nomatch h), fun n mo h => by simp at h⟩, ?_, hF, fun ads' S' H' d v c e r h => ?_⟩
  · refine .one ?_
    simp only [Rep]
    refine ⟨a, rfl, ?_⟩
    rcases hS with h | h
    · exact .inl ⟨h, fun z => z.elim (fun z => z.elim) fun z => (nomatch z)⟩
    · exact .inr fun H' => .inr h
  · subst h
    simp only [Rep] at r; exact r
end
end Dat
set_option Elab.async false
set_option linter.all false
set_option maxRecDepth 100000
set_option maxHeartbeats 1000000
/-! DatI: enumerate, zip over lists, tuples, texts. -/
namespace Dat
open PySem PySem.Spec PyProof.Rows L2

inductive Src where | l (a : Addr) | t (a : Addr) | s (z : Str)
def Src.v : Src → V | .l a => .ref a | .t a => .ref a | .s z => .str z
def Src.has (K : PySem.W.Frag) (H : Hp) : Src → List V → Prop
  | .l a, xs => SqL K H a xs
  | .t a, xs => SqT K H a xs
  | .s z, xs => xs = z.cps.toList.map fun c => V.str ⟨#[c]⟩
def Src.cell (it : Addr) (i : Nat) (h : Heap) : Src → Prop
  | .l a => h.IsListIter it a i
  | .t a => h.IsTupleIter it a i
  | .s z => ∃ t, h.IsStrIter it (strIterType z) z t i
def Src.fp (it : Addr) : Src → List Addr
  | .l a => [it, a]
  | .t a => [it, a]
  | .s _ => [it]
section
variable {X : Cx} {pins : List (Addr × Obj)} {σ : L2.St} {H : Hp} {s : Shared} {x : Src} {xs ys : List V} {it : Addr} {i : Nat}
theorem vals_at : ∀ {xs : List V} {us : List Value} {j : Nat} {u : Value}, Vals xs us → us[j]? = some u → ∃ y, xs[j]? = some y ∧ RelV y u
  | _, _, _, _, .nil, h => by simp at h
  | _, _, 0, _, .cons r _, h => by simp at h; subst h; exact ⟨_, rfl, r⟩
  | _, _, j + 1, _, .cons _ rr, h => by simpa using vals_at rr (by simpa using h)
theorem src_inj (I : Inv X pins σ H s) (h1 : x.has X.K H xs) (h2 : x.has X.K H ys) : xs = ys := by
  cases x with
  | l a => exact I.list_inj h1 h2
  | t a => exact I.tuple_inj h1 h2
  | s z => exact Eq.trans h1 (Eq.symm h2)
theorem cell_live {h : Heap} (c : x.cell it i h) : ∃ o, h.get? it = some o ∧ ∀ v, o.data ≠ .cell v := by
  cases x with
  | l a => obtain ⟨o, e, _, d⟩ := c; exact ⟨o, e, fun v q => by rw [d] at q; cases q⟩
  | t a => obtain ⟨o, e, _, d⟩ := c; exact ⟨o, e, fun v q => by rw [d] at q; cases q⟩
  | s z => obtain ⟨_, o, e, _, d⟩ := c; exact ⟨o, e, fun v q => by rw [d] at q; cases q⟩
theorem cell_keep {h h' : Heap} (c : x.cell it i h) (k : ∀ o, h.get? it = some o → h'.get? it = some o) : x.cell it i h' := by
  cases x with
  | l a => obtain ⟨o, e, r⟩ := c; exact ⟨o, k o e, r⟩
  | t a => obtain ⟨o, e, r⟩ := c; exact ⟨o, k o e, r⟩
  | s z => obtain ⟨t, o, e, r⟩ := c; exact ⟨t, o, k o e, r⟩
theorem src_draws (I : Inv X pins σ H s) (hd : X.A.handled = none) (h : x.has X.K H xs) (c : x.cell it i s.heap) :
    ∃ (P : Nat → Value → Prop) (St : Nat → Heap → Prop), Draws X.prog X.w X.A.in1 it (x.fp it) xs.length P St ∧ St i s.heap ∧ (∀ j h', St j h' → x.cell it j h') ∧ ∀ j u, P j u → ∃ y, xs[j]? = some y ∧ RelV y u := by
  cases x with
  | l a =>
    obtain ⟨its, rv, p, _⟩ := I.list h
    have hne : a ≠ it := fun e => by
      obtain ⟨o, e1, hc, _⟩ := c
      obtain ⟨o2, e2, hc2, _⟩ := p.isList
      rw [e] at e2; rw [e1] at e2; cases e2
      rw [hc] at hc2
      injection hc2 with hc2
      exact absurd hc2 (by decide)
    have D := Draws.list (prog := X.prog) (w := X.w) (A := X.A.in1) hd it a hne its.toArray
    have hl : its.toArray.size = xs.length := by rw [List.size_toArray, ← rv.length]
    rw [hl] at D
    exact ⟨_, _, D, ⟨c, p.isList⟩, fun j h' st => st.1, fun j u hu => by
      have hu' : its[j]? = some u := by simpa using hu
      exact vals_at rv hu'⟩
  | t a =>
    obtain ⟨its, rv, p, _⟩ := I.tuple h
    have hp : s.heap.IsTuple a its.toArray := p
    have hne : a ≠ it := fun e => by
      obtain ⟨o, e1, hc, _⟩ := c
      obtain ⟨o2, e2, hc2, _⟩ := hp
      rw [e] at e2; rw [e1] at e2; cases e2
      rw [hc] at hc2
      injection hc2 with hc2
      exact absurd hc2 (by decide)
    have D := Draws.tuple (prog := X.prog) (w := X.w) (A := X.A.in1) hd it a hne its.toArray
    have hl : its.toArray.size = xs.length := by rw [List.size_toArray, ← rv.length]
    rw [hl] at D
    exact ⟨_, _, D, ⟨c, hp⟩, fun j h' st => st.1, fun j u hu => by
      have hu' : its[j]? = some u := by simpa using hu
      exact vals_at rv hu'⟩
  | s z =>
    obtain ⟨t, c⟩ := c
    have e : xs = z.cps.toList.map fun c => V.str ⟨#[c]⟩ := h
    have D := Draws.text (prog := X.prog) (w := X.w) (A := X.A.in1) hd it z t
    have hl : z.cps.size = xs.length := by rw [e]; simp
    rw [hl] at D
    refine ⟨_, _, D, c, fun j h' st => ⟨t, st⟩, fun j u ⟨ch, tk, h1, h2⟩ => ⟨.str ⟨#[ch]⟩, ?_, ?_⟩⟩
    · rw [e, List.getElem?_map]
      have : z.cps.toList[j]? = some ch := by simpa using h1
      rw [this]; rfl
    · subst h2; exact ⟨_, rfl⟩
/-- how the iterator begins -/
theorem src_begins {u : Value} (I : Inv X pins σ H s) (h : x.has X.K H xs) (r : RelV x.v u) :
    ∃ (o : Obj) (Hh : Heap → Prop), Begins u o Hh ∧ Hh s.heap ∧ (∀ h' it, h'.get? it = some o → x.cell it 0 h') ∧ ∃ f, (∀ it, x.fp it = it :: f) ∧ ∀ b ∈ f, b < s.heap.objs.size := by
  cases x with
  | l a =>
    obtain ⟨its, rv, p, _⟩ := I.list h
    cases r
    exact ⟨_, _, begins_list a its.toArray, p.isList, fun h' it e => ⟨_, e, rfl, rfl⟩, [a], fun _ => rfl, fun b hb => by
      have : b = a := by simpa using hb
      rw [this]; exact p.lt⟩
  | t a =>
    obtain ⟨its, rv, p, _⟩ := I.tuple h
    cases r
    have hp : s.heap.IsTuple a its.toArray := p
    refine ⟨_, _, begins_tuple a its.toArray, hp, fun h' it e => ⟨_, e, rfl, rfl⟩, [a], fun _ => rfl, fun b hb => ?_⟩
    have : b = a := by simpa using hb
    obtain ⟨o2, e2, _⟩ := hp
    rw [this]; exact Heap.lt_size e2
  | s z =>
    obtain ⟨t, rfl⟩ := r
    exact ⟨_, _, begins_text z t, trivial, fun h' it e => ⟨t, _, e, rfl, rfl⟩, [], fun _ => rfl, fun b hb => nomatch hb⟩
end

/-! ### enumerate -/
def ItE (K : PySem.W.Frag) (x : Src) : It :=
  ⟨fun i H => ∃ xs v, x.has K H xs ∧ xs[i]? = some v, fun i H v H' => ∃ T y, v = .ref T ∧ H T = none ∧ H' = upd H T (.tup [.int (i : Nat), y]) ∧ ∀ xs, x.has K H xs → xs[i]? = some y, fun i H => ∃ xs, x.has K H xs ∧ xs.length = i⟩
theorem turn_enumS {P : Program} {w : World} {K : PySem.W.Frag} {elts : List Expr} {kk : Nat} {tpos : Pos} (x : Src) (e it : Addr) (hef : e ∉ x.fp it) (hne : e ≠ it) :
    Turn P w K (.Tuple elts kk tpos) (ItE K x) [e, it] e (fun i h => (∃ old, IsEnum h e it ((i : Nat) : Int) old) ∧ x.cell it i h) where
  mem := by simp
  obj := fun i h st b hb => by
    obtain ⟨⟨old, he⟩, hc⟩ := st
    rcases (by simpa using hb : b = e ∨ b = it) with rfl | rfl
    · exact ⟨_, he, fun v q => nomatch q⟩
    · exact cell_live hc
  keep := fun i h h' ⟨⟨old, he⟩, hc⟩ k => ⟨⟨old, k e (by simp) _ he⟩, cell_keep hc fun o q => k it (by simp) o q⟩
  item := by
    intro X hP hw hK hc i pins s σ H E I hf st hg
    subst hP hw hK
    obtain ⟨⟨old, he⟩, hcell⟩ := st
    obtain ⟨xs, y0, hx, hy0⟩ := hg
    obtain ⟨P, St, D, hSt, back, rel⟩ := src_draws I (I.ok.hd hc) hx hcell
    have hi : i < xs.length := (List.getElem?_eq_some_iff.mp hy0).1
    have hel := Heap.lt_size he
    obtain ⟨oi, hoi, _⟩ := cell_live hcell
    have hil := Heap.lt_size hoi
    refine wpAny_pyNext_enum_itemD D he hSt hi hne hef fun u h' tk hPu ho hs' hT hsz hk => ?_
    obtain ⟨y, hy, ry⟩ := rel i u hPu
    refine ⟨_, rfl, wpAny_letOwnedTupleGo_enum (s := { s with heap := h', toks := tk + 1 }) ho fun h2 he2 sb => ?_⟩
    have hT2 := (sb.2 _ (Nat.ne_of_gt hel)).trans hT
    have new : ObjOk X.prog X.w (upd H s.heap.objs.size (.tup [.int (i : Nat), y])) h2 s.heap.objs.size (.tup [.int (i : Nat), y]) :=
      ⟨(by decide : 2 ≤ sizeLine), _, .cons ⟨_, rfl⟩ (.cons ry .nil), ⟨_, hT2, rfl, _, rfl⟩⟩
    have I1 := I.turnedNew (t' := tk + 1) (ch := [e, it]) (fun b ob hb q => (sb.2 b fun z => hb (by simp [z])).trans (hk b ob (fun z => hb (by simp [z])) (fun z => hb (by simp [z])) q)) hf (Nat.le_refl _) new
    refine ⟨.ref s.heap.objs.size, _, I1, rfl, ⟨_, y, rfl, I.hok.fresh (Nat.le_refl _), rfl, fun zs hz => by rw [src_inj I hz hx]; exact hy⟩, ⟨⟨u, ?_⟩, cell_keep (back _ _ hs') fun o q => (sb.2 it (Ne.symm hne)).trans q⟩, fun b hb => ?_⟩
    · have e1 : ((i + 1 : Nat) : Int) = (i : Int) + 1 := by omega
      rw [e1]; exact he2
    · have hb' : b < s.heap.objs.size := by
        rcases (by simpa using hb : b = e ∨ b = it) with rfl | rfl
        · exact hel
        · exact hil
      rw [upd_ne (Nat.ne_of_lt hb')]
      exact (hf b hb).1
  done := by
    intro X hP hw hK hc i pins s σ H E I hf st hg
    subst hP hw hK
    obtain ⟨⟨old, he⟩, hcell⟩ := st
    obtain ⟨xs, hx, hl⟩ := hg
    obtain ⟨P, St, D, hSt, back, rel⟩ := src_draws I (I.ok.hd hc) hx hcell
    rw [← hl] at hSt
    obtain ⟨f0, f1, f2, f3, f4, f5⟩ := hf it (by simp)
    exact wpAny_pyNext_enum_endD D he hSt fun h' eb => ⟨rfl, I.turned (t' := s.toks) (fun b o hb q => eb b o hb q) f0 f1 f3 f4 f5⟩
  self := fun A i s Q E ⟨⟨_, he⟩, _⟩ h => wpAny_pyIter_enum he h
theorem meets_enum1 {v : Value} {o : Obj} {Hh : Heap → Prop} (B : Begins v o Hh) :
    Meets (Builtin.«enumerate.__new__» ⟨[.type "enumerate", v], []⟩) (fun _ R s => Hh s.heap ∧
      R (.ok (.ret (.ref (s.heap.push o).objs.size))) { s with heap := (s.heap.push o).push { cls := .type "enumerate", data := .fields #[.none, .bool false, .ref s.heap.objs.size, rawInt 0, .none, .none] } }) :=
  .of_wp fun prog w A R s hh => by
    obtain ⟨hp, g, d, tk, os⟩ := s; obtain ⟨h1, hr⟩ := hh
    have hsub := sub_enumerate
    have q1 : ∀ {A' : Around} {E Q : Value → Shared → Prop}, Q (.ref hp.objs.size) ⟨hp.push o, g, d, tk, os⟩ → wpAny (model prog w) A' (pyIter v) Q E ⟨hp, g, d, tk, os⟩ :=
      fun q => B.iter prog w _ _ (⟨hp, g, d, tk, os⟩ : Shared) _ h1 q
    wp_walk using q1
    refine wpAny_stack_any fun _ => wpAny_pure ?_
    split
    · rename_i c _ _ _ _ _
      cases (c == Value.type "enumerate") <;> (wp_walk using q1; exact ⟨_, rfl, hr⟩)
    · wp_walk using q1; exact ⟨_, rfl, hr⟩
theorem call_enum1 {prog : Program} {w : World} {A : Around} {E : Value → Shared → Prop} {s : Shared} {v : Value} {o : Obj} {Hh : Heap → Prop} {Q : Value → Shared → Prop} (B : Begins v o Hh) (h1 : Hh s.heap)
    (h : ∀ h', IsEnum h' (s.heap.objs.size + 1) s.heap.objs.size 0 .none → h'.get? s.heap.objs.size = some o → (∀ b q, s.heap.get? b = some q → h'.get? b = some q) → Q (.ref (s.heap.objs.size + 1)) { s with heap := h' }) :
    wpAny (model prog w) A (call (.type "enumerate") [v]) Q E s := by
  refine callType_new F.called_enumerate (by decide) (F.typeCall_enumerate_1 _) (F.newCall_enumerate_1 _) (fun z => F.args_object_init_2 z _) F.entry_enumerate_new (meets_enum1 B) ⟨h1, ?_⟩
  have hz : (s.heap.push o).objs.size = s.heap.objs.size + 1 := Heap.size_push ..
  show _ ∧ _
  rw [hz]
  have he : IsEnum ((s.heap.push o).push { cls := .type "enumerate", data := .fields #[.none, .bool false, .ref s.heap.objs.size, rawInt 0, .none, .none] }) (s.heap.objs.size + 1) s.heap.objs.size 0 .none := by
    rw [← hz]; exact Heap.get?_push_size _ rfl
  exact ⟨⟨_, he, rfl⟩, h _ he (Heap.get?_push_of_some _ (Heap.get?_push_size _ B.free)) fun b q y => Heap.get?_push_of_some _ (Heap.get?_push_of_some _ y)⟩
def iEnumS (K : PySem.W.Frag) (ta : TA) : TI := fun σ H R => ta σ H fun vs H1 => ∃ x : Src, vs = [x.v] ∧ (∃ xs, x.has K H1 xs) ∧ R (ItE K x) H1
theorem pi_enumS {X : Cx} {e : Expr} {ta : TA} {p pos tpos : Pos} {elts : List Expr} {kk : Nat} (hg : Gl X "enumerate") (hm : X.mg "enumerate" = none) (ha : PA X [e] ta) (hs : starEach [e] X.env = [(false, eval e X.env)] := by rfl) :
    PI X (.Tuple elts kk tpos) (.Call (.Name "enumerate" p) [e] [] pos) (iEnumS X.K ta) := by
  refine ⟨fun pins s σ H R I h => ?_⟩
  refine Call_ (ld_blt I hg hm boot_enumerate (callWith_type1 (thn (ha.run pos pins s σ H _ I h) fun us s1 ⟨vs, H1, I1, r1, q1⟩ => ?_) hs rfl))
  obtain ⟨x, rfl, ⟨xs, hx⟩, q⟩ := q1
  cases r1 with
  | cons r rr =>
    cases rr
    obtain ⟨o, Hh, B, hH, begin0, f, hfp, hlt⟩ := src_begins I1 hx r
    refine call_enum1 B hH fun h' he ho hk => wpAny_pyIter_enum he ?_
    have I2 : Inv X pins σ H1 { s1 with heap := h' } := I1.kept (t' := s1.toks) hk
    have hef : s1.heap.objs.size + 1 ∉ x.fp s1.heap.objs.size := fun z => by
      rw [hfp] at z
      rcases List.mem_cons.mp z with z | z
      · exact Nat.succ_ne_self _ z
      · exact absurd (hlt _ z) (by show ¬ (s1.heap.objs.size + 1 : Nat) < _; omega)
    refine ⟨s1.heap.objs.size + 1, [s1.heap.objs.size + 1, s1.heap.objs.size], _, _, H1, rfl, I2, turn_enumS x _ _ hef (Nat.succ_ne_self _), ⟨⟨.none, he⟩, begin0 _ _ ho⟩, fun b hb => ?_, q⟩
    have hle : s1.heap.objs.size ≤ b := by
      rcases (by simpa using hb : b = s1.heap.objs.size + 1 ∨ b = s1.heap.objs.size) with rfl | rfl
      · exact Nat.le_add_right _ _
      · exact Nat.le_refl _
    exact I1.fpOk hle (I1.hok.fresh hle)

/-! ### zip of two -/
def ItZ (K : PySem.W.Frag) (x y : Src) : It :=
  ⟨fun i H => ∃ xs ys v w, x.has K H xs ∧ y.has K H ys ∧ xs[i]? = some v ∧ ys[i]? = some w,
   fun i H v H' => ∃ T a b, v = .ref T ∧ H T = none ∧ H' = upd H T (.tup [a, b]) ∧ (∀ xs, x.has K H xs → xs[i]? = some a) ∧ ∀ ys, y.has K H ys → ys[i]? = some b,
   fun i H => ∃ xs ys, x.has K H xs ∧ y.has K H ys ∧ i = min xs.length ys.length⟩
theorem turn_zipS {P : Program} {w : World} {K : PySem.W.Frag} {elts : List Expr} {kk : Nat} {tpos : Pos} (x y : Src) {z TI TO i1 i2 : Addr} (D : ZipSep2 z TI TO i1 i2 (x.fp i1) (y.fp i2)) :
    Turn P w K (.Tuple elts kk tpos) (ItZ K x y) [z, TI, TO, i1, i2] z (fun i h => IsZip h z TI TO .none ∧ IsTupOf2 h TI (.ref i1) (.ref i2) ∧ (∃ u v, IsTupOf2 h TO u v) ∧ x.cell i1 i h ∧ y.cell i2 i h) where
  mem := by simp
  obj := fun i h st c hc => by
    obtain ⟨hz, hTI, ⟨u, v, hTO⟩, c1, c2⟩ := st
    rcases (by simpa using hc : c = z ∨ c = TI ∨ c = TO ∨ c = i1 ∨ c = i2) with rfl | rfl | rfl | rfl | rfl
    · exact ⟨_, hz, fun v q => nomatch q⟩
    · exact ⟨_, hTI, fun v q => nomatch q⟩
    · exact ⟨_, hTO, fun v q => nomatch q⟩
    · exact cell_live c1
    · exact cell_live c2
  keep := fun i h h' ⟨hz, hTI, ⟨u, v, hTO⟩, c1, c2⟩ k => ⟨k z (by simp) _ hz, k TI (by simp) _ hTI, ⟨u, v, k TO (by simp) _ hTO⟩, cell_keep c1 fun o q => k i1 (by simp) o q, cell_keep c2 fun o q => k i2 (by simp) o q⟩
  item := by
    intro X hP hw hK hc i pins s σ H E I hf st hg
    subst hP hw hK
    obtain ⟨hz, hTI, ⟨u0, v0, hTO⟩, c1, c2⟩ := st
    obtain ⟨xs, ys, a0, b0, hx, hy, ha0, hb0⟩ := hg
    obtain ⟨P1, St1, D1, st1, back1, rel1⟩ := src_draws I (I.ok.hd hc) hx c1
    obtain ⟨P2, St2, D2, st2, back2, rel2⟩ := src_draws I (I.ok.hd hc) hy c2
    have l1 : i < xs.length := (List.getElem?_eq_some_iff.mp ha0).1
    have l2 : i < ys.length := (List.getElem?_eq_some_iff.mp hb0).1
    have hzl := Heap.lt_size hz
    refine wpAny_pyNext_zipD2_item D D1 D2 hz hTI hTO st1 st2 l1 l2 fun u v h' tk p1 p2 z' TO' s1' s2' hT hsz hk => ?_
    obtain ⟨a, ha, ra⟩ := rel1 i u p1
    obtain ⟨b, hb, rb⟩ := rel2 i v p2
    refine ⟨_, rfl, wpAny_letOwnedTupleGo_zip (s := { s with heap := h', toks := tk }) z' fun h2 z2 sb => ?_⟩
    have hT2 : IsTupOf2 h2 s.heap.objs.size u v := (sb.2 _ (Nat.ne_of_gt hzl)).trans hT
    have new : ObjOk X.prog X.w (upd H s.heap.objs.size (.tup [a, b])) h2 s.heap.objs.size (.tup [a, b]) :=
      ⟨(by decide : 2 ≤ sizeLine), _, .cons ra (.cons rb .nil), ⟨_, hT2, rfl, _, rfl⟩⟩
    have I1 := I.turnedNew (t' := tk) (ch := [z, TI, TO, i1, i2]) (fun c o hb q => (sb.2 c fun q' => hb (by simp [q'])).trans (hk c o (fun q' => hb (by simp [q'])) (fun q' => hb (by simp [q'])) (fun q' => hb (by simp [q'])) (fun q' => hb (by simp [q'])) q)) hf (Nat.le_refl _) new
    refine ⟨.ref s.heap.objs.size, _, I1, rfl, ⟨_, a, b, rfl, I.hok.fresh (Nat.le_refl _), rfl, fun l hl => by rw [src_inj I hl hx]; exact ha, fun l hl => by rw [src_inj I hl hy]; exact hb⟩, ⟨z2, ?_, ⟨u, v, ?_⟩, ?_, ?_⟩, fun c hcm => ?_⟩
    · exact (sb.2 _ D.TIz).trans (hk _ _ D.TIz D.TITO D.TIi1 D.TIi2 hTI)
    · exact (sb.2 _ D.TOz).trans TO'
    · exact cell_keep (back1 _ _ s1') fun o q => (sb.2 _ (Ne.symm D.zi1)).trans q
    · exact cell_keep (back2 _ _ s2') fun o q => (sb.2 _ (Ne.symm D.zi2)).trans q
    · obtain ⟨o1, e1, _⟩ := cell_live c1
      obtain ⟨o2, e2, _⟩ := cell_live c2
      have hlt : c < s.heap.objs.size := by
        rcases (by simpa using hcm : c = z ∨ c = TI ∨ c = TO ∨ c = i1 ∨ c = i2) with rfl | rfl | rfl | rfl | rfl
        · exact hzl
        · exact Heap.lt_size hTI
        · exact Heap.lt_size hTO
        · exact Heap.lt_size e1
        · exact Heap.lt_size e2
      rw [upd_ne (Nat.ne_of_lt hlt)]
      exact (hf c hcm).1
  done := by
    intro X hP hw hK hc i pins s σ H E I hf st hg
    subst hP hw hK
    obtain ⟨hz, hTI, ⟨u0, v0, hTO⟩, c1, c2⟩ := st
    obtain ⟨xs, ys, hx, hy, he⟩ := hg
    obtain ⟨P1, St1, D1, st1, back1, rel1⟩ := src_draws I (I.ok.hd hc) hx c1
    obtain ⟨P2, St2, D2, st2, back2, rel2⟩ := src_draws I (I.ok.hd hc) hy c2
    refine wpAny_pyNext_zipD2_end D D1 D2 hz hTI hTO st1 st2 (by omega) (by omega) (by omega) fun h' tk hk => ⟨rfl, I.turnedL (t' := tk) (ch := [z, TI, TO, i1, i2]) (fun c o hb q => ?_) hf⟩
    exact hk c o (fun q' => hb (by simp [q'])) (fun q' => hb (by simp [q'])) (fun q' => hb (by simp [q'])) (fun q' => hb (by simp [q'])) q
  self := fun A i s Q E st h => wpAny_pyIter_zip st.1 h
def iZipS (K : PySem.W.Frag) (ta : TA) : TI := fun σ H R => ta σ H fun vs H1 => ∃ x y : Src, vs = [x.v, y.v] ∧ (∃ xs, x.has K H1 xs) ∧ (∃ ys, y.has K H1 ys) ∧ R (ItZ K x y) H1
theorem pi_zipS {X : Cx} {e e2 : Expr} {ta : TA} {p pos tpos : Pos} {elts : List Expr} {kk : Nat} (hg : Gl X "zip") (hm : X.mg "zip" = none) (ha : PA X [e, e2] ta)
    (hs : starEach [e, e2] X.env = (false, eval e X.env) :: starEach [e2] X.env := by rfl) (hpl : (backTo pos (starEach [e2] X.env)).any (·.1) = false := by rfl) :
    PI X (.Tuple elts kk tpos) (.Call (.Name "zip" p) [e, e2] [] pos) (iZipS X.K ta) := by
  refine ⟨fun pins s σ H R I h => ?_⟩
  refine Call_ (ld_blt I hg hm boot_zip (callWith_type1 (thn (ha.run pos pins s σ H _ I h) fun us s1 ⟨vs, H1, I1, r1, q1⟩ => ?_) hs hpl))
  obtain ⟨x, y, rfl, ⟨xs, hx⟩, ⟨ys, hy⟩, q⟩ := q1
  cases r1 with
  | cons ra rr =>
    cases rr with
    | cons rb rr =>
      cases rr
      obtain ⟨o1, Hh1, B1, hH1, begin1, f1, hfp1, hlt1⟩ := src_begins I1 hx ra
      obtain ⟨o2, Hh2, B2, hH2, begin2, f2, hfp2, hlt2⟩ := src_begins I1 hy rb
      refine zip_begins2 B1 B2 hH1 hH2 fun h' hz hTI hTO g1 g2 hsz hk => wpAny_pyIter_zip hz ?_
      have I2 : Inv X pins σ H1 { s1 with heap := h' } := I1.kept (t' := s1.toks) hk
      have S := zip_sep2 hlt1 hlt2
      rw [← hfp1, ← hfp2] at S
      refine ⟨s1.heap.objs.size + 4, [s1.heap.objs.size + 4, s1.heap.objs.size + 2, s1.heap.objs.size + 3, s1.heap.objs.size, s1.heap.objs.size + 1], _, _, H1, rfl, I2, turn_zipS x y S, ⟨hz, hTI, ⟨_, _, hTO⟩, begin1 _ _ g1, begin2 _ _ g2⟩, fun c hcm => ?_, q⟩
      have hle : s1.heap.objs.size ≤ c := by
        rcases (by simpa using hcm : c = s1.heap.objs.size + 4 ∨ c = s1.heap.objs.size + 2 ∨ c = s1.heap.objs.size + 3 ∨ c = s1.heap.objs.size ∨ c = s1.heap.objs.size + 1) with rfl | rfl | rfl | rfl | rfl
        · exact Nat.le_add_right _ _
        · exact Nat.le_add_right _ _
        · exact Nat.le_add_right _ _
        · exact Nat.le_refl _
        · exact Nat.le_add_right _ _
      exact I1.fpOk hle (I1.hok.fresh hle)

/-! ### by data -/
def SrcD (K : PySem.W.Frag) (G : Gh) (ads : List Addr) (H : Hp) (x : Src) (ds : List D) : Prop :=
  ∀ G' ads2 S2 H2, Wider G G' H → Cur K G' ads2 S2 H2 → Evo ads H ads2 H2 → ∃ vs, x.has K H2 vs ∧ RepL K (mu G' ads2) ads2 H2 ds vs
theorem str_repL {K : PySem.W.Frag} {mu : Addr → Prop} {ads : List Addr} {H : Hp} : ∀ l : List Nat, RepL K mu ads H (l.map fun c => D.str [c]) (l.map fun c => V.str ⟨#[c]⟩)
  | [] => by simp [RepL]
  | c :: l => by
    simp only [List.map_cons, RepL]
    exact ⟨_, _, rfl, by simp only [Rep]; exact ⟨rfl, (by decide : 1 ≤ sizeLine)⟩, str_repL l⟩
theorem src_rep {K : PySem.W.Frag} {G : Gh} {ads : List Addr} {H : Hp} {x : D} {v : V} {ds : List D} (r : Rep K (mu G ads) ads H x v) (e : itemsD x = some ds) : ∃ y : Src, v = y.v ∧ SrcD K G ads H y ds := by
  cases x with
  | lst xs =>
    cases e
    simp only [Rep] at r
    obtain ⟨p, vs, rfl, h1, h2, h3⟩ := r
    exact ⟨.l p, rfl, fun G' ads2 S2 H2 w c ev => ⟨vs, SqL.of (ev.frame _ _ h1 fun q => h2 (.inr q)), repL_evo2 w ev _ _ h3⟩⟩
  | tup xs =>
    cases e
    simp only [Rep] at r
    obtain ⟨p, vs, rfl, h1, h2, h3⟩ := r
    exact ⟨.t p, rfl, fun G' ads2 S2 H2 w c ev => ⟨vs, SqT.of (ev.frame _ _ h1 fun q => h2 (.inr q)), repL_evo2 w ev _ _ h3⟩⟩
  | str s =>
    cases e
    simp only [Rep] at r
    rw [r.1]
    exact ⟨.s ⟨s.toArray⟩, rfl, fun G' ads2 S2 H2 w c ev => ⟨_, rfl, str_repL s⟩⟩
  | _ => cases e
theorem tup_fresh {K : PySem.W.Frag} {G : Gh} {ads : List Addr} {S : Sto} {H : Hp} (c : Cur K G ads S H) {p : Addr} (hp : H p = none) {ds : List D} {vs : List V} (r : RepL K (mu G ads) ads H ds vs) : Keeps H (upd H p (.tup vs)) ∧ Rep K (mu G ads) ads (upd H p (.tup vs)) (.tup ds) (.ref p) := by
  have kp : Keeps H (upd H p (.tup vs)) := Keeps.new hp
  refine ⟨kp, ?_⟩
  simp only [Rep]
  exact ⟨p, vs, rfl, upd_same, c.nomu hp, repL_evo (kp.evo ads) _ _ r⟩
theorem walks_enum {K : PySem.W.Frag} {G : Gh} {ads : List Addr} {H : Hp} {x : Src} {ds : List D} (h : SrcD K G ads H x ds) : Walks K G (ItE K x) (enumD 0 ds) ads H := fun G' ads2 S2 H2 w c e => by
  obtain ⟨vs, hv, r⟩ := h G' ads2 S2 H2 w c e
  have hl := r.length
  rw [enumD_len]
  refine ⟨fun i hi => ⟨vs, vs[i]'(by omega), hv, List.getElem?_eq_getElem _⟩, ⟨vs, hv, hl⟩, fun i u H' hi hy => ?_⟩
  obtain ⟨T, y, rfl, hT, rfl, hys⟩ := hy
  obtain ⟨d, q1, q2⟩ := r.getV (hys vs hv)
  obtain ⟨kp, rp⟩ := tup_fresh c hT (ds := [.int (i : Nat), d]) (vs := [.int (i : Nat), y]) (.cons (by simp only [Rep]) (.cons q2 .nil))
  exact ⟨kp, _, by rw [enumD_get, q1]; simp, rp⟩
theorem walks_zip {K : PySem.W.Frag} {G : Gh} {ads : List Addr} {H : Hp} {x y : Src} {ds es : List D} (h : SrcD K G ads H x ds) (h' : SrcD K G ads H y es) : Walks K G (ItZ K x y) (zipD ds es) ads H := fun G' ads2 S2 H2 w c e => by
  obtain ⟨vs, hv, r⟩ := h G' ads2 S2 H2 w c e
  obtain ⟨us, hu, r'⟩ := h' G' ads2 S2 H2 w c e
  have hl := r.length
  have hl' := r'.length
  have hz : (zipD ds es).length = min ds.length es.length := by simp [zipD]
  rw [hz]
  refine ⟨fun i hi => ⟨vs, us, vs[i]'(by omega), us[i]'(by omega), hv, hu, List.getElem?_eq_getElem _, List.getElem?_eq_getElem _⟩, ⟨vs, us, hv, hu, by rw [hl, hl']⟩, fun i u H' hi hy => ?_⟩
  obtain ⟨T, a, b, rfl, hT, rfl, h1, h2⟩ := hy
  obtain ⟨d, q1, q2⟩ := r.getV (h1 vs hv)
  obtain ⟨d', q1', q2'⟩ := r'.getV (h2 us hu)
  obtain ⟨kp, rp⟩ := tup_fresh c hT (ds := [d, d']) (vs := [a, b]) (.cons q2 (.cons q2' .nil))
  exact ⟨kp, _, by simp [zipD, List.getElem?_zipWith, q1, q1'], rp⟩
section
variable {X : Cx} {a b : Expr} {Ta Tb : DTE} {p pos tpos : Pos} {elts : List Expr} {kk : Nat}
theorem di_enum (hg : Gl X "enumerate") (hm : X.mg "enumerate" = none) (ha : DE X a Ta) (ns : starEach [a] X.env = (false, eval a X.env) :: starEach [] X.env := by rfl) (hs : starEach [a] X.env = [(false, eval a X.env)] := by rfl) : DI' X (.Tuple elts kk tpos) (.Call (.Name "enumerate" p) [a] [] pos) (iEnum Ta) := by
  obtain ⟨t, p1, s⟩ := ha.ex
  refine ⟨_, pi_enumS hg hm (pa_cons p1 pa_nil ns) hs, fun G ads S H σ env k R c re hk q => ?_⟩
  refine s G ads S H σ env _ _ c re hk fun ads1 S1 H1 x v c1 e1 r1 k1 => ?_
  obtain ⟨ds, e, hk⟩ := onO_some k1
  obtain ⟨y, rfl, hy⟩ := src_rep r1 e
  obtain ⟨vs, hv, _⟩ := hy G ads1 S1 H1 (Wider.refl _ _) c1 (Evo.refl _ _)
  exact ⟨y, rfl, ⟨vs, hv⟩, q ads1 S1 H1 _ _ c1 e1 (walks_enum hy) hk⟩
theorem di_zip (hg : Gl X "zip") (hm : X.mg "zip" = none) (ha : DE X a Ta) (hb : DE X b Tb) (ns : starEach [a, b] X.env = (false, eval a X.env) :: starEach [b] X.env := by rfl) (ns2 : starEach [b] X.env = (false, eval b X.env) :: starEach [] X.env := by rfl)
    (hpl : (backTo pos (starEach [b] X.env)).any (·.1) = false := by rfl) : DI' X (.Tuple elts kk tpos) (.Call (.Name "zip" p) [a, b] [] pos) (iZip Ta Tb) := by
  obtain ⟨t, p1, s⟩ := ha.ex
  obtain ⟨u, p2, s2⟩ := hb.ex
  refine ⟨_, pi_zipS hg hm (pa_cons p1 (pa_cons p2 pa_nil ns2) ns) ns hpl, fun G ads S H σ env k R c re hk q => ?_⟩
  refine s G ads S H σ env _ _ c re hk fun ads1 S1 H1 x v c1 e1 r1 k1 => ?_
  refine s2 G ads1 S1 H1 σ env _ _ c1 (repE_evo e1 re) k1 fun ads2 S2 H2 y w c2 e2 r2 k2 => ?_
  obtain ⟨ds, e, k3⟩ := onO_some k2
  obtain ⟨es, e', hk⟩ := onO_some k3
  obtain ⟨x', rfl, hx⟩ := src_rep (rep_evo e2 _ _ r1) e
  obtain ⟨y', rfl, hy⟩ := src_rep r2 e'
  obtain ⟨vs, hv, _⟩ := hx G ads2 S2 H2 (Wider.refl _ _) c2 (Evo.refl _ _)
  obtain ⟨us, hu, _⟩ := hy G ads2 S2 H2 (Wider.refl _ _) c2 (Evo.refl _ _)
  exact ⟨x', y', rfl, ⟨vs, hv⟩, ⟨us, hu⟩, q ads2 S2 H2 _ _ c2 (e1.trans e2) (walks_zip hx hy) hk⟩
end
end Dat
set_option Elab.async false
set_option linter.all false
set_option maxRecDepth 100000
set_option maxHeartbeats 1000000
/-! DatJ: list(x), list(range(n)), count, [::-1], a call with the store's object last. -/
namespace Dat
open PySem PySem.Spec PyProof.Rows L2
section
variable {X : Cx} {a b : Expr} {Ta Tb : DTE} {p pos : Pos}
/-! ### list(x) -/
theorem dn_cpy (hg : Gl X "list") (hm : X.mg "list" = none) (ha : DE X a Ta) (na : starEach [a] X.env = (false, eval a X.env) :: starEach [] X.env := by rfl) : DN X (.Call (.Name "list" p) [a] [] pos) (nCpy Ta) := by
  obtain ⟨t, q, s⟩ := ha.ex
  refine ⟨_, pe_callTy call_list_of hg hm (by decide +kernel) (pa_cons q pa_nil na) (by decide) (by decide) na, fun G ads S H σ env k Q c re hk q => ?_⟩
  refine s G ads S H σ env _ _ c re hk fun ads1 S1 H1 x v c1 e1 r1 k1 => ?_
  split at k1
  · rename_i ds e
    obtain ⟨a, vs, rfl, h1, h2⟩ := res_lst c1 r1 e
    exact ⟨a, vs, rfl, .inl (SqL.of h1), fun p hp => q ads1 S1 H1 _ p ds vs c1 e1 hp (Keeps.new hp) upd_same h2 k1⟩
  · rename_i ds e
    obtain ⟨a, vs, rfl, h1, _, h2⟩ := res_tup r1 e
    exact ⟨a, vs, rfl, .inr (SqT.of h1), fun p hp => q ads1 S1 H1 _ p ds vs c1 e1 hp (Keeps.new hp) upd_same h2 k1⟩
  · exact k1.elim
/-! ### list(range(n)) -/
theorem rng_repL {K : PySem.W.Frag} {mu : Addr → Prop} {ads : List Addr} {H : Hp} : ∀ l : List Int, RepL K mu ads H (l.map D.int) (l.map V.int)
  | [] => by simp [RepL]
  | i :: l => by
    simp only [List.map_cons, RepL]
    exact ⟨_, _, rfl, by simp only [Rep], rng_repL l⟩

theorem rgV_eq (n : Int) : rgV 0 n = (((List.range n.toNat).map fun (i : Nat) => (0 : Int) + (i : Int))).map V.int := by
  unfold rgV
  rw [List.map_map, Int.sub_zero]
  rfl
theorem dn_rng {p2 pos2 : Pos} (hc : X.calm = true) (hg : Gl X "list") (hm : X.mg "list" = none) (hg2 : Gl X "range") (hm2 : X.mg "range" = none) (ha : DE X a Ta) (na : starEach [a] X.env = (false, eval a X.env) :: starEach [] X.env := by rfl)
    (na2 : starEach [Expr.Call (.Name "range" p2) [a] [] pos2] X.env = (false, eval (Expr.Call (.Name "range" p2) [a] [] pos2) X.env) :: starEach [] X.env := by rfl) : DN X (.Call (.Name "list" p) [.Call (.Name "range" p2) [a] [] pos2] [] pos) (nRng Ta) := by
  obtain ⟨t, q, s⟩ := ha.ex
  refine ⟨_, pe_listRg hc hg hm (prg_1 hg2 hm2 q na) na2, fun G ads S H σ env k Q c re hk q => ?_⟩
  refine s G ads S H σ env _ _ c re hk fun ads1 S1 H1 x v c1 e1 r1 k1 => ?_
  split at k1
  · rename_i n
    simp only [Rep] at r1
    subst r1
    refine ⟨n, rfl, ⟨by decide, by decide, by omega, by omega, by have := k1.1; omega⟩, fun p hp => ?_⟩
    rw [rgV_eq]
    have e : rngD 0 n = ((List.range n.toNat).map fun (i : Nat) => (0 : Int) + (i : Int)).map D.int := by
      unfold rngD
      rw [List.map_map, Int.sub_zero]
      rfl
    refine q ads1 S1 H1 _ p _ _ c1 e1 hp (Keeps.new hp) upd_same ?_ k1.2
    rw [e]
    exact rng_repL _
  · exact k1.elim
/-! ### s.count(c) -/
theorem cnt_filter (c : Nat) : ∀ l : List Nat, PyProof.Rows.cnt c l = (((l.filter fun d => d == c).length : Nat) : Int)
  | [] => rfl
  | d :: l => by
    rw [PyProof.Rows.cnt_cons, cnt_filter c l, List.filter_cons]
    by_cases h : d = c
    · subst h; simp; omega
    · have : (d == c) = false := by simpa using h
      rw [this]; simp [h]
theorem de_count {apos cpos : Pos} (ho : DE X a Ta) (he : DE X b Tb) (hs : starEach [b] X.env = [(false, eval b X.env)] := by rfl) (hbase : attributeBase a "count" X.env (eval a X.env) = eval a X.env := by rfl) (hline : (apos.endLine == cpos.line) = true := by rfl) :
    DE X (.Call (.Attribute a "count" apos) [b] [] cpos) (dCount Ta Tb) := by
  obtain ⟨ta, p1, s1⟩ := ho.ex
  obtain ⟨tb, p2, s2⟩ := he.ex
  refine ⟨_, pe_m1 F.slot_str_count (by kernel_rfl) mt_count p1 p2 hs hbase hline, fun G ads S H σ env k Q c re hk q => ?_⟩
  refine s1 G ads S H σ env _ _ c re hk fun ads1 S1 H1 x v c1 e1 r1 k1 => ?_
  cases x with
  | str s =>
    have r1' := r1
    simp only [Rep] at r1'
    refine ⟨⟨_, r1'.1⟩, ?_⟩
    refine s2 G ads1 S1 H1 σ env _ _ c1 (repE_evo e1 re) k1 fun ads2 S2 H2 y u c2 e2 r2 k2 => ?_
    split at k2
    · rename_i ch
      simp only [Rep] at r2
      refine ⟨_, _, r1'.1, by rw [r2.1]; rfl, ?_⟩
      have ec : Txt.count ⟨s.toArray⟩ ⟨#[ch]⟩ = (((s.filter fun d => d == ch).length : Nat) : Int) := by rw [count_cnt]; exact cnt_filter ch s
      rw [show (⟨[ch].toArray⟩ : Str) = ⟨#[ch]⟩ from rfl, ec]
      exact q ads2 S2 H2 _ _ c2 (e1.trans e2) (by simp only [Rep]) k2
    · exact k2.elim
  | _ => exact k1.elim
/-! ### a call with the object last -/
theorem repL_rev {K : PySem.W.Frag} {mu : Addr → Prop} {ads : List Addr} {H : Hp} {ds : List D} {vs : List V} (r : RepL K mu ads H ds vs) : RepL K mu ads H ds.reverse vs.reverse := by
  induction ds generalizing vs with
  | nil => simp only [RepL] at r; subst r; simp [RepL]
  | cons d ds ih =>
    simp only [RepL] at r
    obtain ⟨v, w, rfl, h1, h2⟩ := r
    rw [List.reverse_cons, List.reverse_cons]
    have := ih h2
    clear ih h2
    generalize ds.reverse = ds' at this ⊢
    generalize w.reverse = w' at this ⊢
    induction ds' generalizing w' with
    | nil => simp only [RepL] at this; subst this; simp only [List.nil_append, RepL]; exact ⟨v, [], rfl, h1, rfl⟩
    | cons d' ds' ih2 =>
      simp only [RepL] at this
      obtain ⟨v', w'', rfl, g1, g2⟩ := this
      simp only [List.cons_append, RepL]
      exact ⟨v', _, rfl, g1, ih2 _ g2⟩
theorem sp_rev {K : PySem.W.Frag} {F : FSp} {vs : List V} {H : Hp} {Q : VK} {E : XK} (h : spOf K (fun es => F es.reverse) vs.reverse H Q E) : spOf K F vs H Q E := by
  obtain ⟨W, mu0, S, ds, k, c, r, hF, q⟩ := h
  have r' := repL_rev r
  rw [List.reverse_reverse] at r'
  exact ⟨W, mu0, S, ds.reverse, k, c, r', hF, q⟩
theorem de_callL {es : List Expr} {e : Expr} {x : Str} {F : FSp} {lvl : Nat} {ps : List Str} {TA' : DTA} (C : Cal X.prog X.w X.K X.mg X.base x lvl ps F) (hr : Room lvl X.A) (hg : Gl X x) (ha : DA X (e :: es) TA') (hdb : (x == ("__debug__" : Str)) = false := by decide) (he : starEach (e :: es) X.env = (false, eval e X.env) :: starEach es X.env := by rfl) (hpl : (backTo pos (starEach es X.env)).any (·.1) = false := by rfl) :
    DE X (.Call (.Name x p) (e :: es) [] pos) (dCallL F TA') := by
  obtain ⟨f, fd, G, hk, hb, hm⟩ := C.ex
  obtain ⟨t, q, s⟩ := ha.ex
  refine ⟨_, pe_call (dvs := []) (E := E0) G hr hg hm hk hb .nil pass0 q hdb he hpl, fun G ads S H σ env k Q c re hT q => ?_⟩
  refine s G ads S H σ env _ _ c re hT fun ads1 S1 H1 ds vs c1 e1 r1 k1 => ?_
  rw [List.append_nil]
  refine sp_rev (snd_callM c1 (repL_rev r1) k1 fun ads2 S2 H2 d v c2 e2 r2 k2 => ?_)
  exact q ads2 S2 H2 d v c2 (e1.trans e2) r2 k2
end

/-! ### x[::-1] -/
section
variable {prog : Program} {w : World} {A : Around} {E : Value → Shared → Prop} {s : Shared}
theorem applied_back {sl : Addr} {n : Nat} {tk : Tok} {Q : Int × Int × Nat → Shared → Prop} (hs : s.heap.IsSliceOf sl .none .none (.int (-1) tk)) (h : Q ((n : Int) - 1, -1, n) s) : wpAny (model prog w) A (Builtin.Slice.sliceApplied (.ref sl) (pure (n : Int))) Q E s := by
  obtain ⟨os, hos, hcs, hds⟩ := id hs
  unfold Builtin.Slice.sliceApplied Builtin.Slice.sliceFields
  refine wpAny_bind (wpAny_bind (wpAny_field hos hds (x := .none) rfl (wpAny_bind (wpAny_field hos hds (x := .none) rfl (wpAny_bind (wpAny_field hos hds (x := .int (-1) tk) rfl (wpAny_pure ?_)))))))
  refine wpAny_bind (slicePart_int ?_)
  show wpAny _ _ (if ((-1 : Int) == 0) = true then _ else _) _ _ s
  rw [if_neg (by decide)]
  refine wpAny_bind (slicePart_none (wpAny_bind (slicePart_none (wpAny_bind (wpAny_pure ?_)))))
  have e1 : Builtin.Slice.sliceAdjust none none (-1) (n : Int) = ((n : Int) - 1, -1) := by
    unfold Builtin.Slice.sliceAdjust
    simp
  have e2 : Builtin.Slice.slicePlaces ((n : Int) - 1) (-1) (-1) = n := by
    unfold Builtin.Slice.slicePlaces
    have h1 : ¬ ((-1 : Int) > 0) := by decide
    simp only [h1, if_false]
    split
    · rw [show (- -1 : Int) = 1 from by decide, Int.ediv_one]; omega
    · omega
  show wpAny _ _ (match Builtin.Slice.sliceAdjust none none (-1) (n : Int) with | (lo, hi) => pure (lo, (-1 : Int), Builtin.Slice.slicePlaces lo hi (-1))) _ _ s
  rw [e1]
  show wpAny _ _ (pure ((n : Int) - 1, (-1 : Int), Builtin.Slice.slicePlaces ((n : Int) - 1) (-1) (-1))) _ _ s
  rw [e2]
  exact wpAny_pure h
theorem pick_back (xs : Array Value) : ((List.range xs.size).filterMap fun (m : Nat) => xs[(((xs.size : Int) - 1) + (m : Int) * (-1)).toNat]?) = xs.toList.reverse := by
  have e : (List.range xs.size).filterMap (fun (m : Nat) => xs[(((xs.size : Int) - 1) + (m : Int) * (-1)).toNat]?) = ((List.range xs.size).map fun k => xs.size - 1 - k).filterMap (xs[·]?) := by
    rw [List.filterMap_map]
    have e2 : (fun (m : Nat) => xs[(((xs.size : Int) - 1) + (m : Int) * (-1)).toNat]?) = ((xs[·]?) ∘ fun k => xs.size - 1 - k) := by
      funext m
      have e3 : (((xs.size : Int) - 1) + (m : Int) * (-1)).toNat = xs.size - 1 - m := by omega
      rw [e3]; rfl
    rw [e2]
  rw [e, PySem.W.krv_range, List.filterMap_reverse, PySem.W.krv_all]
theorem item_tup_back {t sl : Addr} {items : Array Value} {tk : Tok} {Q : Value → Shared → Prop} (ht : IsTup s.heap t items) (hs : s.heap.IsSliceOf sl .none .none (.int (-1) tk))
    (h : Q (.ref s.heap.objs.size) { s with heap := s.heap.push { cls := .type "tuple", data := .seq items.toList.reverse.toArray } }) (hsz : items.size ≤ sizeLine) : wpAny (model prog w) A (getItem (.ref t) (.ref sl)) Q E s := by
  have htake : sizeOk (.seq items.toList.reverse.toArray) := by
    show items.toList.reverse.toArray.size ≤ sizeLine
    simpa using hsz
  obtain ⟨os, hos, hcs, hds⟩ := id hs
  have hTs : s.TypeIs (.ref sl) "slice" := ⟨os, hos, hcs⟩
  unfold getItem
  with_reducible refine wpAny_holding ?_
  refine wpAny_bind (wpAny_sequenceKey ht.typeIs (by decide) ?_)
  refine wpAny_bind (wpAny_callSpecial?_slot (name := Str.ofString "__getitem__") ht.typeIs slot_tuple_getitem (wpAny_call_entry slot_tuple_getitem ht.typeIs entry_tuple_getitem ?_ (args_tuple_getitem _ _)))
  show wpAny _ _ (Builtin.Tuple.tupleItemsOf (.ref t) >>= _) _ _ s
  refine wpAny_bind (tupleItemsOf_ ht ?_)
  refine wpAny_bind (wpAny_typeOf hTs ?_)
  rw [if_pos (by decide)]
  refine wpAny_bind (applied_back hs ?_)
  show wpAny _ _ (if (((items.size : Int) - 1) == 0 && (-1 : Int) == 1 && items.size == items.size) = true then _ else _) _ _ s
  rw [if_neg (by simp), pick_back]
  first
    | exact wpAny_bind (m := Builtin.Tuple.tupleExact _) (wpAny_newObj_type (wpAny_pure ⟨_, rfl, wpAny_pure h⟩) htake)
    | exact wpAny_bind (m := Builtin.Tuple.tupleExact _) (wpAny_newObj_type (wpAny_bind (wpAny_pure (wpAny_pure ⟨_, rfl, wpAny_pure h⟩))) htake)
end
theorem picked_back (z : Str) : ((Builtin.Str.strSliceIndices none none (-1) z.length).filterMap (z.cps[·]?)) = z.cps.toList.reverse := by
  have e : Builtin.Str.strSliceIndices none none (-1) z.length = (List.range z.length).map fun k => z.length - 1 - k := PySem.W.krv_sliceRange z.length
  rw [e, PySem.W.krv_range, List.filterMap_reverse]
  congr 1
  exact PySem.W.krv_all z.cps
def tRevA (K : PySem.W.Frag) (te : TE) : TE := fun σ H Q => te σ H fun x H1 => (∃ a xs, x = .ref a ∧ SqL K H1 a xs ∧ ∀ p, H1 p = none → Q (.ref p) (upd H1 p (.lst xs.reverse))) ∨
  (∃ a xs, x = .ref a ∧ SqT K H1 a xs ∧ ∀ p, H1 p = none → Q (.ref p) (upd H1 p (.tup xs.reverse))) ∨ ∃ z, x = .str z ∧ z.length ≤ sizeLine ∧ Q (.str ⟨z.cps.toList.reverse.toArray⟩) H1
theorem pe_revA {X : Cx} {e : Expr} {te : TE} {k : Nat} {p1 p2 p3 pos : Pos} (he : PE X e te) : PE X (.Subscript e (.Slice none none (some (.UnaryOp .USub (.Constant (.int 1) k p1) p2)) p3) pos) (tRevA X.K te) := by
  refine ⟨fun pins s σ H Q I hh => ?_⟩
  refine Subscript_ (thn (he.run pins s σ H _ I hh) fun v s1 ⟨x, H1, I1, r1, q1⟩ => ?_)
  have hst : PO X (some (.UnaryOp .USub (.Constant (.int 1) k p1) p2)) (tPart (tUn (rU fun i => .int (-i)) (tC (.int 1)))) := po_some (pe_un un_neg pe_int)
  refine wpAny_Slice (thn (po_none.run pins s1 σ H1 (fun o H2 => o = none ∧ H2 = H1) I1 ⟨rfl, rfl⟩) fun vl s2 ⟨l, H2, I2, pl, el, e2⟩ => ?_)
  subst el e2
  refine thn (po_none.run pins s2 σ H2 (fun o H3 => o = none ∧ H3 = H2) I2 ⟨rfl, rfl⟩) fun vu s3 ⟨u, H3, I3, pu, eu, e3⟩ => ?_
  subst eu e3
  refine thn (hst.run pins s3 σ H3 (fun o H4 => o = some (-1) ∧ H4 = H3) I3 ⟨1, rfl, -1, rfl, rfl, rfl⟩) fun vs s4 ⟨o, H4, I4, ps, eo, e4⟩ => ?_
  subst eo e4
  have I5 : Inv X pins σ H4 { s4 with heap := s4.heap.push { cls := .type "slice", data := .fields #[vl, vu, vs] } } := I4.kept (t' := s4.toks) fun b ob q => Heap.get?_push_of_some _ q
  have hsl := Heap.IsSliceOf.new s4.heap vl vu vs
  cases pl
  cases pu
  cases ps with
  | int i tk =>
    show wpAny (model X.prog X.w) X.A (subscriptTail e (.Slice none none (some (.UnaryOp .USub (.Constant (.int 1) k p1) p2)) p3) v (.ref s4.heap.objs.size)) (EP X pins σ Q) X.xe { s4 with heap := s4.heap.push { cls := .type "slice", data := .fields #[.none, .none, .int (-1) tk] } }
    rcases q1 with ⟨a, xs, rfl, hx, q⟩ | ⟨a, xs, rfl, hx, q⟩ | ⟨z, rfl, hz, q⟩
    · cases r1
      obtain ⟨its, r, ht, hz⟩ := I5.list hx
      have hlen := r.length
      refine tail_any (ops := [.ref a, .ref s4.heap.objs.size]) ht.isList.typeIs (PySem.slot_list_getitem.lookup) ?_ (by with_unfolding_all rfl)
      refine wpAny_getItem_list_slice ht.isList hsl .none .none (.int (-1) tk) (by decide) ?_ (by rw [List.size_toArray]; omega)
      rw [PySem.W.krv_pick]
      refine ⟨.ref _, _, I5.laid (t' := s4.toks) (o := .lst xs.reverse) (fun b ob q => Heap.get?_push_of_some _ q) (Nat.le_refl _) ?_, rfl, q _ (I5.hok.fresh (Nat.le_refl _))⟩
      exact ⟨by rw [List.length_reverse]; exact hz, _, 0, r.reverse, Heap.get?_push_size _ rfl⟩
    · cases r1
      obtain ⟨its, r, ht, hz⟩ := I5.tuple hx
      have hlen := r.length
      refine tail_any (ops := [.ref a, .ref s4.heap.objs.size]) ht.typeIs (slot_tuple_getitem.lookup) ?_ (by with_unfolding_all rfl)
      refine item_tup_back ht hsl ?_ (by rw [List.size_toArray]; omega)
      refine ⟨.ref _, _, I5.laid (t' := s4.toks) (o := .tup xs.reverse) (fun b ob q => Heap.get?_push_of_some _ q) (Nat.le_refl _) ?_, rfl, q _ (I5.hok.fresh (Nat.le_refl _))⟩
      exact ⟨by rw [List.length_reverse]; exact hz, _, r.reverse, IsTup.new _ _⟩
    · obtain ⟨t, rfl⟩ := r1
      refine tail_any (ops := [.str z t, .ref s4.heap.objs.size]) (typeIs_str _ _ _) F.slot_str_getitem.lookup ?_ (by with_unfolding_all rfl)
      refine wpAny_getItem_str_slice (l := none) (u := none) (st := some (-1, tk)) ?_ rfl ?_
      · exact hsl
      · show Made.post (Made.str ⟨((Builtin.Str.strSliceIndices none none (-1) z.length).filterMap (z.cps[·]?)).toArray⟩) _ _
        rw [picked_back]
        refine ⟨?_, .str _, H4, I5.tok _, ⟨_, rfl⟩, q⟩
        show (z.cps.toList.reverse.toArray).size ≤ sizeLine
        rw [List.size_toArray, List.length_reverse, Array.length_toList]
        exact hz
theorem de_rev {X : Cx} {e : Expr} {Te : DTE} {k : Nat} {p1 p2 p3 pos : Pos} (he : DE X e Te) : DE X (.Subscript e (.Slice none none (some (.UnaryOp .USub (.Constant (.int 1) k p1) p2)) p3) pos) (dRev Te) := by
  obtain ⟨t, q, s⟩ := he.ex
  refine ⟨_, pe_revA q, fun G ads S H σ env k Q c re hk q => ?_⟩
  refine s G ads S H σ env _ _ c re hk fun ads1 S1 H1 x v c1 e1 r1 k1 => ?_
  have q1 : PostE X.K G ads1 H1 k Q := fun ads2 S2 H2 d w c2 e2 r2 k2 => q ads2 S2 H2 d w c2 (e1.trans e2) r2 k2
  split at k1
  · rename_i ds e
    obtain ⟨a, vs, rfl, h1, h2⟩ := res_lst c1 r1 e
    exact .inl ⟨a, vs, rfl, SqL.of h1, fun p hp => post_lst c1 q1 hp (repL_rev h2) k1⟩
  · rename_i ds e
    obtain ⟨a, vs, rfl, h1, _, h2⟩ := res_tup r1 e
    exact .inr (.inl ⟨a, vs, rfl, SqT.of h1, fun p hp => post_tup c1 q1 hp (repL_rev h2) k1⟩)
  · rename_i l e
    obtain ⟨rfl, hl⟩ := res_str r1 e
    refine .inr (.inr ⟨_, rfl, hl, ?_⟩)
    exact post_val c1 q1 (by simp only [Rep, strV]; exact ⟨by simp, by simpa using hl⟩) k1
  · exact k1.elim

/-! ### a comprehension over an object of the store -/
theorem snd_lcO {K : PySem.W.Frag} {tl : TE} {Ta : DTE} {tg : Expr} {g : TG} {Tg : DTG} {tt : TT} {Tt : DTT} {te : TE} {Te : DTE} {sl vs : List Nat} (hi : SndE K tl Ta) (hg : SndG K sl g Tg) (ht : SndT K tt Tt) (he : SndE K te Te) (hsl : ∀ i ∈ sl, i ∈ vs) :
    SndN K (tLc (iList K tl) g tt te vs) (nLcO Ta Tg Tt Te vs) := fun G ads S H σ env k Q c re hk q => by
  refine hi G ads S H σ env _ _ c re hk fun ads1 S1 H1 x v c1 e1 r1 k1 => ?_
  cases x with
  | own n => ?_
  | _ => exact k1.elim
  simp only at k1
  split at k1
  rotate_left
  · exact k1.elim
  rename_i ds hS
  obtain ⟨a, rfl, ha, vs1, hH1, rL1⟩ := own_at c1 r1 hS
  refine ⟨a, rfl, ⟨vs1, SqL.of hH1⟩, fun p hp => ?_⟩
  have h0 : G.H0 p = none := c1.none0 hp
  have hm0 : ¬ G.mu0 p := fun z => c1.nomu hp (.inl z)
  have hpa1 : p ∉ ads1 := fun z => c1.nomu hp (.inr z)
  have hd1 : dropH H1 p = H1 := by
    funext b
    by_cases e : b = p
    · subst e; rw [dropH_eq, hp]
    · exact dropH_ne e
  refine ⟨fun i m H => m = ds.length - i ∧ i ≤ ds.length ∧ ∃ ads2 S2 acc vsa, Cur K (G.plus p) ads2 S2 H ∧ H p = some (.lst vsa) ∧ Evo ads1 H1 ads2 (dropH H p) ∧ RepL K (mu (G.plus p) ads2) ads2 H acc vsa ∧ lcO n ds Tg Tt Te (wipeE env vs) (ds.drop i) acc S2 k,
    ⟨ds.length, by simp, Nat.zero_le _, ads1, S1, [], [], c1.begin hp, upd_same, ?_, .nil, by simpa using k1⟩, ?_⟩
  · rw [dropH_upd, hd1]; exact Evo.refl _ _
  rintro i m H2 ⟨rfl, hile, ads2, S2, acc, vsa, c2, hacc, ev2, racc, kk⟩
  have hpa2 : p ∉ ads2 := c2.apart p (.inr rfl)
  have ev2' : Evo ads1 H1 ads2 H2 := ev2.trans (dropH_keeps.evo ads2)
  have w2 : Wider G (G.plus p) H1 := fun a h => h.elim .inl fun e => .inr (e ▸ hp)
  have hS2 : S2[n]? = some (.lst ds) := by
    cases hds : ds.drop i with
    | nil => rw [hds] at kk; exact kk.1
    | cons d r => rw [hds] at kk; exact kk.1
  obtain ⟨a2, ha2, vs2, hH2, rL2⟩ := c2.obj n _ hS2
  have ea : a2 = a := by
    obtain ⟨⟨m, rfl, _⟩, _, _⟩ := ev2
    rw [List.getElem?_append_left (List.getElem?_eq_some_iff.mp ha).1, ha] at ha2
    exact (Option.some.inj ha2).symm
  subst ea
  have wl := walk_list (K := K) (a := a2) (xs := vs2)
  have hl2 := rL2.length
  by_cases hlt : i < ds.length
  · refine .inr ⟨wl.goes i H2 (by omega) (SqL.of hH2), fun H' => ∃ m', m' < ds.length - i ∧ (m' = ds.length - (i + 1) ∧ i + 1 ≤ ds.length ∧ ∃ ads2 S2 acc vsa, Cur K (G.plus p) ads2 S2 H' ∧ H' p = some (.lst vsa) ∧ Evo ads1 H1 ads2 (dropH H' p) ∧ RepL K (mu (G.plus p) ads2) ads2 H' acc vsa ∧ lcO n ds Tg Tt Te (wipeE env vs) (ds.drop (i + 1)) acc S2 k), fun H' hN => hN, fun x H3 hy => ?_⟩
    obtain ⟨eH, hx⟩ := wl.yields i H2 x H3 (by omega) (SqL.of hH2) hy
    subst eH
    obtain ⟨d, hd, rd⟩ := rL2.getV hx
    have hcons : ds.drop i = d :: ds.drop (i + 1) := by
      rw [List.drop_eq_getElem_cons hlt]
      have : ds[i] = d := by
        rw [List.getElem?_eq_getElem hlt] at hd
        exact Option.some.inj hd
      rw [this]
    rw [hcons] at kk
    unfold lcO at kk
    have re3 : RepE K (mu (G.plus p) ads2) ads2 H3 (wipeE env vs) (wipe σ vs) := repE_wipe vs (repE_evo2 w2 ev2' (repE_evo e1 re))
    refine hg (G.plus p) ads2 S2 H3 (wipe σ vs) (wipeE env vs) d x _ _ c2 re3 rd kk.2 fun ads4 S4 H4 env4 σ4 c4 e4 re4 f4 l4 k4 => ⟨wipe_same (fun j hj => f4 j fun z => hj (hsl j z)) l4, ?_⟩
    refine ht (G.plus p) ads4 S4 H4 σ4 env4 _ _ c4 re4 k4 fun ads5 S5 H5 b c5 e5 k5 => ?_
    have ev5 : Evo ads2 H3 ads5 H5 := e4.trans e5
    cases b with
    | true =>
      refine he (G.plus p) ads5 S5 H5 σ4 env4 _ _ c5 (repE_evo e5 re4) k5 fun ads6 S6 H6 y w c6 e6 r6 k6 => ?_
      have ev6 : Evo ads2 H3 ads6 H6 := ev5.trans e6
      have hacc6 : H6 p = some (.lst vsa) := ev6.frame _ _ hacc hpa2
      have hpa6 : p ∉ ads6 := c6.apart p (.inr rfl)
      have racc6 := repL_evo ev6 _ _ racc
      refine ⟨vsa, hacc6, by rw [racc6.length]; exact k6.1, ds.length - (i + 1), by omega, rfl, hlt, ads6, S6, acc ++ [y], vsa ++ [w], c6.grow h0, upd_same, ?_, ?_, k6.2⟩
      · rw [dropH_upd]
        exact ev2.trans (ev6.dropped hpa2 hpa6)
      · exact repL_upd0 (.inl (.inr rfl)) _ _ (racc6.app (.one r6))
    | false =>
      have hpa5 : p ∉ ads5 := c5.apart p (.inr rfl)
      exact ⟨ds.length - (i + 1), by omega, rfl, hlt, ads5, S5, acc, vsa, c5, ev5.frame _ _ hacc hpa2, ev2.trans (ev5.dropped hpa2 hpa5), repL_evo ev5 _ _ racc, k5⟩
  · have ei : i = ds.length := by omega
    subst ei
    refine .inl ⟨by rw [← hl2]; exact wl.stops H2 (SqL.of hH2), ?_⟩
    rw [List.drop_length] at kk
    exact q ads2 S2 (dropH H2 p) H2 p acc vsa (c2.dropped h0 hm0) (e1.trans ev2) dropH_eq dropH_keeps hacc (repL_drop _ _ racc) kk.2
theorem dn_lcO {X : Cx} {elt tg iter : Expr} {ifs : List Expr} {scope : Scope} {own : List (Str × Nat)} {pos : Pos} {Ta : DTE} {Tg : DTG} {Tt : DTT} {Te : DTE} {sl : List Nat} (hc : X.calm = true) (hN : X.N.Nodup) (hi : DE X iter Ta) (ok : BlkOk X.N X.env.scope scope own)
    (hg : ∀ (s : Shared) (H : Hp) (C : Addr) (cl : List (Str × Addr)) (fp : List Addr), DG (X.blk s H scope (compEnvC scope cl C X.env) fp) tg sl Tg)
    (ht : ∀ (s : Shared) (H : Hp) (C : Addr) (cl : List (Str × Addr)) (fp : List Addr), DTs (X.blk s H scope (compEnvC scope cl C X.env) fp) ifs Tt)
    (he : ∀ (s : Shared) (H : Hp) (C : Addr) (cl : List (Str × Addr)) (fp : List Addr), DE (X.blk s H scope (compEnvC scope cl C X.env) fp) elt Te)
    (hsl : ∀ i ∈ sl, i ∈ own.map (·.2) := by decide) (hs : ∀ x, foldedSetIterable iter X.env x = pure x := by intro _; rfl) : DN X (.ListComp elt [⟨tg, iter, ifs, 0⟩] scope pos) (nLcO Ta Tg Tt Te (own.map (·.2))) := by
  obtain ⟨t, p, s⟩ := hi.ex
  exact ⟨_, pe_lc hc hN (pi_list p) ok (fun s H C cl fp => (hg s H C cl fp).can) (fun s H C cl fp => (ht s H C cl fp).can) (fun s H C cl fp => (he s H C cl fp).can) hs, snd_lcO (tg := tg) s snd_canG snd_canT snd_canE hsl⟩
end Dat
set_option Elab.async false
set_option linter.all false
set_option maxRecDepth 100000
set_option maxHeartbeats 1000000
/-! DatK: isinstance, is of truth values, sorted(set(t)). -/
namespace Dat
open PySem PySem.Spec PyProof.Rows L2
/-! ### isinstance -/
def Cl.nm : Cl → String
  | .int => "int" | .bool => "bool" | .str => "str" | .tuple => "tuple" | .list => "list"
def tyNm : D → String
  | .non => "NoneType" | .bl _ => "bool" | .int _ => "int" | .str _ => "str" | .tup _ => "tuple" | .lst _ => "list" | _ => ""
theorem kit_isC (K : PySem.W.Frag) (c : Cl) (d : D) (h : kindly d = true) : PySem.W.kitOne K (.type (tyNm d)) (.type c.nm) = some (isC c d) := by
  refine kit_ty ?_
  cases d with
  | own n => cases h
  | scr ns => cases h
  | non => cases c <;> (dsimp only [tyNm, Cl.nm, isC]; decide +kernel)
  | bl b => cases c <;> (dsimp only [tyNm, Cl.nm, isC]; decide +kernel)
  | int i => cases c <;> (dsimp only [tyNm, Cl.nm, isC]; decide +kernel)
  | str s => cases c <;> (dsimp only [tyNm, Cl.nm, isC]; decide +kernel)
  | tup xs => cases c <;> (dsimp only [tyNm, Cl.nm, isC]; decide +kernel)
  | lst xs => cases c <;> (dsimp only [tyNm, Cl.nm, isC]; decide +kernel)
theorem kit_any (K : PySem.W.Frag) (d : D) (h : kindly d = true) : ∀ cs : List Cl, PySem.W.kitAny K (.type (tyNm d)) (cs.map fun c => Value.type c.nm) = some (cs.any fun c => isC c d)
  | [] => kitAny_nil
  | c :: cs => by
    have ih := kit_any K d h cs
    refine kitAny_cons (kit_isC K c d h) (fun hb => ?_) fun hb => ?_
    · rw [List.any_cons, hb, Bool.false_or]; exact ih
    · rw [List.any_cons, hb, Bool.true_or]
theorem ty_of {K : PySem.W.Frag} {G : Gh} {ads : List Addr} {S : Sto} {H : Hp} (c : Cur K G ads S H) {x : D} {v : V} (r : Rep K (mu G ads) ads H x v) (h : kindly (res S x) = true) : TyX K H v (.type (tyNm (res S x))) := by
  rcases res_eq (S := S) (x := x) with e | ⟨n, ds, rfl, hS, e⟩
  · rw [e] at h ⊢
    cases x with
    | own n => cases h
    | scr ns => cases h
    | non => simp only [Rep] at r; subst r; exact .base .non
    | bl b => simp only [Rep] at r; subst r; exact .base (.bl b)
    | int i => simp only [Rep] at r; subst r; exact .base (.int i)
    | str s => simp only [Rep] at r; rw [r.1]; exact .base (.str _)
    | tup xs =>
      simp only [Rep] at r
      obtain ⟨a, vs, rfl, h1, _, _⟩ := r
      exact .base (.tup h1)
    | lst xs =>
      simp only [Rep] at r
      obtain ⟨a, vs, rfl, h1, _, _⟩ := r
      exact .base (.lst h1)
  · rw [e]
    obtain ⟨a, rfl, _, vs, h1, _⟩ := own_at c r hS
    exact .base (.lst h1)
section
variable {X : Cx} {a b : Expr} {Ta Tb : DTE} {p pos : Pos}
theorem de_isa1 {p2 : Pos} (c : Cl) {nm : Str} (hg : Gl X "isinstance") (hm : X.mg "isinstance" = none) (ha : DE X a Ta) (hg2 : Gl X nm) (hm2 : X.mg nm = none) (hv2 : bootBuiltins nm = some (.type c.nm) := by decide +kernel) (hn : nm ≠ "__name__" := by decide) (hd : (nm == ("__debug__" : Str)) = false := by decide)
    (ns : starEach [a, .Name nm p2] X.env = (false, eval a X.env) :: starEach [.Name nm p2] X.env := by rfl) (ns2 : starEach [.Name nm p2] X.env = (false, eval (.Name nm p2) X.env) :: starEach [] X.env := by rfl)
    (hpl : (backTo pos (starEach [.Name nm p2] X.env)).any (·.1) = false := by rfl) : DE X (.Call (.Name "isinstance" p) [a, .Name nm p2] [] pos) (dIsa Ta [c]) := by
  obtain ⟨t, q, s⟩ := ha.ex
  refine ⟨_, pe_callB call_isi hg hm boot_isinstance (pa_cons q (pa_cons (pe_bltn (v := .ty c.nm) hg2 hm2 hv2 rfl hn hd) pa_nil ns2) ns) (by decide) (by decide) ns hpl, fun G ads S H σ env k Q cu re hk q => ?_⟩
  refine s G ads S H σ env _ _ cu re hk fun ads1 S1 H1 x v c1 e1 r1 k1 => ?_
  refine ⟨v, .ty c.nm, _, _, _, rfl, .ty _, ty_of c1 r1 k1.1, kit_isC X.K c _ k1.1, ?_⟩
  have e : ([c].any fun c => isC c (res S1 x)) = isC c (res S1 x) := by simp
  rw [e] at k1
  exact q ads1 S1 H1 _ _ c1 e1 (by simp only [Rep]) k1.2
theorem op_notBlA : OpR X (compareOp .IsNot) rNotB ∧ SndOp X.K rNotB oNotBl := by
  refine ⟨op_notBl, fun G ads S H x y v u k Q c rx ry h q => ?_⟩
  unfold oNotBl at h
  split at h
  · simp only [Rep] at rx ry; subst rx ry
    exact ⟨_, _, rfl, rfl, q ads S H _ _ c (Evo.refl _ _) (by simp only [Rep]) h⟩
  · exact h.elim
theorem op_isBlA : OpR X (compareOp .Is) rIsB ∧ SndOp X.K rIsB oIsBl := by
  refine ⟨op_isBl, fun G ads S H x y v u k Q c rx ry h q => ?_⟩
  unfold oIsBl at h
  split at h
  · simp only [Rep] at rx ry; subst rx ry
    exact ⟨_, _, rfl, rfl, q ads S H _ _ c (Evo.refl _ _) (by simp only [Rep]) h⟩
  · exact h.elim
/-! ### sorted(set(t)) -/
def rSetTu (K : PySem.W.Frag) (w : World) : List V → Hp → VK → Prop := fun xs H Q => ∃ (t : Addr) (ns : List Int), xs = [.ref t] ∧ SqT K H t (ns.map V.int) ∧ ns.length < 64 ∧
  ∀ (a : Addr) (c : Nat), H a = none → c ≤ ns.length → Q (.ref a) (upd H a (SetO w a (fun j => decide (j ∈ ns)) c))
theorem call_setTu (hc : X.calm = true) : CallR X (.type "set") (rSetTu X.K X.w) := by
  intro pins s σ H xs us Q I r h
  obtain ⟨t, ns, rfl, ht, hl, q⟩ := h
  obtain ⟨u, rfl, ru⟩ := vals1 r
  cases ru
  obtain ⟨its, rv, pl, _⟩ := I.tuple ht
  refine call_set_tupI ns (I.ok.hd hc) (show s.heap.IsTuple t its.toArray from pl) (by rw [List.toList_toArray]; exact ints_of_vals rv) (Nat.lt_of_lt_of_le (Nat.succ_lt_succ hl) (by decide)) fun h' tk c R hle hk => ?_
  exact ⟨.ref s.heap.objs.size, _, I.laid (t' := tk) hk (Nat.le_refl _) (setO_new R), rfl, q _ c (I.hok.fresh (Nat.le_refl _)) hle⟩
theorem ints_vals {K : PySem.W.Frag} {mu : Addr → Prop} {ads : List Addr} {H : Hp} : ∀ {ds : List D} {vs : List V} {ns : List Int}, RepL K mu ads H ds vs → intsD ds = some ns → vs = ns.map V.int
  | [], vs, ns, r, e => by simp only [RepL] at r; cases e; subst r; rfl
  | .int i :: ds, vs, ns, r, e => by
    simp only [RepL, Rep] at r
    obtain ⟨v, w, rfl, rfl, r2⟩ := r
    simp only [intsD, Option.map_eq_some_iff] at e
    obtain ⟨ms, h1, rfl⟩ := e
    rw [ints_vals r2 h1]; rfl
  | .non :: _, _, _, _, e => by simp [intsD] at e
  | .bl _ :: _, _, _, _, e => by simp [intsD] at e
  | .str _ :: _, _, _, _, e => by simp [intsD] at e
  | .tup _ :: _, _, _, _, e => by simp [intsD] at e
  | .lst _ :: _, _, _, _, e => by simp [intsD] at e
  | .own _ :: _, _, _, _, e => by simp [intsD] at e
  | .scr _ :: _, _, _, _, e => by simp [intsD] at e
theorem de_sortSet {p2 pos2 : Pos} (hc : X.calm = true) (hg : Gl X "sorted") (hm : X.mg "sorted" = none) (hg2 : Gl X "set") (hm2 : X.mg "set" = none) (ha : DE X a Ta) (na : starEach [a] X.env = (false, eval a X.env) :: starEach [] X.env := by rfl)
    (na2 : starEach [Expr.Call (.Name "set" p2) [a] [] pos2] X.env = (false, eval (Expr.Call (.Name "set" p2) [a] [] pos2) X.env) :: starEach [] X.env := by rfl) : DE X (.Call (.Name "sorted" p) [.Call (.Name "set" p2) [a] [] pos2] [] pos) (dSortSet Ta) := by
  obtain ⟨t, q, s⟩ := ha.ex
  refine ⟨_, pe_callB (cr_sortedSet hc) hg hm (by decide +kernel) (pa_cons (pe_callTy (call_setTu hc) hg2 hm2 (by decide +kernel) (pa_cons q pa_nil na) (by decide) (by decide) na) pa_nil na2) (by decide) (by decide) na2, fun G ads S H σ env k Q cu re hk q => ?_⟩
  refine s G ads S H σ env _ _ cu re hk fun ads1 S1 H1 x v c1 e1 r1 k1 => ?_
  split at k1
  · rename_i ds
    obtain ⟨ns, hns, hl, hk⟩ := onO_some k1
    simp only [Rep] at r1
    obtain ⟨t, vs, rfl, h1, _, h3⟩ := r1
    have ev := ints_vals h3 hns
    subst ev
    refine ⟨t, ns, rfl, SqT.of h1, hl, fun a c hp hle => ?_⟩
    have kp : Keeps H1 (upd H1 a (SetO X.w a (fun j => decide (j ∈ ns)) c)) := Keeps.new hp
    have c2 := c1.keeps kp
    refine ⟨a, _, c, rfl, upd_same, by omega, fun ms p2 hs hm _ hp2 => ?_⟩
    have q2 : PostE X.K G ads1 (upd H1 a (SetO X.w a (fun j => decide (j ∈ ns)) c)) k Q := fun ads3 S3 H3 d w c3 e3 r3 k3 => q ads3 S3 H3 d w c3 ((e1.trans (kp.evo ads1)).trans e3) r3 k3
    refine post_lst c2 q2 hp2 (rng_repL ms) (hk ms hs fun i => ?_)
    rw [hm i]; simp
  · exact k1.elim
end
end Dat
set_option Elab.async false
set_option linter.all false
set_option maxRecDepth 100000
set_option maxHeartbeats 1000000
/-! DatM: isinstance of several classes, pop, insert, upper. -/
namespace Dat
open PySem PySem.Spec PyProof.Rows L2
section
variable {X : Cx} {a b e2 : Expr} {Ta Tb Tc : DTE} {p pos apos cpos : Pos}
theorem cls_paired : ∀ cs : List Cl, Paired ClsV (cs.map fun c => V.ty c.nm) (cs.map fun c => Value.type c.nm)
  | [] => .nil
  | c :: cs => .cons (.ty _) (cls_paired cs)
/-- isinstance(x, (T1, T2)) -/
theorem de_isa2 {n1 n2 : Str} {q1 q2 tpos : Pos} {j : Nat} (c1 c2 : Cl) (hg : Gl X "isinstance") (hm : X.mg "isinstance" = none) (ha : DE X a Ta) (h1 : Gl X n1) (m1 : X.mg n1 = none) (h2 : Gl X n2) (m2 : X.mg n2 = none)
    (v1 : bootBuiltins n1 = some (.type c1.nm) := by decide +kernel) (v2 : bootBuiltins n2 = some (.type c2.nm) := by decide +kernel) (o1 : n1 ≠ "__name__" := by decide) (o2 : n2 ≠ "__name__" := by decide) (d1 : (n1 == ("__debug__" : Str)) = false := by decide) (d2 : (n2 == ("__debug__" : Str)) = false := by decide)
    (ns : starEach [a, .Tuple [.Name n1 q1, .Name n2 q2] j tpos] X.env = (false, eval a X.env) :: starEach [.Tuple [.Name n1 q1, .Name n2 q2] j tpos] X.env := by rfl)
    (ns2 : starEach [.Tuple [.Name n1 q1, .Name n2 q2] j tpos] X.env = (false, eval (.Tuple [.Name n1 q1, .Name n2 q2] j tpos) X.env) :: starEach [] X.env := by rfl)
    (ns3 : starEach [.Name n1 q1, .Name n2 q2] X.env = (false, eval (.Name n1 q1) X.env) :: starEach [.Name n2 q2] X.env := by rfl) (ns4 : starEach [.Name n2 q2] X.env = (false, eval (.Name n2 q2) X.env) :: starEach [] X.env := by rfl)
    (hpl : (backTo pos (starEach [.Tuple [.Name n1 q1, .Name n2 q2] j tpos] X.env)).any (·.1) = false := by rfl) : DE X (.Call (.Name "isinstance" p) [a, .Tuple [.Name n1 q1, .Name n2 q2] j tpos] [] pos) (dIsa Ta [c1, c2]) := by
  obtain ⟨t, q, s⟩ := ha.ex
  refine ⟨_, pe_callB call_isiT hg hm boot_isinstance (pa_cons q (pa_cons (pe_tup (pa_cons (pe_bltn (v := .ty c1.nm) h1 m1 v1 rfl o1 d1) (pa_cons (pe_bltn (v := .ty c2.nm) h2 m2 v2 rfl o2 d2) pa_nil ns4) ns3)) pa_nil ns2) ns) (by decide) (by decide) ns hpl, fun G ads S H σ env k Q cu re hk q => ?_⟩
  refine s G ads S H σ env _ _ cu re hk fun ads1 S1 H1 x v c e r1 k1 => ?_
  refine ⟨(by decide : 2 ≤ sizeLine), fun T hT => ?_⟩
  have kp : Keeps H1 (upd H1 T (.tup [.ty c1.nm, .ty c2.nm])) := Keeps.new hT
  have c' := c.keeps kp
  have r' := rep_evo (kp.evo ads1) _ _ r1
  refine ⟨v, T, _, _, _, _, rfl, upd_same, cls_paired [c1, c2], ty_of c' r' k1.1, kit_any X.K _ k1.1 [c1, c2], ?_⟩
  exact q ads1 S1 _ _ _ c' (e.trans (kp.evo ads1)) (by simp only [Rep]) k1.2
/-! ### upper -/
theorem up1_eq (c : Nat) : PyProof.Rows.up1 c = upC c := by
  unfold PyProof.Rows.up1 upC
  first
    | rfl
    | (split <;> split <;> omega)
    | (split <;> simp_all <;> omega)
theorem de_upper (ho : DE X a Ta) (hbase : attributeBase a "upper" X.env (eval a X.env) = eval a X.env := by rfl) (hline : (apos.endLine == cpos.line) = true := by rfl) :
    DE X (.Call (.Attribute a "upper" apos) [] [] cpos) (dUpper Ta) := by
  obtain ⟨t, p1, s⟩ := ho.ex
  refine ⟨_, pe_upper p1 hbase hline, fun G ads S H σ env k Q c re hk q => ?_⟩
  refine s G ads S H σ env _ _ c re hk fun ads1 S1 H1 x v c1 e1 r1 k1 => ?_
  cases x with
  | str l =>
    simp only [Rep] at r1
    rw [r1.1]
    refine ⟨⟨_, rfl⟩, _, rfl, rfl, by have := k1.1.1; show l.toArray.size ≤ _; rw [List.size_toArray]; omega, ?_⟩
    have eu : Txt.upper ⟨l.toArray⟩ = ⟨(l.map upC).toArray⟩ := by
      have := SX.upper_S (a := l) k1.1.2
      have e2 : l.map PyProof.Rows.up1 = l.map upC := List.map_congr_left fun c _ => up1_eq c
      rw [e2] at this
      exact this
    rw [eu]
    exact q ads1 S1 H1 _ _ c1 e1 (by simp only [Rep, strV]; exact ⟨trivial, by rw [List.length_map]; exact Nat.le_trans k1.1.1 (by decide)⟩) k1.2
  | _ => exact k1.elim
/-! ### pop(i) -/
theorem ixN_seq {n q : Nat} {i : Int} (h : Dat.ixN n i = some q) (hn : n ≤ sizeLine) : -(2 ^ 63) ≤ i ∧ i < 2 ^ 63 ∧ seqIndex? i n = some q := by
  have hs : sizeLine = 16777216 := sizeLine_eq
  unfold Dat.ixN at h
  unfold seqIndex?
  split at h
  · rename_i h0
    split at h
    · rename_i h1
      cases h
      refine ⟨by omega, by omega, ?_⟩
      have h2 : ¬ i < 0 := by omega
      simp [h2, h0, h1]
    · cases h
  · rename_i h0
    split at h
    · rename_i h1
      cases h
      refine ⟨by omega, by omega, ?_⟩
      have h2 : i < 0 := by omega
      have h3 : 0 ≤ i + (n : Int) := by omega
      have h4 : i + (n : Int) < n := by omega
      simp [h2, h3, h4]
    · cases h
theorem repL_erase {K : PySem.W.Frag} {mu : Addr → Prop} {ads : List Addr} {H : Hp} : ∀ {ds : List D} {vs : List V} (q : Nat), RepL K mu ads H ds vs → RepL K mu ads H (ds.eraseIdx q) (vs.eraseIdx q)
  | [], vs, q, r => by simp only [RepL] at r; subst r; simp [RepL]
  | d :: ds, vs, 0, r => by
    simp only [RepL] at r
    obtain ⟨v, w, rfl, h1, h2⟩ := r
    exact h2
  | d :: ds, vs, q + 1, r => by
    simp only [RepL] at r
    obtain ⟨v, w, rfl, h1, h2⟩ := r
    simp only [List.eraseIdx_cons_succ, RepL]
    exact ⟨v, _, rfl, h1, repL_erase q h2⟩
theorem repL_take {K : PySem.W.Frag} {mu : Addr → Prop} {ads : List Addr} {H : Hp} : ∀ {ds : List D} {vs : List V} (q : Nat), RepL K mu ads H ds vs → RepL K mu ads H (ds.take q) (vs.take q)
  | [], vs, q, r => by simp only [RepL] at r; subst r; simp [RepL]
  | d :: ds, vs, 0, r => by simp [RepL]
  | d :: ds, vs, q + 1, r => by
    simp only [RepL] at r
    obtain ⟨v, w, rfl, h1, h2⟩ := r
    simp only [List.take_succ_cons, RepL]
    exact ⟨v, _, rfl, h1, repL_take q h2⟩
theorem repL_dropN {K : PySem.W.Frag} {mu : Addr → Prop} {ads : List Addr} {H : Hp} : ∀ {ds : List D} {vs : List V} (q : Nat), RepL K mu ads H ds vs → RepL K mu ads H (ds.drop q) (vs.drop q)
  | [], vs, q, r => by simp only [RepL] at r; subst r; simp [RepL]
  | d :: ds, vs, 0, r => r
  | d :: ds, vs, q + 1, r => by
    simp only [RepL] at r
    obtain ⟨v, w, rfl, h1, h2⟩ := r
    exact repL_dropN q h2
theorem de_popI (ho : DE X a Ta) (he : DE X b Tb) (hs : starEach [b] X.env = (false, eval b X.env) :: starEach [] X.env := by rfl) (hbase : attributeBase a "pop" X.env (eval a X.env) = eval a X.env := by rfl)
    (hfew : ((backTo cpos (starEach [b] X.env)).all (fun x => !x.1) && (backToKw cpos (keywordEach [] X.env)).all (fun x => x.1.isSome)
      && decide (([b] : List Expr).length + ([] : List Keyword).length + (if ([] : List Keyword).isEmpty then 0 else 1) < 30)) = true := by rfl) (hline : (apos.endLine == cpos.line) = true := by rfl) (hplain : (backTo cpos (starEach [] X.env)).any (·.1) = false := by rfl) :
    DE X (.Call (.Attribute a "pop" apos) [b] [] cpos) (dPopI Ta Tb) := by
  obtain ⟨t, p, s⟩ := ho.ex
  obtain ⟨u, p2, s2⟩ := he.ex
  refine ⟨_, pe_bm PySem.F.plainAttrs_list PySem.F.slot_list_pop PySem.F.type_list_pop mt_popAt p (pa_cons p2 pa_nil hs) hbase hfew hline hs hplain, fun G ads S H σ env k Q c re hT q => ?_⟩
  refine s G ads S H σ env _ _ c re hT fun ads1 S1 H1 x v c1 e1 r1 k1 => ?_
  cases x with
  | own n =>
    simp only at k1
    split at k1
    · rename_i ys hS
      obtain ⟨p, rfl, hp, vs0, hH, _⟩ := own_at c1 r1 hS
      refine ⟨ty_lst hH, ?_⟩
      refine s2 G ads1 S1 H1 σ env _ _ c1 (repE_evo e1 re) k1 fun ads2 S2 H2 y w c2 e2 r2 k2 => ?_
      split at k2
      · rename_i xs i hS2
        obtain ⟨q1, hq1, k3⟩ := onO_some k2.2
        obtain ⟨d, hd, k4⟩ := onO_some k3
        obtain ⟨p2, hpp, hp2, vs2, hH2, rl⟩ := own_at c2 (rep_evo e2 _ _ r1) hS2
        cases hpp
        simp only [Rep] at r2; subst r2
        obtain ⟨v2, hv2, rv2⟩ := rl.get hd
        obtain ⟨b1, b2, b3⟩ := ixN_seq hq1 k2.1
        refine ⟨p, vs2, i, q1, v2, rfl, rfl, hH2, b1, b2, by rw [rl.length]; exact b3, hv2, ?_⟩
        have hin := List.mem_of_getElem? hp2
        have ev := evo_set (H := H2) (o := .lst (vs2.eraseIdx q1)) hin
        exact q ads2 (S2.set n (.lst (xs.eraseIdx q1))) _ d _ (set_own c2 hp2 (repL_erase q1 rl)) ((e1.trans e2).trans ev) (rep_upd0 (.inr hin) _ _ rv2) k4
      · exact k2.elim
    · exact k1.elim
  | _ => exact k1.elim
/-! ### insert(i, y) -/
theorem de_ins (ho : DE X a Ta) (he : DE X b Tb) (he2 : DE X e2 Tc) (hs : starEach [b, e2] X.env = (false, eval b X.env) :: starEach [e2] X.env := by rfl) (hs2 : starEach [e2] X.env = (false, eval e2 X.env) :: starEach [] X.env := by rfl) (hbase : attributeBase a "insert" X.env (eval a X.env) = eval a X.env := by rfl)
    (hfew : ((backTo cpos (starEach [b, e2] X.env)).all (fun x => !x.1) && (backToKw cpos (keywordEach [] X.env)).all (fun x => x.1.isSome)
      && decide (([b, e2] : List Expr).length + ([] : List Keyword).length + (if ([] : List Keyword).isEmpty then 0 else 1) < 30)) = true := by rfl) (hline : (apos.endLine == cpos.line) = true := by rfl) (hplain : (backTo cpos (starEach [e2] X.env)).any (·.1) = false := by rfl) :
    DE X (.Call (.Attribute a "insert" apos) [b, e2] [] cpos) (dIns Ta Tb Tc) := by
  obtain ⟨t, p, s⟩ := ho.ex
  obtain ⟨u, p2, s2⟩ := he.ex
  obtain ⟨z, p3, s3⟩ := he2.ex
  refine ⟨_, pe_bm PySem.F.plainAttrs_list PySem.F.slot_list_insert PySem.F.type_list_insert mt_insert p (pa_cons p2 (pa_cons p3 pa_nil hs2) hs) hbase hfew hline hs hplain, fun G ads S H σ env k Q c re hT q => ?_⟩
  refine s G ads S H σ env _ _ c re hT fun ads1 S1 H1 x v c1 e1 r1 k1 => ?_
  cases x with
  | own n =>
    simp only at k1
    split at k1
    · rename_i ys hS
      obtain ⟨p, rfl, hp, vs0, hH, _⟩ := own_at c1 r1 hS
      refine ⟨ty_lst hH, ?_⟩
      refine s2 G ads1 S1 H1 σ env _ _ c1 (repE_evo e1 re) k1 fun ads2 S2 H2 y w c2 e2 r2 k2 => ?_
      refine s3 G ads2 S2 H2 σ env _ _ c2 (repE_evo (e1.trans e2) re) k2 fun ads3 S3 H3 y3 w3 c3 e3 r3 k3 => ?_
      split at k3
      · rename_i xs i hS3
        obtain ⟨p2, hpp, hp2, vs2, hH2, rl⟩ := own_at c3 (rep_evo (e2.trans e3) _ _ r1) hS3
        cases hpp
        simp only [Rep] at r2; subst r2
        obtain ⟨⟨b1, b2, b3⟩, hk⟩ := k3
        refine ⟨p, vs2, i, w3, rfl, rfl, hH2, by rw [rl.length]; exact b1, b2, by omega, ?_⟩
        have hin := List.mem_of_getElem? hp2
        exact q ads3 (S3.set n (.lst (xs.take i.toNat ++ [y3] ++ xs.drop i.toNat))) _ .non _ (set_own c3 hp2 (((repL_take i.toNat rl).app (.one r3)).app (repL_dropN i.toNat rl))) (((e1.trans e2).trans e3).trans (evo_set hin)) (by simp only [Rep]) hk
      · exact k3.elim
    · exact k1.elim
  | _ => exact k1.elim
end
end Dat
set_option Elab.async false
set_option linter.all false
set_option maxRecDepth 100000
set_option maxHeartbeats 1000000
/-! DatN: x[a:c] = y, the end beyond the list's too. -/
namespace Dat
open PySem PySem.Spec PyProof.Rows L2
open PySem.SeqAt
open PySem.MeetsSeq PySem.MeetsSeq2 PySem.MeetsSeq3
section
variable {prog : Program} {w : World} {A : Around} {E : Value → Shared → Prop} {s : Shared}
theorem bounds_clip {a c n : Nat} (h1 : a ≤ n) : sliceBounds (some (a : Int)) (some (c : Int)) none n = ((a : Int), ((min c n : Nat) : Int), 1) := by
  simp only [sliceBounds, Option.getD_none]
  have e1 : ¬ ((a : Int) < 0) := by omega
  have e2 : ¬ ((c : Int) < 0) := by omega
  simp only [e1, e2, if_false, show (1 : Int) > 0 by decide, if_true]
  rw [show max (0 : Int) (min (a : Int) (n : Int)) = (a : Int) from by omega, show max (0 : Int) (min (c : Int) (n : Int)) = ((min c n : Nat) : Int) from by omega]
theorem item_splice {l b sl : Addr} {items new : Array Value} {n n2 : Nat} {vl vu : Value} {a c : Nat} {Q : Unit → Shared → Prop}
    (e : s.heap.get? l = some { cls := .type "list", data := .seq items n }) (e2 : s.heap.get? b = some { cls := .type "list", data := .seq new n2 }) (hne : l ≠ b)
    (hs : s.heap.IsSliceOf sl vl vu .none) (pl : IsPart vl (some (a : Int))) (pu : IsPart vu (some (c : Int))) (hac : a ≤ c) (ha : a ≤ items.size) (hsz : items.size + new.size ≤ sizeLine)
    (h : Q () { s with heap := s.heap.update l (Obj.mapSeq fun xs => xs.extract 0 a ++ new ++ xs.extract (min c items.size) xs.size) }) : wpAny (model prog w) A (setItem (.ref l) (.ref sl) (.ref b)) Q E s := by
  have hl := PySem.IsL.isList e; have hb := PySem.IsL.isList e2
  obtain ⟨os, hos, hcs, hds⟩ := id hs
  have hTs : s.TypeIs (.ref sl) "slice" := ⟨os, hos, hcs⟩; have hstep : ¬ ((rawPart none == rawInt 0) = true) := Bool.false_ne_true
  have hsame : Builtin.List.listSameRef (.ref l) (.ref b) = false := beq_eq_false_iff_ne.mpr hne
  have hmax : (max (a : Int) ((min c items.size : Nat) : Int)).toNat = min c items.size := by omega
  have hz2 : ((fun xs : Array Value => xs.extract 0 a ++ new ++ xs.extract (min c items.size) xs.size) items).size ≤ sizeLine + 1 := by simp only [Array.size_append, Array.size_extract]; omega
  unfold setItem; with_reducible refine wpAny_holding ?_
  refine wpAny_bind (wpAny_sequenceKey hl.typeIs (by decide) (wpAny_bind (wpAny_callSpecial?_slot (name := Str.ofString "__setitem__") hl.typeIs slot_list_setitem (wpAny_call_entry slot_list_setitem hl.typeIs entry_list_setitem ?_ (args_list_setitem _ _ _)))))
  show wpAny _ _ (Builtin.List.listSubscript? (.ref sl) >>= _) _ _ s; refine wpAny_bind ?_
  unfold Builtin.List.listSubscript?; refine wpAny_bind (wpAny_specialOf hTs slice_no_index ?_)
  simp only [Option.isNone_none, if_true]; refine wpAny_pure ?_
  show wpAny _ _ (typeOf (.ref sl) >>= _) _ _ s; refine wpAny_bind (wpAny_typeOf hTs ?_)
  first | rw [if_neg (by decide)] | refine PySem.W.KFB.if_not (by decide) ?_
  rw [listSliceParts_eq]; refine wpAny_bind (wpAny_bind (wpAny_field hos hds (x := .none) rfl (wpAny_bind (wpAny_listPart .none ?_))))
  rw [if_neg hstep]; refine wpAny_bind (wpAny_field hos hds (x := vl) rfl (wpAny_bind (wpAny_listPart pl (wpAny_bind (wpAny_field hos hds (x := vu) rfl (wpAny_bind (wpAny_listPart pu (wpAny_pure ?_))))))))
  first | (simp only [hsame, Bool.false_eq_true, if_false]) | refine PySem.W.KFB.if_not hsame ?_ | (dsimp only; rw [if_neg (by rw [hsame]; exact Bool.false_ne_true)])
  refine wpAny_bind (m := Builtin.List.listAllItems (.ref b) "must assign iterable to extended slice") ?_; unfold Builtin.List.listAllItems
  refine wpAny_bind (wpAny_typeOf hb.typeIs ?_); first | refine PySem.W.KFB.if_so (by decide) ?_ | rw [if_pos (by decide)] | simp only [beq_self_eq_true, Bool.true_or, if_true]
  unfold Builtin.List.listItems; refine wpAny_bind (wpAny_seqItems e2 rfl (wpAny_pure (wpAny_bind (wpAny_bind (wpAny_seqItems e rfl (wpAny_pure ?_))))))
  refine wpAny_bind (wpAny_of_eq ((sliceIndices_raw (some (a : Int)) (some (c : Int)) none items.size (by simp)).trans (congrArg (pure : Int × Int × Int → Sem (Int × Int × Int)) (bounds_clip ha))) ?_)
  show wpAny _ _ (if ((1 : Int) == 1) = true then _ else _) _ _ s; rw [if_pos (by decide)]
  refine wpAny_bind (wpAny_rule ?_); first | (simp only [notLongL hsz, Bool.false_eq_true, if_false]) | refine PySem.W.KFB.if_not (notLongL hsz) ?_
  first | refine wpAny_bind (wpAny_pure ?_) | skip
  show wpAny _ _ (updateSeq l (fun xs => xs.extract 0 ((a : Int)).toNat ++ new ++ xs.extract (max (a : Int) ((min c items.size : Nat) : Int)).toNat xs.size) >>= _) _ _ s
  rw [hmax, Int.toNat_natCast]; refine wpAny_bind (wpAny_updateSeq (hz := Nat.le_trans (Nat.le_add_right _ _) hsz) (_hz' := hz2) e rfl (wpAny_bind (wpAny_letGo ?_)))
  first | exact wpAny_pure ⟨.none, rfl, wpAny_pure h⟩ | exact wpAny_bind (wpAny_pure (wpAny_pure ⟨.none, rfl, wpAny_pure h⟩))
end
def gSl (to : TE) (tl th : TO) : TG := fun v σ H Q => to σ H fun x H1 => tl σ H1 fun l H2 => th σ H2 fun u H3 => ∃ (p b : Addr) (xs ys : List V) (a c : Int), x = .ref p ∧ v = .ref b ∧ H3 p = some (.lst xs) ∧ H3 b = some (.lst ys) ∧ p ≠ b ∧ l = some a ∧ u = some c ∧
  0 ≤ a ∧ a ≤ xs.length ∧ a ≤ c ∧ xs.length + ys.length ≤ sizeLine ∧ Q σ (upd H3 p (.lst (xs.take a.toNat ++ ys ++ xs.drop c.toNat)))
theorem pg_slst {X : Cx} {o lo hi : Expr} {to : TE} {tl th : TO} {p2 pos : Pos} (ho : PE X o to) (hl : PO X (some lo) tl) (hh : PO X (some hi) th)
    (ha : ∀ v, assign (.Subscript o (.Slice (some lo) (some hi) none p2) pos) X.env v = (do let ov ← holding [v] (eval o X.env); let iv ← holding [v, ov] (eval (.Slice (some lo) (some hi) none p2) X.env); standAt pos; holding [v, ov, iv] (setItem ov iv v); release [iv, v, ov] []) := by intro _; rfl) :
    PG X (.Subscript o (.Slice (some lo) (some hi) none p2) pos) (gSl to tl th) := by
  refine ⟨fun pins s σ H v u Q I r h => ?_⟩
  rw [ha]
  refine wpAny_bind (wpAny_holding (thn (ho.run pins s σ H _ I h) fun ov s1 ⟨x, H1, I1, r1, q1⟩ => ?_))
  refine wpAny_bind (wpAny_holding (wpAny_Slice (thn (hl.run pins s1 σ H1 _ I1 q1) fun vl s2 ⟨l, H2, I2, pl, q2⟩ => thn (hh.run pins s2 σ H2 _ I2 q2) fun vu s3 ⟨c, H3, I3, pu, q3⟩ => ?_)))
  rw [evalPart_none]
  refine wpAny_pure ?_
  obtain ⟨p, b, xs, ys, a, c, rfl, rfl, hp, hb, hne, rfl, rfl, h0, h1, h2, hz, q⟩ := q3
  cases r1
  cases r
  have I4 : Inv X pins σ H3 { s3 with heap := s3.heap.push { cls := .type "slice", data := .fields #[vl, vu, .none] } } := I3.kept (t' := s3.toks) fun b ob q => Heap.get?_push_of_some _ q
  have hsl := Heap.IsSliceOf.new s3.heap vl vu .none
  obtain ⟨z, its, n, rr, hl1, e⟩ := I4.lstM hp
  obtain ⟨z2, its2, n2, rr2, hl2, e2⟩ := I4.lstM hb
  obtain ⟨a, rfl⟩ := Int.eq_ofNat_of_zero_le h0
  obtain ⟨c, rfl⟩ := Int.eq_ofNat_of_zero_le (Int.le_trans h0 h2)
  refine wpAny_bind (wpAny_standAt (wpAny_bind (wpAny_holding (item_splice e e2 hne hsl pl pu (by omega) (by rw [List.size_toArray]; omega) (by rw [List.size_toArray, List.size_toArray]; omega) ?_))))
  simp only [Int.toNat_natCast] at q
  have ed : xs.drop c = xs.drop (min c its.length) := by
    rcases Nat.le_total c its.length with g | g
    · rw [Nat.min_eq_left g]
    · rw [Nat.min_eq_right g, List.drop_eq_nil_of_le (by omega), List.drop_eq_nil_of_le (by omega)]
  rw [ed] at q
  refine wpAny_release ⟨σ, _, I4.lset (its' := its.take a ++ its2 ++ its.drop (min c its.length)) (t' := s3.toks) hp e ?_ (Vals.append (Vals.append (rr.take _) rr2) (rr.drop _)) ?_, q⟩
  · rw [List.size_toArray]
    exact splice_eq its its2 a (min c its.length)
  · rw [List.length_append, List.length_append, List.length_take, List.length_drop]
    omega

theorem ds_slst {X : Cx} {o lo hi e : Expr} {To Tl Th Te : DTE} {p2 pos spos : Pos} (he : DE X e Te) (ho : DE X o To) (hl : DE X lo Tl) (hh : DE X hi Th)
    (hs : swapsWithSole [.Subscript o (.Slice (some lo) (some hi) none p2) pos] e spos.line X.env = pure false := by rfl) (hw : swappedStores [.Subscript o (.Slice (some lo) (some hi) none p2) pos] e X.env = pure none := by rfl)
    (hga : ∀ v, assign (.Subscript o (.Slice (some lo) (some hi) none p2) pos) X.env v = (do let ov ← holding [v] (eval o X.env); let iv ← holding [v, ov] (eval (.Slice (some lo) (some hi) none p2) X.env); standAt pos; holding [v, ov, iv] (setItem ov iv v); release [iv, v, ov] []) := by intro _; rfl)
    (h1 : (assignEach [.Subscript o (.Slice (some lo) (some hi) none p2) pos] X.env).map (·.2) = [assign (.Subscript o (.Slice (some lo) (some hi) none p2) pos) X.env] := by rfl) : DS X (.Assign [.Subscript o (.Slice (some lo) (some hi) none p2) pos] e spos) (sSlSet To Tl Th Te) := by
  obtain ⟨te, p, s⟩ := he.ex
  obtain ⟨to, p3, s2⟩ := ho.ex
  obtain ⟨tl, p4, s3⟩ := hl.ex
  obtain ⟨th, p5, s4⟩ := hh.ex
  refine ⟨_, ps_asg p (pg_slst p3 (po_some p4) (po_some p5) hga) hs hw h1, fun G ads S H σ env E D c re hT q => ?_⟩
  refine s G ads S H σ env _ _ c re hT fun ads1 S1 H1 v w c1 e1 r1 k1 => ?_
  refine s2 G ads1 S1 H1 σ env _ _ c1 (repE_evo e1 re) k1 fun ads2 S2 H2 x u c2 e2 r2 k2 => ?_
  refine s3 G ads2 S2 H2 σ env _ _ c2 (repE_evo (e1.trans e2) re) k2 fun ads3 S3 H3 y z c3 e3 r3 k3 => ?_
  have e123 := (e1.trans e2).trans e3
  cases y with
  | int a =>
    simp only [Rep] at r3; subst r3
    refine ⟨a, rfl, ?_⟩
    refine s4 G ads3 S3 H3 σ env _ _ c3 (repE_evo e123 re) k3 fun ads4 S4 H4 y2 z2 c4 e4 r4 k4 => ?_
    split at k4
    · rename_i n cc ys
      simp only [Rep] at r4; subst r4
      split at k4
      · rename_i xs hS
        obtain ⟨⟨b0, b1, b2, b3⟩, hk⟩ := k4
        obtain ⟨ad, hpp, hp2, vs2, hH2, rl⟩ := own_at c4 (rep_evo (e3.trans e4) _ _ r2) hS
        have r1' := rep_evo ((e2.trans e3).trans e4) _ _ r1
        simp only [Rep] at r1'
        obtain ⟨b, ws, rfl, hb1, hb2, hb3⟩ := r1'
        have hin := List.mem_of_getElem? hp2
        have hne : ad ≠ b := fun z => hb2 (z ▸ .inr hin)
        refine ⟨cc, rfl, ad, b, vs2, ws, a, cc, hpp, rfl, hH2, hb1, hne, rfl, rfl, b0, by rw [rl.length]; exact b1, b2, by rw [rl.length, hb3.length]; exact b3, ?_⟩
        have ev := evo_set (H := H4) (o := .lst (vs2.take a.toNat ++ ws ++ vs2.drop cc.toNat)) hin
        exact q.nx ads4 _ _ env σ (set_own c4 hp2 (((repL_take a.toNat rl).app hb3).app (repL_dropN cc.toNat rl))) ((e123.trans e4).trans ev) (repE_evo ((e123.trans e4).trans ev) re) hk
      · exact k4.elim
    · exact k4.elim
  | _ => exact k3.elim

theorem dn_cat {X : Cx} {a b : Expr} {Ta Tb : DTE} {pos : Pos} (ha : DE X a Ta) (hb : DE X b Tb) : DN X (.BinOp a .Add b pos) (nCat Ta Tb) := by
  obtain ⟨ta, p1, s1⟩ := ha.ex
  obtain ⟨tb, p2, s2⟩ := hb.ex
  refine ⟨_, pe_op op_cat p1 p2, fun G ads S H σ env k Q c re hk q => ?_⟩
  refine s1 G ads S H σ env _ _ c re hk fun ads1 S1 H1 x v c1 e1 r1 k1 => ?_
  refine s2 G ads1 S1 H1 σ env _ _ c1 (repE_evo e1 re) k1 fun ads2 S2 H2 y u c2 e2 r2 k2 => ?_
  split at k2
  · rename_i xs ys ex ey
    obtain ⟨l, vs, rfl, h1, g1⟩ := res_lst c2 (rep_evo e2 _ _ r1) ex
    obtain ⟨b, ws, rfl, h2, g2⟩ := res_lst c2 r2 ey
    refine ⟨l, b, vs, ws, rfl, rfl, h1, h2, by rw [g1.length, g2.length]; exact k2.1, fun p hp => ?_⟩
    exact q ads2 S2 H2 _ p (xs ++ ys) (vs ++ ws) c2 (e1.trans e2) hp (Keeps.new hp) upd_same (g1.app g2) k2.2
  · exact k2.elim
end Dat
set_option Elab.async false
set_option linter.all false
set_option maxRecDepth 100000
set_option maxHeartbeats 1000000
/-! DatO: numbers, truth values among them. -/
namespace Dat
open PySem PySem.Spec PyProof.Rows L2
def rBI (f : Bool → Int → Int) : R2 := fun x y H Q => ∃ a j, x = .bl a ∧ y = .int j ∧ Q (.int (f a j)) H
def rIB (f : Int → Bool → Int) : R2 := fun x y H Q => ∃ i b, x = .int i ∧ y = .bl b ∧ Q (.int (f i b)) H
section
variable {X : Cx}
theorem op_add_bi : OpR X (binaryOp .Add) (rBI fun a j => (if a = true then (1 : Int) else 0) + j) := by
  intro pins s σ H x y v u Q I rx ry h
  obtain ⟨a, j, rfl, rfl, q⟩ := h
  cases rx
  obtain ⟨t, rfl⟩ := ry
  exact PySem.IntBool.add_bool_int ⟨.int _, H, I.tok _, ⟨_, rfl⟩, q⟩
theorem op_sub_bi : OpR X (binaryOp .Sub) (rBI fun a j => (if a = true then (1 : Int) else 0) - j) := by
  intro pins s σ H x y v u Q I rx ry h
  obtain ⟨a, j, rfl, rfl, q⟩ := h
  cases rx
  obtain ⟨t, rfl⟩ := ry
  exact PySem.IntBool.sub_bool_int ⟨.int _, H, I.tok _, ⟨_, rfl⟩, q⟩
theorem op_sub_ib : OpR X (binaryOp .Sub) (rIB fun i b => i - if b = true then (1 : Int) else 0) := by
  intro pins s σ H x y v u Q I rx ry h
  obtain ⟨i, b, rfl, rfl, q⟩ := h
  cases ry
  obtain ⟨t, rfl⟩ := rx
  exact PySem.IntBool.sub_int_bool ⟨.int _, H, I.tok _, ⟨_, rfl⟩, q⟩
theorem op_mul_ib : OpR X (binaryOp .Mult) (rIB fun i b => i * if b = true then (1 : Int) else 0) := by
  intro pins s σ H x y v u Q I rx ry h
  obtain ⟨i, b, rfl, rfl, q⟩ := h
  cases ry
  obtain ⟨t, rfl⟩ := rx
  exact PySem.IntBool.mul_int_bool ⟨.int _, H, I.tok _, ⟨_, rfl⟩, q⟩
theorem op_addN : OpR X (binaryOp .Add) (fun x y H Q => rI0 (fun i j => .int (i + j)) x y H Q ∨ rBI (fun a j => (if a = true then (1 : Int) else 0) + j) x y H Q) ∧ SndOp X.K (fun x y H Q => rI0 (fun i j => .int (i + j)) x y H Q ∨ rBI (fun a j => (if a = true then (1 : Int) else 0) + j) x y H Q) oAddN := by
  refine ⟨op_add.or op_add_bi, fun G ads S H x y v u k Q c rx ry h q => ?_⟩
  unfold oAddN at h
  split at h
  · simp only [Rep] at rx ry; subst rx ry
    exact .inl ⟨_, _, rfl, rfl, q ads S H _ _ c (Evo.refl _ _) (by simp only [Rep]) h⟩
  · simp only [Rep] at rx ry; subst rx ry
    exact .inr ⟨_, _, rfl, rfl, q ads S H _ _ c (Evo.refl _ _) (by simp only [Rep]) h⟩
  · exact h.elim
theorem op_subN : OpR X (binaryOp .Sub) (fun x y H Q => rI0 (fun i j => .int (i - j)) x y H Q ∨ (rBI (fun a j => (if a = true then (1 : Int) else 0) - j) x y H Q ∨ rIB (fun i b => i - if b = true then (1 : Int) else 0) x y H Q)) ∧ SndOp X.K (fun x y H Q => rI0 (fun i j => .int (i - j)) x y H Q ∨ (rBI (fun a j => (if a = true then (1 : Int) else 0) - j) x y H Q ∨ rIB (fun i b => i - if b = true then (1 : Int) else 0) x y H Q)) oSubN := by
  refine ⟨op_sub.or (op_sub_bi.or op_sub_ib), fun G ads S H x y v u k Q c rx ry h q => ?_⟩
  unfold oSubN at h
  split at h
  · simp only [Rep] at rx ry; subst rx ry
    exact .inl ⟨_, _, rfl, rfl, q ads S H _ _ c (Evo.refl _ _) (by simp only [Rep]) h⟩
  · simp only [Rep] at rx ry; subst rx ry
    exact .inr (.inl ⟨_, _, rfl, rfl, q ads S H _ _ c (Evo.refl _ _) (by simp only [Rep]) h⟩)
  · simp only [Rep] at rx ry; subst rx ry
    exact .inr (.inr ⟨_, _, rfl, rfl, q ads S H _ _ c (Evo.refl _ _) (by simp only [Rep]) h⟩)
  · exact h.elim
theorem op_mulN : OpR X (binaryOp .Mult) (fun x y H Q => (rMulA X.K) x y H Q ∨ rIB (fun i b => i * if b = true then (1 : Int) else 0) x y H Q) ∧ SndOp X.K (fun x y H Q => (rMulA X.K) x y H Q ∨ rIB (fun i b => i * if b = true then (1 : Int) else 0) x y H Q) oMulN := by
  refine ⟨op_mulA.1.or op_mul_ib, fun G ads S H x y v u k Q c rx ry h q => ?_⟩
  unfold oMulN at h
  split at h
  · exact .inl (op_mulA.2 G ads S H _ _ v u k Q c rx ry h q)
  · simp only [Rep] at rx ry; subst rx ry
    exact .inr ⟨_, _, rfl, rfl, q ads S H _ _ c (Evo.refl _ _) (by simp only [Rep]) h⟩
  · exact h.elim
end
end Dat
set_option Elab.async false
set_option linter.all false
/-! DatE: more constructs over data (sets of pairs). -/
namespace Dat
@[reducible] def tupI (ns : List Int) : D := .tup (ns.map D.int)
def intsT : List D → Option (List (List Int))
  | [] => some []
  | .tup ds :: r => (intsD ds).bind fun n => (intsT r).map (n :: ·)
  | _ => none
/-- sorted(set(x)), x a list of few tuples of a few small ints; of the order nothing is said -/
def dSortSetT (a : DTE) : DTE := fun env S k => a env S fun x S1 => match x with
  | .lst ds => onO (intsT ds) fun nss => (nss.length < 64 ∧ ∃ d, 1 ≤ d ∧ ∀ n ∈ nss, n.length = d ∧ ∀ m ∈ n, 0 ≤ m ∧ m < 1000000) ∧
      ∀ ms : List (List Int), ms.Nodup → (∀ m, m ∈ ms ↔ m ∈ nss) → ms.length < 64 → k (.lst (ms.map tupI)) S1
  | _ => False
/-! ### dicts -/
abbrev KVs := List (DKey × D)
def putD (kvs : KVs) (k : DKey) (v : D) : KVs :=
  bif kvs.any (fun p => decide (p.1 = k)) then kvs.map (fun p => if p.1 = k then (k, v) else p) else kvs ++ [(k, v)]
def dropD (kvs : KVs) (k : DKey) : KVs := kvs.filter fun p => !decide (p.1 = k)
def valD (kvs : KVs) (k : DKey) : Option D := (kvs.find? fun p => decide (p.1 = k)).map Prod.snd
/-- a value that may be a key -/
@[reducible] def dkey : D → Option DKey
  | .int i => some (.inl i)
  | .str s => some (.inr s)
  | _ => none
/-- {k: v for ..} -/
def dcT (g : DTG) (tk tv : DTE) (env : Env) : List D → KVs → Sto → (KVs → Sto → Prop) → Prop
  | [], acc, S, k => k acc S
  | d :: ds, acc, S, k => g d env S fun env2 S1 => tk env2 S1 fun y S2 => tv env2 S2 fun z S3 => onO (dkey y) fun q => acc.length < line ∧ dcT g tk tv env ds (putD acc q z) S3 k
@[reducible] def sOwnDc (i : Nat) (it : DTI) (g : DTG) (tk tv : DTE) (vs : List Nat) : DTS := fun E env S => it env S fun ds S1 => dcT g tk tv (wipeE env vs) ds [] S1 fun kvs S2 => E.nx (setE env i (.own S2.length)) (S2 ++ [.dct kvs])
/-- x.pop(k, None) -/
@[reducible] def dPopN (a b : DTE) : DTE := fun env S k => a env S fun x S1 => match x with
  | .own n => (match S1[n]? with
    | some (.dct _) => b env S1 fun y S2 => (match S2[n]? with
      | some (.dct kvs) => onO (dkey y) fun q => k ((valD kvs q).getD .non) (S2.set n (.dct (dropD kvs q)))
      | _ => False)
    | _ => False)
  | _ => False
/-- x == {} -/
@[reducible] def dEqE (a : DTE) : DTE := fun env S k => a env S fun x S1 => match x with
  | .own n => (match S1[n]? with
    | some (.dct kvs) => k (.bl kvs.isEmpty) S1
    | _ => False)
  | _ => False
/-- len(set(x)), x a list of ints -/
def dLenSet (a : DTE) : DTE := fun env S k => a env S fun x S1 => match res S1 x with
  | .lst ds => onO (intsD ds) fun ns => ns.length ≤ 4000 ∧ ∀ ms : List Int, ms.Nodup → (∀ i, i ∈ ms ↔ i ∈ ns) → k (.int (ms.length : Nat)) S1
  | _ => False
/-- x.replace(c, y), c and y one sign each, not alike -/
@[reducible] def dRepl (a b : DTE) (c : Nat) : DTE := fun env S k => a env S fun x S1 => b env S1 fun y S2 => match x, y with
  | .str s, .str [z] => (¬ c = z ∧ s.length ≤ 1000) ∧ k (.str (s.map fun d => if d = c then z else d)) S2
  | _, _ => False
/-- [x] * n, a new list that is changed later -/
@[reducible] def nMul (a b : DTE) : DTA := fun env S k => a env S fun x S1 => b env S1 fun y S2 => match res S2 x, y with
  | .lst p, .int j => (0 ≤ j ∧ j ≤ 1000 ∧ p.length ≤ 1000) ∧ k (repL j.toNat p) S2
  | _, _ => False
end Dat
set_option Elab.async false
set_option linter.all false
set_option maxRecDepth 100000
set_option maxHeartbeats 1000000
/-! DatQ: sorted sets of tuples. -/
namespace Dat
open PySem PySem.Spec PyProof.Rows L2
theorem rep_ints {K : PySem.W.Frag} {mu : Addr → Prop} {ads : List Addr} {H : Hp} : ∀ {ds : List D} {vs : List V} {ns : List Int}, RepL K mu ads H ds vs → intsD ds = some ns → vs = ns.map V.int := ints_vals
theorem rep_tups {K : PySem.W.Frag} {mu : Addr → Prop} {ads : List Addr} {H : Hp} : ∀ {ds : List D} {vs : List V} {nss : List (List Int)}, RepL K mu ads H ds vs → intsT ds = some nss →
    ∃ ks : List (Addr × List Int), vs = ks.map (fun p => V.ref p.1) ∧ ks.map (·.2) = nss ∧ ∀ p ∈ ks, H p.1 = some (.tup (p.2.map V.int)) ∧ Rep K mu ads H (tupI p.2) (.ref p.1)
  | [], vs, nss, r, e => by
    simp only [RepL] at r; cases e; subst r
    exact ⟨[], rfl, rfl, fun p h => nomatch h⟩
  | .tup xs :: ds, vs, nss, r, e => by
    simp only [RepL] at r
    obtain ⟨v, w, rfl, r1, r2⟩ := r
    simp only [intsT, Option.bind_eq_some_iff, Option.map_eq_some_iff] at e
    obtain ⟨ns, h1, ms, h2, rfl⟩ := e
    obtain ⟨ks, rfl, rfl, hk⟩ := rep_tups r2 h2
    simp only [Rep] at r1
    obtain ⟨t, us, rfl, h3, h4, h5⟩ := r1
    have ev := ints_vals h5 h1
    subst ev
    refine ⟨(t, ns) :: ks, rfl, rfl, fun p hp => ?_⟩
    rcases List.mem_cons.mp hp with rfl | hp
    · refine ⟨h3, ?_⟩
      simp only [tupI, Rep]
      exact ⟨t, _, rfl, h3, h4, rng_repL ns⟩
    · exact hk p hp
  | .non :: _, _, _, _, e => by simp [intsT] at e
  | .bl _ :: _, _, _, _, e => by simp [intsT] at e
  | .int _ :: _, _, _, _, e => by simp [intsT] at e
  | .str _ :: _, _, _, _, e => by simp [intsT] at e
  | .lst _ :: _, _, _, _, e => by simp [intsT] at e
  | .own _ :: _, _, _, _, e => by simp [intsT] at e
  | .scr _ :: _, _, _, _, e => by simp [intsT] at e
theorem tups_repL {K : PySem.W.Frag} {mu : Addr → Prop} {ads : List Addr} {H : Hp} : ∀ ks : List (Addr × List Int), (∀ p ∈ ks, Rep K mu ads H (tupI p.2) (.ref p.1)) → RepL K mu ads H ((ks.map (·.2)).map tupI) (ks.map fun p => V.ref p.1)
  | [], _ => by simp [RepL]
  | p :: ks, h => by
    simp only [List.map_cons, RepL]
    exact ⟨_, _, rfl, h p (List.mem_cons_self ..), tups_repL ks fun q hq => h q (List.mem_cons_of_mem _ hq)⟩
section
variable {X : Cx} {a : Expr} {Ta : DTE} {p pos : Pos}
theorem de_sortSetT {p2 pos2 : Pos} (hc : X.calm = true) (hu : X.A.units + 64 < cLine) (hg : Gl X "sorted") (hm : X.mg "sorted" = none) (hg2 : Gl X "set") (hm2 : X.mg "set" = none) (ha : DE X a Ta) (na : starEach [a] X.env = (false, eval a X.env) :: starEach [] X.env := by rfl)
    (na2 : starEach [Expr.Call (.Name "set" p2) [a] [] pos2] X.env = (false, eval (Expr.Call (.Name "set" p2) [a] [] pos2) X.env) :: starEach [] X.env := by rfl) : DE X (.Call (.Name "sorted" p) [.Call (.Name "set" p2) [a] [] pos2] [] pos) (dSortSetT Ta) := by
  obtain ⟨t, q, s⟩ := ha.ex
  refine ⟨_, pe_callB (cr_sortedT hc) hg hm (by decide +kernel) (pa_cons (pe_callTy (cr_setOfT hc hu) hg2 hm2 (by decide +kernel) (pa_cons q pa_nil na) (by decide) (by decide) na) pa_nil na2) (by decide) (by decide) na2, fun G ads S H σ env k Q cu re hk q => ?_⟩
  refine s G ads S H σ env _ _ cu re hk fun ads1 S1 H1 x v c1 e1 r1 k1 => ?_
  unfold dSortSetT at k1
  split at k1
  · rename_i ds
    obtain ⟨nss, hns, ⟨hl, d, hd1, hd⟩, hk⟩ := onO_some k1
    simp only [Rep] at r1
    obtain ⟨t, vs, rfl, h1, _, h3⟩ := r1
    obtain ⟨ks, rfl, rfl, hks⟩ := rep_tups h3 hns
    refine ⟨t, ks, rfl, SqL.of h1, fun p hp => SqT.of (hks p hp).1, by simpa using hl, fun a L hp hL1 hL2 => ?_⟩
    have kp : Keeps H1 (upd H1 a (SetTO X.prog X.w a L)) := Keeps.new hp
    have c2 := c1.keeps kp
    refine ⟨a, L, d, 1000000, rfl, upd_same, fun p hp' => ?_, hd1, fun p hp' => ?_, fun L' p2 pm nd hf _ hp2 => ?_⟩
    · exact SqT.of (kp _ _ (hks p (hL1 p hp')).1)
    · exact hd _ (List.mem_map_of_mem (hL1 p hp'))
    have q2 : PostE X.K G ads1 (upd H1 a (SetTO X.prog X.w a L)) k Q := fun ads3 S3 H3 d w c3 e3 r3 k3 => q ads3 S3 H3 d w c3 ((e1.trans (kp.evo ads1)).trans e3) r3 k3
    refine post_lst c2 q2 hp2 (tups_repL L' fun p hp' => rep_evo (kp.evo ads1) _ _ (hks p (hL1 p (pm.mem_iff.mp hp'))).2) (hk _ nd (fun m => ?_) (by simpa using hf))
    constructor
    · intro hm
      obtain ⟨p, hp', rfl⟩ := List.mem_map.mp hm
      exact List.mem_map_of_mem (hL1 p (pm.mem_iff.mp hp'))
    · intro hm
      obtain ⟨p, hp', rfl⟩ := List.mem_map.mp hm
      exact ((pm.map (·.2)).mem_iff).mpr (hL2 p hp')
  · exact k1.elim
end
end Dat
set_option Elab.async false
set_option linter.all false
set_option maxRecDepth 100000
set_option maxHeartbeats 1000000
/-! DatR: dicts of our own. -/
namespace Dat
open PySem PySem.Spec PyProof.Rows L2
theorem keyV_inj {k q : DKey} (h : keyV k = keyV q) : k = q := by
  cases k with
  | inl i => cases q with
    | inl j => simp only [keyV, Sum.inl.injEq] at h; rw [h]
    | inr t => simp [keyV] at h
  | inr s => cases q with
    | inl j => simp [keyV] at h
    | inr t =>
      simp only [keyV, Sum.inr.injEq] at h
      have h2 : s.toArray = t.toArray := congrArg Str.cps h
      rw [show s = t from by simpa using h2]
theorem keyV_dec (k q : DKey) : decide (keyV k = keyV q) = decide (k = q) := by
  by_cases h : k = q
  · subst h; simp
  · have : ¬ keyV k = keyV q := fun z => h (keyV_inj z)
    simp [h, this]
section
variable {K : PySem.W.Frag} {mu : Addr → Prop} {ads : List Addr} {H : Hp}
theorem kv_any (k : DKey) : ∀ {kvs : KVs} {vs : List (Key × V)}, RepKV keyV K mu ads H kvs vs → (vs.any fun p => decide (p.1 = keyV k)) = kvs.any fun p => decide (p.1 = k)
  | [], vs, h => by simp only [RepKV] at h; subst h; rfl
  | p :: kvs, vs, h => by
    simp only [RepKV] at h
    obtain ⟨v, r, rfl, _, h2⟩ := h
    simp only [List.any_cons]
    rw [kv_any k h2, keyV_dec]
theorem kv_len : ∀ {kvs : KVs} {vs : List (Key × V)}, RepKV keyV K mu ads H kvs vs → vs.length = kvs.length
  | [], vs, h => by simp only [RepKV] at h; subst h; rfl
  | p :: kvs, vs, h => by
    simp only [RepKV] at h
    obtain ⟨v, r, rfl, _, h2⟩ := h
    simp only [List.length_cons, kv_len h2]
theorem kv_app {k : DKey} {d : D} {w : V} (hr : Rep K mu ads H d w) : ∀ {kvs : KVs} {vs : List (Key × V)}, RepKV keyV K mu ads H kvs vs → RepKV keyV K mu ads H (kvs ++ [(k, d)]) (vs ++ [(keyV k, w)])
  | [], vs, h => by
    simp only [RepKV] at h; subst h
    simp only [List.nil_append, RepKV]
    exact ⟨w, [], rfl, hr, rfl⟩
  | p :: kvs, vs, h => by
    simp only [RepKV] at h
    obtain ⟨v, r, rfl, h1, h2⟩ := h
    simp only [List.cons_append, RepKV]
    exact ⟨v, _, rfl, h1, kv_app hr h2⟩
theorem kv_map {k : DKey} {d : D} {w : V} (hr : Rep K mu ads H d w) : ∀ {kvs : KVs} {vs : List (Key × V)}, RepKV keyV K mu ads H kvs vs →
    RepKV keyV K mu ads H (kvs.map fun p => if p.1 = k then (k, d) else p) (vs.map fun q => if q.1 = keyV k then (q.1, w) else q)
  | [], vs, h => by simp only [RepKV] at h; subst h; simp only [List.map_nil, RepKV]
  | p :: kvs, vs, h => by
    simp only [RepKV] at h
    obtain ⟨v, r, rfl, h1, h2⟩ := h
    have ih := kv_map (k := k) hr h2
    simp only [List.map_cons, RepKV]
    by_cases e : p.1 = k
    · subst e
      exact ⟨w, _, by simp, by simpa using hr, ih⟩
    · have e' : ¬ keyV p.1 = keyV k := fun z => e (keyV_inj z)
      exact ⟨v, _, by simp [e, e'], by simpa [e] using h1, ih⟩
theorem kv_put {k : DKey} {d : D} {w : V} {kvs : KVs} {vs : List (Key × V)} (h : RepKV keyV K mu ads H kvs vs) (hr : Rep K mu ads H d w) : RepKV keyV K mu ads H (putD kvs k d) (putK vs (keyV k) w) := by
  unfold putD putK
  rw [kv_any k h]
  cases hq : kvs.any fun p => decide (p.1 = k) with
  | true => simp only [if_true, cond_true]; exact kv_map hr h
  | false => simp only [Bool.false_eq_true, if_false, cond_false]; exact kv_app hr h
theorem kv_drop (k : DKey) : ∀ {kvs : KVs} {vs : List (Key × V)}, RepKV keyV K mu ads H kvs vs → RepKV keyV K mu ads H (dropD kvs k) (dropK vs (keyV k))
  | [], vs, h => by simp only [RepKV] at h; subst h; simp only [dropD, dropK, List.filter_nil, RepKV]
  | p :: kvs, vs, h => by
    simp only [RepKV] at h
    obtain ⟨v, r, rfl, h1, h2⟩ := h
    have ih := kv_drop k h2
    simp only [dropD, dropK] at ih ⊢
    by_cases e : p.1 = k
    · have e' : keyV p.1 = keyV k := by rw [e]
      simp only [List.filter_cons, e, e', decide_true, Bool.not_true, Bool.false_eq_true, if_false, ne_eq, not_true, decide_false]
      exact ih
    · have e' : ¬ keyV p.1 = keyV k := fun z => e (keyV_inj z)
      simp only [List.filter_cons, e, e', decide_false, Bool.not_false, if_true, ne_eq, not_false_eq_true, decide_true, RepKV]
      exact ⟨v, _, rfl, h1, ih⟩
theorem kv_val (k : DKey) : ∀ {kvs : KVs} {vs : List (Key × V)}, RepKV keyV K mu ads H kvs vs → (∀ w, valV vs (keyV k) = some w → ∃ d, valD kvs k = some d ∧ Rep K mu ads H d w) ∧ (valV vs (keyV k) = none → valD kvs k = none ∧ dropD kvs k = kvs)
  | [], vs, h => by simp only [RepKV] at h; subst h; exact ⟨fun w z => by simp [valV] at z, fun _ => ⟨rfl, rfl⟩⟩
  | p :: kvs, vs, h => by
    simp only [RepKV] at h
    obtain ⟨v, r, rfl, h1, h2⟩ := h
    obtain ⟨i1, i2⟩ := kv_val k h2
    by_cases e : p.1 = k
    · have e' : keyV p.1 = keyV k := by rw [e]
      refine ⟨fun w z => ?_, fun z => ?_⟩
      · rw [valV_pos (p := (keyV p.1, v)) e'] at z
        cases z
        exact ⟨p.2, by simp [valD, List.find?_cons, e], h1⟩
      · rw [valV_pos (p := (keyV p.1, v)) e'] at z
        cases z
    · have e' : ¬ keyV p.1 = keyV k := fun z => e (keyV_inj z)
      have ev : valD (p :: kvs) k = valD kvs k := by simp [valD, List.find?_cons, e]
      refine ⟨fun w z => ?_, fun z => ?_⟩
      · rw [valV_neg (p := (keyV p.1, v)) e'] at z
        rw [ev]; exact i1 w z
      · rw [valV_neg (p := (keyV p.1, v)) e'] at z
        obtain ⟨j1, j2⟩ := i2 z
        refine ⟨ev.trans j1, ?_⟩
        unfold dropD at j2 ⊢
        rw [List.filter_cons_of_pos (by simp [e]), j2]
theorem dkey_rep {d : D} {v : V} {q : DKey} (h : Rep K mu ads H d v) (e : dkey d = some q) : v = kV (keyV q) := by
  cases d with
  | int i => simp only [dkey, Option.some.injEq] at e; subst e; simp only [Rep] at h; exact h
  | str s => simp only [dkey, Option.some.injEq] at e; subst e; simp only [Rep] at h; exact h.1
  | _ => simp [dkey] at e
end
/-! ### {k: v for ..} -/
theorem snd_dc {K : PySem.W.Frag} {wi : TI} {it : DTI} {g : TG} {Tg : DTG} {tt : TT} {tk tv : TE} {Tk Tv : DTE} {sl vs : List Nat} (hi : SndW K wi it) (hg : SndG K sl g Tg) (ht : SndT K tt Dat.tYes) (hk : SndE K tk Tk) (hv : SndE K tv Tv) (hsl : ∀ i ∈ sl, i ∈ vs)
    {i : Nat} {D : Ends} {G : Gh} {ads : List Addr} {S : Sto} {H : Hp} {σ : L2.St} {env : Env} {E : DEnds} (c : Cur K G ads S H) (re : RepE K (mu G ads) ads H env σ) (hT : sOwnDc i it Tg Tk Tv vs E env S) (q : PostS K G ads H E D) :
    tDc wi g tt tk tv vs σ H fun x H1 => D.nx (σ.set i (some x)) H1 := by
  refine hi G ads S H σ env _ _ c re hT fun ads1 S1 H1 J ds c1 e1 wk k1 => fun p hp => ?_
  have h0 : G.H0 p = none := c1.none0 hp
  have hm0 : ¬ G.mu0 p := fun z => c1.nomu hp (.inl z)
  have hpa1 : p ∉ ads1 := fun z => c1.nomu hp (.inr z)
  have hd1 : dropH H1 p = H1 := by
    funext b
    by_cases e : b = p
    · subst e; rw [dropH_eq, hp]
    · exact dropH_ne e
  refine ⟨fun j m H => m = ds.length - j ∧ j ≤ ds.length ∧ ∃ ads2 S2 acc vsa, Cur K (G.plus p) ads2 S2 H ∧ H p = some (.dK vsa) ∧ Evo ads1 H1 ads2 (dropH H p) ∧ RepKV keyV K (mu (G.plus p) ads2) ads2 H acc vsa ∧ dcT Tg Tk Tv (wipeE env vs) (ds.drop j) acc S2 fun kvs S2 => E.nx (setE env i (.own S2.length)) (S2 ++ [.dct kvs]),
    ⟨ds.length, by simp, Nat.zero_le _, ads1, S1, [], [], c1.begin hp, upd_same, ?_, by simp only [RepKV], by simpa using k1⟩, ?_⟩
  · rw [dropH_upd, hd1]; exact Evo.refl _ _
  rintro j m H2 ⟨rfl, hile, ads2, S2, acc, vsa, c2, hacc, ev2, racc, kk⟩
  have hpa2 : p ∉ ads2 := c2.apart p (.inr rfl)
  have ev2' : Evo ads1 H1 ads2 H2 := ev2.trans (dropH_keeps.evo ads2)
  have w2 : Wider G (G.plus p) H1 := fun a h => h.elim .inl fun e => .inr (e ▸ hp)
  obtain ⟨wgo, wstop, wy⟩ := wk (G.plus p) ads2 S2 H2 w2 c2 ev2'
  by_cases hlt : j < ds.length
  · refine .inr ⟨wgo j hlt, fun H' => ∃ m', m' < ds.length - j ∧ (m' = ds.length - (j + 1) ∧ j + 1 ≤ ds.length ∧ ∃ ads2 S2 acc vsa, Cur K (G.plus p) ads2 S2 H' ∧ H' p = some (.dK vsa) ∧ Evo ads1 H1 ads2 (dropH H' p) ∧ RepKV keyV K (mu (G.plus p) ads2) ads2 H' acc vsa ∧ dcT Tg Tk Tv (wipeE env vs) (ds.drop (j + 1)) acc S2 fun kvs S2 => E.nx (setE env i (.own S2.length)) (S2 ++ [.dct kvs])), fun H' hN => hN, fun x H3 hy => ?_⟩
    obtain ⟨kp3, d, hd, rd⟩ := wy j x H3 hlt hy
    have hcons : ds.drop j = d :: ds.drop (j + 1) := by
      rw [List.drop_eq_getElem_cons hlt]
      have : ds[j] = d := by
        rw [List.getElem?_eq_getElem hlt] at hd
        exact Option.some.inj hd
      rw [this]
    rw [hcons] at kk
    unfold dcT at kk
    have c3 := c2.keeps kp3
    have ev3 : Evo ads2 H2 ads2 H3 := kp3.evo ads2
    have re3 : RepE K (mu (G.plus p) ads2) ads2 H3 (wipeE env vs) (wipe σ vs) := repE_wipe vs (repE_evo ev3 (repE_evo2 w2 ev2' (repE_evo e1 re)))
    refine hg (G.plus p) ads2 S2 H3 (wipe σ vs) (wipeE env vs) d x _ _ c3 re3 rd kk fun ads4 S4 H4 env4 σ4 c4 e4 re4 f4 l4 k4 => ⟨wipe_same (fun j hj => f4 j fun z => hj (hsl j z)) l4, ?_⟩
    have ht' := ht (G.plus p) ads4 S4 H4 σ4 env4 (fun b S5 => b = true ∧ (Tk env4 S5 fun y S2 => Tv env4 S2 fun z S3 => onO (dkey y) fun q => acc.length < Dat.line ∧ dcT Tg Tk Tv (wipeE env vs) (ds.drop (j + 1)) (putD acc q z) S3 fun kvs S2 => E.nx (setE env i (.own S2.length)) (S2 ++ [.dct kvs])))
    refine ht' _ c4 re4 ⟨rfl, k4⟩ fun ads5 S5 H5 b c5 e5 k5 => ?_
    have ev5 : Evo ads2 H2 ads5 H5 := (ev3.trans e4).trans e5
    obtain ⟨rfl, k5⟩ := k5
    rw [if_pos rfl]
    refine hk (G.plus p) ads5 S5 H5 σ4 env4 _ _ c5 (repE_evo e5 re4) k5 fun ads6 S6 H6 y w c6 e6 r6 k6 => ?_
    refine hv (G.plus p) ads6 S6 H6 σ4 env4 _ _ c6 (repE_evo (e5.trans e6) re4) k6 fun ads7 S7 H7 z u c7 e7 r7 k7 => ?_
    obtain ⟨ky, hky, hlen, k7⟩ := onO_some k7
    have ev7 : Evo ads2 H2 ads7 H7 := (ev5.trans e6).trans e7
    have hpa7 : p ∉ ads7 := c7.apart p (.inr rfl)
    have racc7 := repKV_evo ev7 _ _ racc
    refine ⟨vsa, keyV ky, dkey_rep (rep_evo e7 _ _ r6) hky, ev7.frame _ _ hacc hpa2, by rw [kv_len racc7]; exact hlen, ds.length - (j + 1), by omega, rfl, hlt, ads7, S7, putD acc ky z, _, c7.grow h0, upd_same, ?_, ?_, k7⟩
    · rw [dropH_upd]
      exact ev2.trans (ev7.dropped hpa2 hpa7)
    · exact repKV_upd0 (.inl (.inr rfl)) _ _ (kv_put racc7 r7)
  · have ei : j = ds.length := by omega
    subst ei
    refine .inl ⟨wstop, ?_⟩
    rw [List.drop_length] at kk
    unfold dcT at kk
    have cd := c2.dropped h0 hm0
    have er : Evo ads H ads2 (dropH H2 p) := e1.trans ev2
    have ep : Evo ads2 (dropH H2 p) (ads2 ++ [p]) H2 := evo_push dropH_eq dropH_keeps
    refine q.nx (ads2 ++ [p]) (S2 ++ [.dct acc]) H2 _ _ (cd.push (mo := .dct acc) dropH_eq dropH_keeps hacc ⟨vsa, hacc, repKV_evo ep _ _ (repKV_drop _ _ racc)⟩) (er.trans ep) ?_ kk
    rw [setE_eq]
    refine repE_set (repE_evo (er.trans ep) re) ?_
    simp only [Rep]
    exact ⟨p, by rw [cd.len]; simp, rfl⟩
section
variable {X : Cx}
/-- the swap of a dict comprehension that a plain local name takes -/
theorem swd_true {k0 v0 : Expr} {gs : List Comprehension} {scope : Scope} {pos py : Pos} {y : Str} {l : Nat} {env : PySem.Env} (hk : env.scope.kind = .function) (hy : env.scope.names.lookup y = some .local) (hl : (py.line == pos.line) = true)
    (ha : (scope.names.any fun (n, k) => n == y && (k == .local || k == .cell)) = false) : swapsWith (.DictComp k0 v0 gs scope pos) (some (.Name y py)) l env = pure true := by
  unfold swapsWith
  simp only [show env.blockKind = .function by unfold Env.blockKind; rw [hk]; rfl, show env.kindOf y = some .local from hy, ha, Expr.pos, hl]
  rfl
theorem ps_setDc {i : Nat} {y : Str} {py : Pos} {kx vx tg iter : Expr} {ifs : List Expr} {scope : Scope} {own : List (Str × Nat)} {pos spos : Pos} {wi : TI} {g : TG} {tt : TT} {tk tv : TE}
    (hc : X.calm = true) (hN : X.N.Nodup) (hy : X.N[i]? = some y) (hyl : X.env.scope.names.lookup y = some .local)
    (hsw : swapsWith (.DictComp kx vx [⟨tg, iter, ifs, 0⟩] scope pos) (some (.Name y py)) spos.line X.env = pure true)
    (hi : PI X tg iter wi) (ok : BlkOk X.N X.env.scope scope own)
    (hg : ∀ s H C cl fp, PG (X.blk s H scope (compEnvC scope cl C X.env) fp) tg g)
    (ht : ∀ s H C cl fp, PTs (X.blk s H scope (compEnvC scope cl C X.env) fp) ifs tt)
    (hk : ∀ s H C cl fp, PE (X.blk s H scope (compEnvC scope cl C X.env) fp) kx tk)
    (he : ∀ s H C cl fp, PE (X.blk s H scope (compEnvC scope cl C X.env) fp) vx tv)
    (hs : ∀ x, foldedSetIterable iter X.env x = pure x) :
    PS X (.Assign [.Name y py] (.DictComp kx vx [⟨tg, iter, ifs, 0⟩] scope pos) spos) (tAsg (tDc wi g tt tk tv (own.map (·.2))) (L2.gName i)) := by
  refine ⟨fun pins s σ H D I h => ?_⟩
  rw [exec_Assign_Name_used _ _ _ _ hsw]
  refine wpAny_bind (wpAny_standAt (wpAny_bind ?_))
  have h : tDc wi g tt tk tv (own.map (·.2)) σ H (fun x H1 => L2.gName i x σ H1 D.nx) := h
  show wpAny _ X.A (do
    let _ ← comprehension (.DictComp kx vx [⟨tg, iter, ifs, 0⟩] scope pos) scope X.env (firstIterPos [⟨tg, iter, ifs, 0⟩] pos) newDict false (eval iter X.env) (some (assign (.Name y py) X.env))) _ _ s
  refine wpAny_bind (thn (dc_core (Qf := fun _ s' => SP X pins D .next s') hc hN I hi ok hg ht hk he hs h fun L C s' m H' I' q hn f => ?_) fun _ s' hq => wpAny_pure (wpAny_pure hq))
  show wpAny _ _ (assign (.Name y py) X.env (.ref L)) _ _ _
  refine wpAny_assign_Name (store_ok2 (v := V.ref L) I' hN hy (.inl hyl) rfl (fun s2 I2 st2 => ?_) (.inr hyl))
  obtain ⟨a, sb, ha⟩ := st2
  obtain ⟨f0, f1, f2, f3, f4, f5⟩ := f
  have hCa : C ≠ a := ha.elim (fun z => by rw [z]; exact f1) fun z e => f4 y a z e.symm
  exact ⟨m, hn.sameBut sb hCa, fun h3 sb3 => ⟨_, H', I2.turned (t' := s2.toks) (fun b o hb e => (sb3.2 b hb).trans e) f0 f1 f3 f4 f5, q⟩⟩
/-- x = {k: v for ..} -/
theorem ds_ownDc (i : Nat) {y : Str} {py : Pos} {kx vx tg iter : Expr} {scope : Scope} {own : List (Str × Nat)} {pos spos : Pos} {it : DTI} {Tg : DTG} {Tk Tv : DTE} {sl : List Nat}
    (hc : X.calm = true) (hN : X.N.Nodup) (hsw : swapsWith (.DictComp kx vx [⟨tg, iter, [], 0⟩] scope pos) (some (.Name y py)) spos.line X.env = pure true)
    (hi : DI' X tg iter it) (ok : BlkOk X.N X.env.scope scope own)
    (hg : ∀ s H C cl fp, DG (X.blk s H scope (compEnvC scope cl C X.env) fp) tg sl Tg)
    (hk : ∀ s H C cl fp, DE (X.blk s H scope (compEnvC scope cl C X.env) fp) kx Tk)
    (he : ∀ s H C cl fp, DE (X.blk s H scope (compEnvC scope cl C X.env) fp) vx Tv)
    (hy : X.N[i]? = some y := by rfl) (hyl : X.env.scope.names.lookup y = some .local := by rfl)
    (hsl : ∀ i ∈ sl, i ∈ own.map (·.2) := by decide) (hs : ∀ x, foldedSetIterable iter X.env x = pure x := by intro _; rfl) :
    DS X (.Assign [.Name y py] (.DictComp kx vx [⟨tg, iter, [], 0⟩] scope pos) spos) (sOwnDc i it Tg Tk Tv (own.map (·.2))) := by
  obtain ⟨wi, p, s⟩ := hi.ex
  exact ⟨_, ps_setDc (g := canG X.K sl Tg) (tt := canT X.K Dat.tYes) (tk := canE X.K Tk) (tv := canE X.K Tv) hc hN hy hyl hsw p ok (fun s H C cl fp => (hg s H C cl fp).can) (fun s H C cl fp => dts_nil.can) (fun s H C cl fp => (hk s H C cl fp).can) (fun s H C cl fp => (he s H C cl fp).can) hs,
    fun G ads S H σ env E D c re hT q => snd_dc s snd_canG snd_canT snd_canE snd_canE hsl c re hT q⟩
end
/-! ### x == {} -/
def rEqE : R2 := fun x y H Q => ∃ a b ks, x = .ref a ∧ y = .ref b ∧ H a = some (.dK ks) ∧ H b = some (.dK []) ∧ Q (.bl ks.isEmpty) H
section
variable {X : Cx}
theorem op_eqE (hu : X.A.units < cLine) : OpR X (compareOp .Eq) rEqE := by
  intro pins s σ H x y v u Q I rx ry h
  obtain ⟨a, b, ks, rfl, rfl, ea, eb, q⟩ := h
  obtain rfl : v = Value.ref a := rx
  obtain rfl : u = Value.ref b := ry
  have oa : ObjOk X.prog X.w H s.heap a (.dK ks) := I.hok a _ ea
  have ob : ObjOk X.prog X.w H s.heap b (.dK []) := I.hok b _ eb
  obtain ⟨_, ya, va, ra, da⟩ := oa
  obtain ⟨_, yb, vb, rb, db⟩ := ob
  have lb : vb.length = 0 := rb.length.symm
  have la : va.length = ks.length := ra.length.symm
  refine PySem.W.keq_eq (knd := mixKind X.prog X.w) (r := true) ya yb da db hu (fun e => ?_) (fin_bl I q ?_)
  · obtain rfl : ks = [] := List.length_eq_zero_iff.mp (by omega)
    exact hits_all rb ra fun p hp => nomatch hp
  · cases ks with
    | nil => simp only [List.length_nil] at la; simp [la, lb]
    | cons p r => simp only [List.length_cons] at la; simp [la, lb]
variable {a : Expr} {Ta : DTE} {pos p p2 q2 : Pos}
theorem de_eqE (hu : X.A.units < cLine) (ha : DE X a Ta) (hm : behindInMarks .Eq (.Dict [] [] p2) = false) : DE X (.Compare a [.Eq] [.Dict [] [] p2] pos) (dEqE Ta) := by
  obtain ⟨t, q, s⟩ := ha.ex
  refine ⟨_, pe_cmpR (op_eqE hu) q pe_dnewK hm, fun G ads S H σ env k Q c re hk q => ?_⟩
  refine s G ads S H σ env _ _ c re hk fun ads1 S1 H1 x v c1 e1 r1 k1 => ?_
  cases x with
  | own n =>
    simp only at k1
    split at k1
    · rename_i kvs hS
      obtain ⟨b, rfl, hb, vs, hH, rk⟩ := own_at c1 r1 hS
      intro p3 hp3
      have kp : Keeps H1 (upd H1 p3 (.dK [])) := Keeps.new hp3
      refine ⟨b, p3, vs, rfl, rfl, kp _ _ hH, upd_same, ?_⟩
      have ee : vs.isEmpty = kvs.isEmpty := by
        have := kv_len rk
        cases kvs <;> cases vs <;> simp_all
      exact q ads1 S1 _ (.bl kvs.isEmpty) _ (c1.keeps kp) (e1.trans (kp.evo ads1)) (by simp only [Rep]; rw [ee]) k1
    · exact k1.elim
  | _ => exact k1.elim
theorem dt_eqE (hu : X.A.units < cLine) (ha : DE X a Ta) (hm : behindInMarks .Eq (.Dict [] [] p2) = false) : DT X (.Compare a [.Eq] [.Dict [] [] p2] pos) (tBl (dEqE Ta)) := by
  obtain ⟨t, q, s⟩ := ha.ex
  have hs : SndE X.K _ (dEqE Ta) := fun G ads S H σ env k Q c re hk q => by
    refine (show tOp rEqE t tDNewK σ H Q from ?_)
    refine s G ads S H σ env _ _ c re hk fun ads1 S1 H1 x v c1 e1 r1 k1 => ?_
    cases x with
    | own n =>
      simp only at k1
      split at k1
      · rename_i kvs hS
        obtain ⟨b, rfl, hb, vs, hH, rk⟩ := own_at c1 r1 hS
        intro p3 hp3
        have kp : Keeps H1 (upd H1 p3 (.dK [])) := Keeps.new hp3
        refine ⟨b, p3, vs, rfl, rfl, kp _ _ hH, upd_same, ?_⟩
        have ee : vs.isEmpty = kvs.isEmpty := by
          have := kv_len rk
          cases kvs <;> cases vs <;> simp_all
        exact q ads1 S1 _ (.bl kvs.isEmpty) _ (c1.keeps kp) (e1.trans (kp.evo ads1)) (by simp only [Rep]; rw [ee]) k1
      · exact k1.elim
    | _ => exact k1.elim
  exact ⟨_, pt_cmpR (op_eqE hu) q pe_dnewK hm, snd_bl hs⟩
/-! ### x.pop(k, None) -/
variable {b : Expr} {Tb : DTE} {apos cpos : Pos} {j : Nat}
theorem de_popN (ho : DE X a Ta) (he : DE X b Tb) (m : M2 X a "pop" apos b (.Constant .none j p) cpos) : DE X (.Call (.Attribute a "pop" apos) [b, .Constant .none j p] [] cpos) (dPopN Ta Tb) := by
  obtain ⟨t, q1, s1⟩ := ho.ex
  obtain ⟨u, q2, s2⟩ := he.ex
  obtain ⟨z, q3, s3⟩ := (de_non (X := X) (j := j) (pos := p)).ex
  refine ⟨_, pe_dpop2 q1 q2 q3 m, fun G ads S H σ env k Q c re hk q => ?_⟩
  refine s1 G ads S H σ env _ _ c re hk fun ads1 S1 H1 x v c1 e1 r1 k1 => ?_
  cases x with
  | own n =>
    simp only at k1
    split at k1
    · rename_i kvs0 hS
      obtain ⟨b1, rfl, hb1, vs1, hH1, _⟩ := own_at c1 r1 hS
      refine ⟨b1, rfl, .inl ⟨vs1, .inl hH1⟩, ?_⟩
      refine s2 G ads1 S1 H1 σ env _ _ c1 (repE_evo e1 re) k1 fun ads2 S2 H2 y w c2 e2 r2 k2 => ?_
      split at k2
      · rename_i kvs hS2
        obtain ⟨ky, hky, k2⟩ := onO_some k2
        obtain ⟨b2, hb2, hp2, vs, hH2, rk⟩ := own_at c2 (rep_evo e2 _ _ r1) hS2
        cases hb2
        refine s3 G ads2 S2 H2 σ env (fun d S3 => d = .non ∧ S3 = S2) _ c2 (repE_evo (e1.trans e2) re) ⟨rfl, rfl⟩ fun ads3 S3 H3 d3 w3 c3 e3 r3 k3 => ?_
        obtain ⟨rfl, rfl⟩ := k3
        obtain ⟨b3, hb3, hp3, vs3, hH3, rk3⟩ := own_at c3 (rep_evo (e2.trans e3) _ _ r1) hS2
        cases hb3
        obtain ⟨v1, v2⟩ := kv_val ky rk3
        refine ⟨vs3, keyV ky, hH3, dkey_rep (rep_evo e3 _ _ r2) hky, fun w4 hw4 => ?_, fun hn4 => ?_⟩
        · obtain ⟨d4, hd4, rd4⟩ := v1 w4 hw4
          have hin := List.mem_of_getElem? hp3
          have ev := evo_set (H := H3) (o := .dK (dropK vs3 (keyV ky))) hin
          refine q ads3 _ _ d4 _ (c3.set (mo := .dct (dropD kvs ky)) hp3 ⟨_, upd_same, repKV_upd0 (.inr hin) _ _ (kv_drop ky rk3)⟩) (((e1.trans e2).trans e3).trans ev) (rep_upd0 (.inr hin) _ _ rd4) ?_
          rw [hd4] at k2; exact k2
        · obtain ⟨w1, w2⟩ := v2 hn4
          rw [w1, w2] at k2
          have hset : S3.set n (.dct kvs) = S3 := by
            obtain ⟨hlt, he⟩ := List.getElem?_eq_some_iff.mp hS2
            rw [← he]; exact List.set_getElem_self hlt
          rw [hset] at k2
          exact q ads3 S3 H3 .non _ c3 ((e1.trans e2).trans e3) r3 k2
      · exact k2.elim
    · exact k1.elim
  | _ => exact k1.elim
/-! ### len(set(x)) -/
theorem dedup_nodup (ks : List Int) : ∀ σ : List Int, σ.Nodup → (ks.foldl PyProof.Rows.step_dedup σ).Nodup := by
  induction ks with
  | nil => exact fun σ h => h
  | cons k ks ih =>
    intro σ h
    rw [List.foldl_cons]
    refine ih _ ?_
    unfold PyProof.Rows.step_dedup
    split
    · exact h
    · rename_i hk
      rw [List.nodup_append]
      refine ⟨h, by simp, fun x hx y hy e => hk ?_⟩
      rw [List.mem_singleton] at hy
      exact List.any_eq_true.mpr ⟨x, hx, by rw [e, hy]; simp⟩
theorem firstMet_spec (ns : List Int) : (PyProof.Rows.firstMet (fun i => ns.getD i 0) ns.length).Nodup ∧ ∀ k, k ∈ PyProof.Rows.firstMet (fun i => ns.getD i 0) ns.length ↔ k ∈ ns := by
  refine ⟨dedup_nodup _ _ List.nodup_nil, fun k => ?_⟩
  have h := PyProof.Rows.firstMet_any (fun i => ns.getD i 0) ns.length k
  have e : (List.range ns.length).map (fun i => ns.getD i 0) = ns := by
    apply List.ext_getElem?
    intro i
    rw [List.getElem?_map]
    by_cases hi : i < ns.length
    · rw [List.getElem?_range hi, List.getElem?_eq_getElem hi]
      simp [List.getD_eq_getElem?_getD, List.getElem?_eq_getElem hi]
    · rw [List.getElem?_eq_none (by simpa using hi), List.getElem?_eq_none (by omega)]; rfl
  rw [e] at h
  have hm : ∀ l : List Int, (l.any (· == k) = true) ↔ k ∈ l := fun l => by simp
  rw [← hm, ← hm, h]
def tLenSetD (K : PySem.W.Frag) (ta : TE) : TE := fun σ H Q => ta σ H fun x H1 => ∃ (l : Addr) (ns : List Int), x = .ref l ∧ SqL K H1 l (ns.map V.int) ∧ ns.length ≤ 4000 ∧ ∀ ms : List Int, ms.Nodup → (∀ i, i ∈ ms ↔ i ∈ ns) → Q (.int (ms.length : Nat)) H1
theorem pe_lenSetD {a : Expr} {ta : TE} {p p2 q pos : Pos} (hg : Gl X "len") (hm : X.mg "len" = none) (hg2 : Gl X "set") (hm2 : X.mg "set" = none) (ha : PE X a ta) (hc : X.calm = true)
    (na : starEach [a] X.env = (false, eval a X.env) :: starEach [] X.env) : PE X (.Call (.Name "len" p) [.Call (.Name "set" p2) [a] [] q] [] pos) (tLenSetD X.K ta) := by
  refine ⟨fun pins s σ H Q I h => Call_ (ld_blt I hg hm boot_len (PyProof.Rows.callWith_builtin1 (PyProof.Rows.args_cons ?_ rfl) rfl rfl))⟩
  refine Call_ (ld_blt I hg2 hm2 boot_set (PyProof.Rows.callWith_type1 (PyProof.Rows.args_cons (thn (ha.run pins s σ H _ I h) fun v s1 z => PyProof.Rows.args_nil ?_) na) na rfl))
  obtain ⟨x, H1, I1, r1, l, ns, rfl, hq, hl, q1⟩ := z
  cases r1
  obtain ⟨its, r, pl, hz⟩ := I1.list hq
  have hlen : its.toArray.size = ns.length := by rw [List.size_toArray, ← r.length, List.length_map]
  obtain ⟨nd, mm⟩ := firstMet_spec ns
  have hsm := PyProof.Rows.firstMet_length_le (fun i => ns.getD i 0) ns.length
  refine call_set_list (I1.ok.hd hc) pl.isList (by simpa using RZ.intsAre_vals r) (by rw [hlen]; unfold scanBound; omega) fun h' tk hS hk => PyProof.Rows.args_nil ?_
  rw [hlen] at hS
  obtain ⟨o, es, ep, t, ho, hex, hd, _, _, _, hf, hn⟩ := hS
  have I2 : Inv X pins σ H1 { s1 with heap := h', toks := tk } := I1.kept fun b o e => hk b o (Heap.lt_size e) e
  refine call_len_set ho hex hd hf (by rw [hn] <;> omega) ?_
  exact ⟨.int _, H1, I2.tok _, ⟨_, by rw [hn]⟩, q1 _ nd mm⟩
theorem de_lenSet {q : Pos} (hc : X.calm = true) (hg : Gl X "len") (hm : X.mg "len" = none) (hg2 : Gl X "set") (hm2 : X.mg "set" = none) (ha : DE X a Ta) (na : starEach [a] X.env = (false, eval a X.env) :: starEach [] X.env := by rfl) :
    DE X (.Call (.Name "len" p) [.Call (.Name "set" p2) [a] [] q] [] pos) (dLenSet Ta) := by
  obtain ⟨t, q1, s1⟩ := ha.ex
  refine ⟨_, pe_lenSetD hg hm hg2 hm2 q1 hc na, fun G ads S H σ env k Q c re hk q => ?_⟩
  refine s1 G ads S H σ env _ _ c re hk fun ads1 S1 H1 x v c1 e1 r1 k1 => ?_
  split at k1
  · rename_i ds ex
    obtain ⟨ns, hns, hl, hk⟩ := onO_some k1
    obtain ⟨l, vs, rfl, hH, rl⟩ := res_lst c1 r1 ex
    have ev := ints_vals rl hns
    subst ev
    exact ⟨l, ns, rfl, SqL.of hH, hl, fun ms nd mm => q ads1 S1 H1 _ _ c1 e1 (by simp only [Rep]) (hk ms nd mm)⟩
  · exact k1.elim
end
theorem dn_mul {X : Cx} {a b : Expr} {Ta Tb : DTE} {pos : Pos} (ha : DE X a Ta) (hb : DE X b Tb) : DN X (.BinOp a .Mult b pos) (nMul Ta Tb) := by
  obtain ⟨ta, p1, s1⟩ := ha.ex
  obtain ⟨tb, p2, s2⟩ := hb.ex
  refine ⟨_, pe_op op_rep p1 p2, fun G ads S H σ env k Q c re hk q => ?_⟩
  refine s1 G ads S H σ env _ _ c re hk fun ads1 S1 H1 x v c1 e1 r1 k1 => ?_
  refine s2 G ads1 S1 H1 σ env _ _ c1 (repE_evo e1 re) k1 fun ads2 S2 H2 y u c2 e2 r2 k2 => ?_
  split at k2
  · rename_i xs j ex
    obtain ⟨⟨h0, h1, h2⟩, hk⟩ := k2
    obtain ⟨l, vs, rfl, hl, g1⟩ := res_lst c2 (rep_evo e2 _ _ r1) ex
    simp only [Rep] at r2; subst r2
    have hle : vs.length * j.toNat ≤ 1000 * 1000 := Nat.mul_le_mul (by rw [g1.length]; exact h2) (by omega)
    refine ⟨l, j, vs, rfl, rfl, hl, by omega, by omega, Nat.le_trans hle (by decide), fun p hp => ?_⟩
    exact q ads2 S2 H2 _ p _ _ c2 (e1.trans e2) hp (Keeps.new hp) upd_same (g1.rep j.toNat) hk
  · exact k2.elim
end Dat
set_option Elab.async false
set_option linter.all false
set_option maxRecDepth 100000
set_option maxHeartbeats 1000000
/-! DatT: for y in ".#": z = f(.., (x.replace("?", y), ..), ..): the token of y is known there. -/
namespace Dat
open PySem PySem.Spec PyProof.Rows L2 PySem.StrLaws
/-- y is a plain local name that holds a text whose token was given out -/
def Raw (X : Cx) (y : Str) (s : Shared) : Prop := ∃ (m : Str → Option Value) (x : Str) (t : Tok), s.heap.Ns X.env.locals m ∧ m y = some (Value.str x t) ∧ t ≠ 0 ∧ t < s.toks
def PER (X : Cx) (y : Str) (e : Expr) (t : TE) : Prop := ∀ pins s σ H Q, Raw X y s → Inv X pins σ H s → t σ H Q → wpAny (model X.prog X.w) X.A (eval e X.env) (EP X pins σ Q) X.xe s
def PAR (X : Cx) (y : Str) (es : List Expr) (t : TA) : Prop := ∀ pos pins s σ H Q, Raw X y s → Inv X pins σ H s → t σ H Q → wpAny (model X.prog X.w) X.A (spliced (backTo pos (starEach es X.env))) (AP X pins σ Q) X.xe s
def PSsR (X : Cx) (y : Str) (st : List Stmt) (t : TS) : Prop := ∀ pins s σ H D, Raw X y s → Inv X pins σ H s → t D σ H → wpAny (model X.prog X.w) X.A (execs st X.env) (SP X pins D) X.xe s
section
variable {X : Cx} {y : Str}
theorem raw_store {pins : List (Addr × Obj)} {σ : L2.St} {H : Hp} {s : Shared} {M : Model} {A : Around} {E : Value → Shared → Prop} {i : Nat} {x : Str} {t : Tok} {Q : Unit → Shared → Prop} (I : Inv X pins σ H s) (hN : X.N.Nodup) (hi : X.N[i]? = some y) (hk : X.env.scope.names.lookup y = some .local) (ht : t ≠ 0) (hlt : t < s.toks)
    (h : ∀ s', Inv X pins (σ.set i (some (.str x))) H s' → Raw X y s' → Q () s') : wpAny M A (storeName X.env y (.str x t)) Q E s := by
  obtain ⟨m, hn, hl⟩ := id I.loc
  refine wpAny_storeName_local hk hn (fun h' hn' hs => h _ ?_ ⟨_, x, t, hn', by simp, ht, Nat.lt_succ_of_lt hlt⟩) (by rw [I.ok.kind]; rfl)
  have cne := I.cne
  have hfree := I.free
  have same : ∀ b o, X.s_0.heap.get? b = some o → h'.get? b = s.heap.get? b := fun b o e =>
    hs.2 b (Nat.ne_of_lt (Nat.lt_of_lt_of_le (Heap.lt_size e) I.ok.above))
  have hiσ : i < σ.length := by rw [I.len]; exact (List.getElem?_eq_some_iff.mp hi).1
  have base : Un X.fs X.ex X.H_0 H X.s_0.heap h' :=
    { keep := fun b o e n hb hx => (same b o e).trans (I.base.keep b o e n hb hx)
      slot := fun b o e n hb hx => (I.base.slot b o e n hb hx).imp fun sl e1 => (same b o e).trans e1
      free := I.base.free
      there := fun b o e hx => (I.base.there b o e hx).imp fun o' e1 => (same b o e).trans e1
      tups := I.base.tups, frzs := I.base.frzs, tbls := I.base.tbls }
  refine { ok := I.ok, os := I.os, bare := I.bare, base := base, loc := ⟨_, hn', ?_⟩, cell := ?_, free := I.free, freeC := I.freeC, pin := ?_, hok := ?_, len := by simpa using I.len }
  · intro j z v e1 e2 e3
    by_cases hj : j = i
    · subst hj
      rw [hi] at e1
      cases e1
      rw [List.getElem?_set_self hiσ] at e2
      cases e2
      exact ⟨_, ⟨t, rfl⟩, .inl ⟨hk, by simp⟩⟩
    · rw [List.getElem?_set_ne (Ne.symm hj)] at e2
      obtain ⟨u', r', q⟩ := hl j z v e1 e2 e3
      have hzy : z ≠ y := fun e => hj (nodup_ix hN e1 (e ▸ hi))
      refine ⟨u', r', q.elim (fun w => .inl ⟨w.1, by simp [hzy, w.2]⟩) fun w => .inr ?_⟩
      obtain ⟨k, c, e, w⟩ := w
      exact ⟨k, c, e, w.sameBut hs (cne z c e)⟩
  · intro z c e
    exact (I.cell z c e).imp fun w q => q.sameBut hs (cne z c e)
  · intro p hp
    obtain ⟨e, n, ne, nf, d⟩ := I.pin p hp
    exact ⟨(hs.2 p.1 ne).trans e, n, ne, nf, d⟩
  · intro b ob e
    refine (I.hok b ob e).stay (fun c w' hc q => (hs.2 c fun ec => ?_).trans q) (fun _ q => q) fun _ _ q => q
    subst ec
    rcases hc with hc | hc
    · rw [← hc, hfree] at e; cases e
    · rw [hfree] at hc; cases hc
/-- x.replace("?", y) -/
def tRepl (it i : Nat) (c : Str) : TE := fun σ H Q => ∃ x z, σ[it]? = some (some (.str x)) ∧ σ[i]? = some (some (.str z)) ∧ (c == z) = false ∧ x.length + (x.length + 1) * z.length ≤ 16777216 ∧ Q (.str (Txt.replace x c z)) H
theorem per_repl {it i : Nat} {tx c : Str} {p1 p2 c0 apos pos : Pos} {j : Nat} (hNt : X.N[it]? = some tx) (hvt : Vis X.env.scope tx) (hNy : X.N[i]? = some y) (hk : X.env.scope.names.lookup y = some .local)
    (hdt : (tx == ("__debug__" : Str)) = false) (hct : (tx == ("__classdict__" : Str)) = false) (hdy : (y == ("__debug__" : Str)) = false)
    (hst : starEach [.Constant (.str c) j c0, .Name y p2] X.env = [(false, eval (.Constant (.str c) j c0) X.env), (false, eval (.Name y p2) X.env)])
    (hbase : attributeBase (.Name tx p1) "replace" X.env (eval (.Name tx p1) X.env) = eval (.Name tx p1) X.env) (hline : (apos.endLine == pos.line) = true) :
    PER X y (.Call (.Attribute (.Name tx p1) "replace" apos) [.Constant (.str c) j c0, .Name y p2] [] pos) (tRepl it i c) := by
  rintro pins s σ H Q ⟨m0, x0, t0, hn0, hm0, h00, hlt⟩ I ⟨x, z, hx, hz, hyz, hb, q⟩
  refine PySem.Call_method2 hbase hst hline (raw_name hNt hvt I hx (fun v r => ?_) hdt hct)
  obtain ⟨tv, rfl⟩ := r
  refine ⟨"str", _, F.plainAttrs_str, F.slot_str_replace, F.type_str_replace, typeIs_str _ _ _, (fun _ e => nomatch e), Calls.callWith_builtin rfl (Calls.evalArgs_plain (Calls.spliced_cons (Calls.Constant_str (Calls.spliced_cons ?_))))⟩
  obtain ⟨m, hn, hl⟩ := I.loc
  obtain ⟨u, ru, lk⟩ := hl i y (.str z) hNy hz (.inl hk)
  have hku : X.env.kindOf y = some .local := hk
  have hu : m y = some u := lk.elim (fun w => w.2) fun w => by
    rcases w.1 with e | e <;> (rw [hku] at e; cases e)
  have hag := hn.agree hn0 y
  rw [hu, hm0] at hag
  cases hag
  obtain ⟨t1, e1⟩ := ru
  cases e1
  refine wpAny_Name (wpAny_loadName_local I.ok.kind hku hn hu (Calls.spliced_nil ?_)) hdy
  exact PySem.SC.replace (show s.toks ≠ 0 from Nat.ne_of_gt (Nat.lt_of_le_of_lt (Nat.zero_le _) hlt)) h00 (show s.toks ≠ t0 from Nat.ne_of_gt hlt) hyz hb fun t' k => ⟨.str (Txt.replace x c x0), H, I.tok k, ⟨t', rfl⟩, q⟩
/-- the first argument knows the token -/
theorem par_cons {e : Expr} {es : List Expr} {te : TE} {ta : TA} (ha : PER X y e te) (hr : PA X es ta) (hs : starEach (e :: es) X.env = (false, eval e X.env) :: starEach es X.env) : PAR X y (e :: es) (tCons te ta) := by
  intro pos pins s σ H Q hw I h
  rw [hs]
  refine (show wpAny _ _ (spliced ((false, eval e X.env) :: backTo pos (starEach es X.env))) _ _ s from Calls.spliced_cons (thn (ha pins s σ H _ hw I h) fun u s1 z => ?_))
  obtain ⟨x, H1, I1, r1, q1⟩ := z
  refine thn (hr.run pos pins s1 σ H1 _ I1 q1) fun us s2 z => ?_
  obtain ⟨xs, H2, I2, r2, q2⟩ := z
  exact ⟨x :: xs, H2, I2, .cons r1 r2, q2⟩
/-- .. the first argument is a name, behind it the token is known still -/
theorem par_name {i : Nat} {x : Str} {p : Pos} {es : List Expr} {ta : TA} (hNx : X.N[i]? = some x) (hv : Vis X.env.scope x) (hdx : (x == ("__debug__" : Str)) = false) (hcx : (x == ("__classdict__" : Str)) = false) (hr : PAR X y es ta)
    (hs : starEach (.Name x p :: es) X.env = (false, eval (.Name x p) X.env) :: starEach es X.env) : PAR X y (.Name x p :: es) (tCons (fun σ H Q => ∃ v, σ[i]? = some (some v) ∧ Q v H) ta) := by
  intro pos pins s σ H Q hw I h
  rw [hs]
  obtain ⟨v, hv1, h⟩ := h
  refine (show wpAny _ _ (spliced ((false, eval (.Name x p) X.env) :: backTo pos (starEach es X.env))) _ _ s from Calls.spliced_cons (raw_name hNx hv I hv1 (fun u r => ?_) hdx hcx))
  refine thn (hr pos pins s σ H _ hw I h) fun us s2 z => ?_
  obtain ⟨xs, H2, I2, r2, q2⟩ := z
  exact ⟨v :: xs, H2, I2, .cons r r2, q2⟩
theorem per_tup {es : List Expr} {t : TA} {x1} {pos : Pos} (h : PAR X y es t) : PER X y (.Tuple es x1 pos) (tTup t) := by
  intro pins s σ H Q hw I hq
  refine wpAny_Tuple_spliced (thn (h pos pins s σ H _ hw I hq) fun us s1 w => ?_)
  obtain ⟨xs, H1, I1, r, z, q⟩ := w
  have hf : H1 s1.heap.objs.size = none := I1.hok.fresh (Nat.le_refl _)
  exact ⟨by rw [← r.length]; exact z, .ref _, upd H1 s1.heap.objs.size (.tup xs), I1.laid (t' := s1.toks) (fun b u e => Heap.get?_push_of_some _ e) (Nat.le_refl _) ⟨z, us, r, _, Heap.get?_push_size _ rfl, rfl, _, rfl⟩, rfl, q _ hf⟩
theorem per_call {CX : CXT} {k : Nat} {f : Addr} {fd : FuncData} {ps : List Str} {sp : Sp} {ds : List Value} {dvs : List V} {E : XK} {x : Str} {e : Expr} {es : List Expr} {t : TA} {p pos : Pos}
    (F : FnOk X.prog X.w X.K X.mg X.base CX k f fd ps sp) (hr : L2.Room k X.A) (hg : Gl X x) (hm : X.mg x = some (.ref f)) (hk : PySem.W.keepIn X.K (.ref f) = true) (hb : Binds X.K fd ps ds) (hd : Vals dvs ds) (hx : Passes CX X E)
    (ha : PAR X y (e :: es) t) (hdb : (x == ("__debug__" : Str)) = false) (he : starEach (e :: es) X.env = (false, eval e X.env) :: starEach es X.env) (hpl : (backTo pos (starEach es X.env)).any (·.1) = false) :
    PER X y (.Call (.Name x p) (e :: es) [] pos) (tCall sp dvs E t) := by
  intro pins s σ H Q hw I h
  refine wpAny_Call_Name_kw (ld_glob I hg hm (PySem.W.callWith_K (h₀ := X.base) I.ok.mod.kin hk (thn (ha pos pins s σ H _ hw I h) fun us s1 z => ?_) he hpl) hdb)
  obtain ⟨vs, H1, I1, r, q⟩ := z
  exact ⟨I1.kIn, run_fn F hr hb hd hx I1 r q⟩
theorem pssr_set {i : Nat} {x : Str} {e : Expr} {te : TE} {px pos : Pos} {rest : List Stmt} {u : TS} (hN : X.N.Nodup) (hi : X.N[i]? = some x) (hx : Loc X.env.scope x) (he : PER X y e te) (hs : swapsWith e (some (.Name x px)) pos.line X.env = pure false) (hf : X.fn x = true ∨ X.env.scope.names.lookup x = some .local) (hr : PSs X rest u) :
    PSsR X y (.Assign [.Name x px] e pos :: rest) (tSeq (tAsg te (L2.gName i)) u) := by
  intro pins s σ H D hw I h
  refine wpAny_execs_cons (wpAny_Assign_Name (thn (he pins s σ H _ hw I h) fun v s1 z => ?_) hs)
  obtain ⟨w, H1, I1, r1, q1⟩ := z
  exact store_ok I1 hN hi hx r1 (fun s2 I2 => hr.run pins s2 _ H1 D I2 q1) hf
theorem ps_forRaw {i : Nat} {cs : Str} {jc : Nat} {py pc pos : Pos} {body : List Stmt} {tb : TS} (hp : PassesOwn (model X.prog X.w) X.A X.env X.xe) (hc : X.calm = true) (hN : X.N.Nodup) (hi : X.N[i]? = some y) (hk : X.env.scope.names.lookup y = some .local)
    (hcs : cs.cps.all (· < 128) = true) (hb : PSsR X y body tb) (hs : ∀ x, foldedSetIterable (.Constant (.str cs) jc pc) X.env x = pure x) :
    PS X (.For (.Name y py) (.Constant (.str cs) jc pc) body [] pos) (tFor (iStr (L2.tC (.str cs))) (L2.gName i) tb) := by
  refine ⟨fun pins s σ H D I h => ?_⟩
  obtain ⟨x, ex, W, ⟨m0, w0⟩, turn⟩ := h
  cases ex
  refine wpAny_For (Calls.Constant_str (wpAny_pyIter_ascii hcs ?_)) hs
  let a := s.heap.objs.size
  have hnone : H a = none := I.hok.fresh (Nat.le_refl _)
  have T := turn_str (P := X.prog) (w := X.w) (K := X.K) (tg := .Name y py) a cs s.toks "str_ascii_iterator" (.inl rfl)
  have fp : ∀ {H' : Hp}, H' a = none → FpOk X pins H' a := fun hn => I.fpOk (Nat.le_refl _) hn
  have stat : ∀ {H' : Hp}, H' a = none → ∀ b ∈ [a], FpOk X pins H' b := fun hn b hb => by rw [List.mem_singleton.mp hb]; exact fp hn
  refine codeAny_forLoop_any (fun n s' => ∃ i' σ' H', Inv X pins σ' H' s' ∧ s'.heap.IsStrIter a "str_ascii_iterator" cs s.toks i' ∧ H' a = none ∧ 1 ≤ s'.toks ∧ W i' n σ' H') ?_ m0
    ⟨0, σ, H, I.kept (t' := s.toks + 1) fun b o e => Heap.get?_push_of_some _ e, ⟨_, Heap.get?_push_size _ rfl, rfl, rfl⟩, hnone, Nat.le_add_left 1 s.toks, w0⟩
  rintro n s3 ⟨i', σ3, H3, I3, st3, fr3, tk3, w3⟩
  rcases turn i' n σ3 H3 w3 with ⟨stop, qn⟩ | ⟨go, N, hNx, step⟩
  · refine wpAny_passesOwn hp (thn (T.done X rfl rfl rfl hc i' pins s3 σ3 H3 X.xe I3 (stat fr3) st3 stop) fun r s4 z => ?_)
    obtain ⟨rfl, I4⟩ := z
    exact wpAny_execs_nil ⟨σ3, H3, I4, qn⟩
  · have hlt : i' < cs.cps.size := go
    have hcx : cs.cps[i']? = some cs.cps[i'] := Array.getElem?_eq_getElem hlt
    refine wpAny_passesOwn hp (wpAny_pyNext_ascii_item st3 hcx fun h' st' sb => ?_)
    obtain ⟨f0, f1, f2, f3, f4, f5⟩ := fp fr3
    have I4 : Inv X pins σ3 H3 { s3 with heap := h', toks := s3.toks + 1 } := I3.turned (fun b o hb e => (sb.2 b hb).trans e) f0 f1 f3 f4 f5
    obtain ⟨oi, e, cc, dd⟩ := id st'
    refine wpAny_passesOwn hp (go_of (s := { s3 with heap := h', toks := s3.toks + 1 }) e cc dd (by decide) ?_)
    have I5 := I4.pinned (stat fr3) (T.obj _ _ st')
    have q6 := step (.str ⟨#[cs.cps[i']]⟩) H3 ⟨rfl, _, hcx, rfl⟩
    refine wpAny_passesOwn hp (wpAny_assign_Name (raw_store I5 hN hi hk (show s3.toks ≠ 0 from Nat.ne_of_gt tk3) (Nat.lt_succ_self s3.toks) fun s6 I6 hw => ?_))
    have tk6 : 1 ≤ s6.toks := by obtain ⟨_, _, t6, _, _, _, hlt6⟩ := hw; exact Nat.lt_of_le_of_lt (Nat.zero_le t6) hlt6
    refine wpAny_passesOwn hp (wpAny_mono (PySem.wpAny_toks_of tk6 (hb _ s6 _ H3 _ hw I6 q6)) (fun f s7 z => ?_) fun _ _ z => z.2)
    obtain ⟨tk7, q7⟩ := z
    have again : ∀ {σ7 : L2.St} {H7 : Hp}, Inv X (pins ++ pinsAt [a] h') σ7 H7 s7 → N σ7 H7 → ∃ m, m < n ∧ ∃ i' σ' H', Inv X pins σ' H' s7 ∧ s7.heap.IsStrIter a "str_ascii_iterator" cs s.toks i' ∧ H' a = none ∧ 1 ≤ s7.toks ∧ W i' m σ' H' := by
      intro σ7 H7 I7 n7
      obtain ⟨m', hm, w7⟩ := hNx σ7 H7 n7
      have pin := fun o (eo : h'.get? a = some o) => I7.pin (a, o) (List.mem_append_right _ (List.mem_append_right _ (mem_pinsAt (List.mem_singleton.mpr rfl) eo)))
      refine ⟨m', hm, i' + 1, σ7, H7, I7.unpinned, T.keep _ _ _ st' fun b hb o eo => ?_, (pin oi e).2.1, tk7, w7⟩
      rw [List.mem_singleton.mp hb] at eo ⊢
      exact (pin o eo).1
    cases f with
    | next => obtain ⟨σ7, H7, I7, n7⟩ := q7; exact again I7 n7
    | cont => obtain ⟨σ7, H7, I7, n7⟩ := q7; exact again I7 n7
    | brk => obtain ⟨σ7, H7, I7, q8⟩ := q7; exact ⟨σ7, H7, I7.unpinned, q8⟩
    | ret v => obtain ⟨x7, σ7, H7, I7, r7, q8⟩ := q7; exact ⟨x7, σ7, H7, I7.unpinned, r7, q8⟩
end
/-! ### the readings -/
theorem replL_one (c z : Nat) : ∀ l : List Nat, replL [c] [z] l = l.map fun d => if d = c then z else d
  | [] => replL_nil
  | d :: l => by
    by_cases h : d = c
    · subst h
      rw [replL_hit (by simp) (by simp)]
      simp only [List.length_cons, List.length_nil, List.drop_succ_cons, List.drop_zero, List.map_cons, if_true]
      rw [replL_one]; rfl
    · rw [replL_miss (by simpa using h), replL_one]
      simp [h]
theorem repl_txt (s : List Nat) (c z : Nat) : Txt.replace ⟨s.toArray⟩ ⟨#[c]⟩ ⟨#[z]⟩ = ⟨(s.map fun d => if d = c then z else d).toArray⟩ := by
  have h := replace_list (x := ⟨s.toArray⟩) (y := ⟨#[c]⟩) (z := ⟨#[z]⟩) (Nat.le_refl 1)
  have h2 : (Txt.replace ⟨s.toArray⟩ ⟨#[c]⟩ ⟨#[z]⟩).cps.toList = s.map fun d => if d = c then z else d := by
    rw [h]; exact replL_one c z s
  rw [← h2, Array.toArray_toList]
section
variable {X : Cx} {y : Str}
structure DER (X : Cx) (y : Str) (e : Expr) (T : DTE) : Prop where
  ex : ∃ t, PER X y e t ∧ SndE X.K t T
structure DAR (X : Cx) (y : Str) (es : List Expr) (T : DTA) : Prop where
  ex : ∃ t, PAR X y es t ∧ SndA X.K t T
structure DSsR (X : Cx) (y : Str) (st : List Stmt) (T : DTS) : Prop where
  ex : ∃ t, PSsR X y st t ∧ SndS X.K t T
theorem der_repl (it i : Nat) {tx cs : Str} {c : Nat} {p1 p2 c0 apos pos : Pos} {j : Nat} (hcs : cs = ⟨#[c]⟩) (hNt : X.N[it]? = some tx := by rfl) (hvt : Vis X.env.scope tx := by first | exact Or.inl rfl | exact Or.inr (Or.inl rfl) | exact Or.inr (Or.inr rfl)) (hNy : X.N[i]? = some y := by rfl) (hk : X.env.scope.names.lookup y = some .local := by rfl)
    (hdt : (tx == ("__debug__" : Str)) = false := by decide) (hct : (tx == ("__classdict__" : Str)) = false := by decide) (hdy : (y == ("__debug__" : Str)) = false := by decide)
    (hst : starEach [.Constant (.str cs) j c0, .Name y p2] X.env = [(false, eval (.Constant (.str cs) j c0) X.env), (false, eval (.Name y p2) X.env)] := by rfl)
    (hbase : attributeBase (.Name tx p1) "replace" X.env (eval (.Name tx p1) X.env) = eval (.Name tx p1) X.env := by rfl) (hline : (apos.endLine == pos.line) = true := by rfl) :
    DER X y (.Call (.Attribute (.Name tx p1) "replace" apos) [.Constant (.str cs) j c0, .Name y p2] [] pos) (dRepl (dVar it) (dVar i) c) := by
  subst hcs
  refine ⟨_, per_repl hNt hvt hNy hk hdt hct hdy hst hbase hline, fun G ads S H σ env k Q cu re h q => ?_⟩
  unfold dRepl dVar at h
  dsimp only at h
  split at h
  · rename_i d he
    obtain ⟨v, h1, h2⟩ := re.2 it d (getE_eq _ _ _ he)
    split at h
    · rename_i d2 he2
      obtain ⟨v2, h3, h4⟩ := re.2 i d2 (getE_eq _ _ _ he2)
      split at h
      · rename_i s z
        simp only [Rep] at h2 h4
        obtain ⟨⟨hcz, hls⟩, hq⟩ := h
        refine ⟨⟨s.toArray⟩, ⟨#[z]⟩, by rw [h1, h2.1]; rfl, by rw [h3, h4.1]; rfl, ?_, ?_, ?_⟩
        · refine beq_eq_false_iff_ne.mpr fun e => hcz ?_
          have e2 : (#[c] : Array Nat) = #[z] := congrArg Str.cps e
          have e3 : [c] = [z] := congrArg Array.toList e2
          exact (List.cons.inj e3).1
        · show s.toArray.size + (s.toArray.size + 1) * 1 ≤ 16777216
          rw [List.size_toArray]; omega
        · rw [repl_txt]
          refine post_val cu q (d := .str _) ?_ hq
          simp only [Rep, strV]
          exact ⟨trivial, by rw [List.length_map]; exact Nat.le_trans hls (by decide)⟩
      · exact h.elim
    · exact h.elim
  · exact h.elim
theorem dar_cons {e : Expr} {es : List Expr} {Te : DTE} {TA' : DTA} (h : DER X y e Te) (h2 : DA X es TA') (hs : starEach (e :: es) X.env = (false, eval e X.env) :: starEach es X.env := by rfl) : DAR X y (e :: es) (aCons Te TA') := by
  obtain ⟨t, p, s⟩ := h.ex
  obtain ⟨u, p2, s2⟩ := h2.ex
  refine ⟨_, par_cons p p2 hs, fun G ads S H σ env k Q c re h q => ?_⟩
  refine s G ads S H σ env _ _ c re h fun ads1 S1 H1 x v c1 e1 r1 k1 => ?_
  exact s2 G ads1 S1 H1 σ env _ _ c1 (repE_evo e1 re) k1 fun ads2 S2 H2 ds vs c2 e2 r2 k2 => q ads2 S2 H2 (x :: ds) (v :: vs) c2 (e1.trans e2) (.cons (rep_evo e2 _ _ r1) r2) k2
theorem dar_name (i : Nat) {x : Str} {p : Pos} {es : List Expr} {TA' : DTA} (h2 : DAR X y es TA') (hNx : X.N[i]? = some x := by rfl) (hv : Vis X.env.scope x := by first | exact Or.inl rfl | exact Or.inr (Or.inl rfl) | exact Or.inr (Or.inr rfl)) (hdx : (x == ("__debug__" : Str)) = false := by decide) (hcx : (x == ("__classdict__" : Str)) = false := by decide)
    (hs : starEach (.Name x p :: es) X.env = (false, eval (.Name x p) X.env) :: starEach es X.env := by rfl) : DAR X y (.Name x p :: es) (aCons (dVar i) TA') := by
  obtain ⟨u, p2, s2⟩ := h2.ex
  refine ⟨_, par_name hNx hv hdx hcx p2 hs, fun G ads S H σ env k Q c re h q => ?_⟩
  unfold aCons dVar at h
  dsimp only at h
  split at h
  · rename_i d he
    obtain ⟨v, h1, h3⟩ := re.2 i d (getE_eq _ _ _ he)
    refine ⟨v, h1, ?_⟩
    exact s2 G ads S H σ env _ _ c re h fun ads2 S2 H2 ds vs c2 e2 r2 k2 => q ads2 S2 H2 (d :: ds) (v :: vs) c2 e2 (.cons (rep_evo e2 _ _ h3) r2) k2
  · exact h.elim
theorem der_tup {es : List Expr} {TA' : DTA} {x1} {pos : Pos} (h : DAR X y es TA') : DER X y (.Tuple es x1 pos) (dTup TA') := by
  obtain ⟨t, p, s⟩ := h.ex
  refine ⟨_, per_tup p, fun G ads S H σ env k Q c re h q => ?_⟩
  refine s G ads S H σ env _ _ c re h fun ads1 S1 H1 ds vs c1 e1 r1 k1 => ⟨by rw [r1.length]; exact k1.1, fun p hp => ?_⟩
  exact post_tup c1 (fun ads2 S2 H2 d w c2 e2 r2 k2 => q ads2 S2 H2 d w c2 (e1.trans e2) r2 k2) hp r1 k1.2
theorem der_call {x : Str} {lvl : Nat} {ps : List Str} {F : FSp} {e : Expr} {es : List Expr} {TA' : DTA} {p pos : Pos} (C : Cal X.prog X.w X.K X.mg X.base x lvl ps F) (hr : Room lvl X.A) (hg : Gl X x) (ha : DAR X y (e :: es) TA') (hdb : (x == ("__debug__" : Str)) = false := by decide)
    (he : starEach (e :: es) X.env = (false, eval e X.env) :: starEach es X.env := by rfl) (hpl : (backTo pos (starEach es X.env)).any (·.1) = false := by rfl) : DER X y (.Call (.Name x p) (e :: es) [] pos) (dCall F TA') := by
  obtain ⟨f, fd, G, hk, hb, hm⟩ := C.ex
  obtain ⟨t, q, s⟩ := ha.ex
  refine ⟨_, per_call (dvs := []) (E := E0) G hr hg hm hk hb .nil pass0 q hdb he hpl, fun G ads S H σ env k Q c re hT q => ?_⟩
  refine s G ads S H σ env _ _ c re hT fun ads1 S1 H1 ds vs c1 e1 r1 k1 => ?_
  rw [List.append_nil]
  exact snd_callP c1 r1 k1 fun ads2 S2 H2 d v c2 e2 r2 k2 => q ads2 S2 H2 d v c2 (e1.trans e2) r2 k2
theorem dssr_set (i : Nat) {x : Str} {e : Expr} {Te : DTE} {px pos : Pos} {rest : List Stmt} {U : DTS} (hN : X.N.Nodup) (h : DER X y e Te) (h2 : DSs X rest U) (hi : X.N[i]? = some x := by rfl) (hx : Loc X.env.scope x := by first | exact Or.inl rfl | exact Or.inr rfl) (hs : swapsWith e (some (.Name x px)) pos.line X.env = pure false := by rfl)
    (hf : X.fn x = true ∨ X.env.scope.names.lookup x = some .local := by first | exact .inl rfl | exact .inr rfl | assumption) : DSsR X y (.Assign [.Name x px] e pos :: rest) (sSeq (sSet i Te) U) := by
  obtain ⟨t, p, s⟩ := h.ex
  obtain ⟨u, p2, s2⟩ := h2.ex
  refine ⟨_, pssr_set hN hi hx p hs hf p2, fun G ads S H σ env E D c re hT q => ?_⟩
  refine s G ads S H σ env _ _ c re hT fun a S' H' d v c' ev r k => ?_
  exact s2 G a S' H' _ _ E D c' (by rw [setE_eq]; exact repE_set (repE_evo ev re) r) k (q.evo ev)
theorem snd_for {K : PySem.W.Frag} {wi : TI} {it : DTI} {g : TG} {Tg : DTG} {tb : TS} {Tb : DTS} {sl : List Nat} (s : SndW K wi it) (sg : SndG K sl g Tg) (sb : SndS K tb Tb) : SndS K (tFor wi g tb) (sFor it Tg Tb) := fun G ads S H σ env E D c re hT q => by
  refine s G ads S H σ env _ _ c re hT fun ads1 S1 H1 J ds c1 e1 wk k1 => ?_
  refine ⟨fun i m σ H => m = ds.length - i ∧ i ≤ ds.length ∧ ∃ ads2 S2 env2, Cur K G ads2 S2 H ∧ Evo ads1 H1 ads2 H ∧ RepE K (mu G ads2) ads2 H env2 σ ∧ forT Tg Tb E (ds.drop i) env2 S2,
    ⟨ds.length, by simp, Nat.zero_le _, ads1, S1, env, c1, Evo.refl _ _, repE_evo e1 re, by simpa using k1⟩, ?_⟩
  rintro i m σ2 H2 ⟨rfl, hile, ads2, S2, env2, c2, ev2, re2, kk⟩
  obtain ⟨wgo, wstop, wy⟩ := wk G ads2 S2 H2 (Wider.refl _ _) c2 ev2
  by_cases hlt : i < ds.length
  · refine .inr ⟨wgo i hlt, fun σ' H' => ∃ m', m' < ds.length - i ∧ (m' = ds.length - (i + 1) ∧ i + 1 ≤ ds.length ∧ ∃ ads2 S2 env2, Cur K G ads2 S2 H' ∧ Evo ads1 H1 ads2 H' ∧ RepE K (mu G ads2) ads2 H' env2 σ' ∧ forT Tg Tb E (ds.drop (i + 1)) env2 S2), fun σ' H' hN => hN, fun x H3 hy => ?_⟩
    obtain ⟨kp3, d, hd, rd⟩ := wy i x H3 hlt hy
    have hcons : ds.drop i = d :: ds.drop (i + 1) := by
      rw [List.drop_eq_getElem_cons hlt]
      have : ds[i] = d := by
        rw [List.getElem?_eq_getElem hlt] at hd
        exact Option.some.inj hd
      rw [this]
    rw [hcons] at kk
    unfold forT at kk
    have ev3 : Evo ads2 H2 ads2 H3 := kp3.evo ads2
    refine sg G ads2 S2 H3 σ2 env2 d x _ _ (c2.keeps kp3) (repE_evo ev3 re2) rd kk fun ads4 S4 H4 env4 σ4 c4 e4 re4 _ _ k4 => ?_
    have evT : Evo ads1 H1 ads4 H4 := ev2.trans (ev3.trans e4)
    have nxt : ∀ a S' H' env' σ', Cur K G a S' H' → Evo ads4 H4 a H' → RepE K (mu G a) a H' env' σ' → forT Tg Tb E (ds.drop (i + 1)) env' S' →
        ∃ m', m' < ds.length - i ∧ (m' = ds.length - (i + 1) ∧ i + 1 ≤ ds.length ∧ ∃ ads2 S2 env2, Cur K G ads2 S2 H' ∧ Evo ads1 H1 ads2 H' ∧ RepE K (mu G ads2) ads2 H' env2 σ' ∧ forT Tg Tb E (ds.drop (i + 1)) env2 S2) :=
      fun a S' H' env' σ' c' v r' k' => ⟨ds.length - (i + 1), by omega, rfl, hlt, a, S', env', c', evT.trans v, r', k'⟩
    have eall : Evo ads H ads4 H4 := e1.trans evT
    exact sb G ads4 S4 H4 σ4 env4 _ _ c4 re4 k4 ⟨nxt, (q.evo eall).rt, (q.evo eall).nx, nxt⟩
  · have ei : i = ds.length := by omega
    subst ei
    rw [List.drop_length] at kk
    exact .inl ⟨wstop, (q.evo e1).nx ads2 S2 H2 env2 σ2 c2 ev2 re2 kk⟩
theorem ds_forRaw (i : Nat) {cs : Str} {l : List Nat} {jc : Nat} {py pc pos : Pos} {body : List Stmt} {Tb : DTS} (hp : PassesOwn (model X.prog X.w) X.A X.env X.xe) (hc : X.calm = true) (hN : X.N.Nodup) (hl : cs = ⟨l.toArray⟩) (hcs : l.all (· < 128) = true) (hb : DSsR X y body Tb)
    (hi : X.N[i]? = some y := by rfl) (hk : X.env.scope.names.lookup y = some .local := by rfl) (hs : ∀ x, foldedSetIterable (.Constant (.str cs) jc pc) X.env x = pure x := by intro _; rfl) :
    DS X (.For (.Name y py) (.Constant (.str cs) jc pc) body [] pos) (sFor (iVal (dC (.str l))) (gName i) Tb) := by
  obtain ⟨tb, pb, sb⟩ := hb.ex
  subst hl
  refine ⟨_, ps_forRaw hp hc hN hi hk (by simpa using hcs) pb hs, snd_for (sl := [i]) (fun G ads S H σ env k R c re hk q => ?_) (fun G ads S H σ env d v k Q c re r h q => ?_) sb⟩
  · exact ⟨_, rfl, q ads S H _ _ c (Evo.refl _ _) walks_str hk⟩
  · refine q ads S H _ _ c (Evo.refl _ _) (by rw [setE_eq]; exact repE_set re r) (fun j hj => ?_) (by simp) h
    exact List.getElem?_set_ne fun e => hj (by rw [e]; exact List.mem_singleton.mpr rfl)
end
end Dat
set_option Elab.async false
set_option linter.all false
set_option maxRecDepth 100000
set_option maxHeartbeats 1000000
/-! DatL: plain lemmas about the data readings. -/
namespace Dat
theorem len_le {n : Nat} (h : n ≤ 100000) : n ≤ line := Nat.le_trans h (by decide)
theorem l1 : 1 ≤ line := by decide
theorem l2 : 2 ≤ line := by decide
theorem l3 : 3 ≤ line := by decide
theorem l4 : 4 ≤ line := by decide
theorem l5 : 5 ≤ line := by decide
theorem l0 : 0 ≤ line := by decide
theorem onO_intro {α : Type} {o : Option α} {k : α → Prop} {a : α} (h : o = some a) (hk : k a) : onO o k := by rw [h]; exact hk
theorem onB_intro {o : Option Bool} {k : Bool → Prop} {a : Bool} (h : o = some a) (hk : k a) : onB o k := by rw [h]; exact hk
theorem br_intro {b : Bool} {x y : Prop} (h1 : b = true → x) (h2 : b = false → y) : br b x y := by
  cases b with
  | true => exact h1 rfl
  | false => exact h2 rfl
theorem br_t {x y : Prop} (h : x) : br true x y := h
theorem br_f {x y : Prop} (h : y) : br false x y := h
theorem br_eq {b c : Bool} {x y : Prop} (e : b = c) (h : br c x y) : br b x y := by rw [e]; exact h

/-! ### pure data -/
theorem purAll_map {α : Type} {f : α → D} (h : ∀ a, (f a).pur = true) : ∀ l : List α, D.purAll (l.map f) = true
  | [] => rfl
  | a :: l => by simp only [List.map_cons, D.purAll, h a, purAll_map h l, Bool.and_self]
theorem purAll_mem {l : List D} (h : ∀ d ∈ l, d.pur = true) : D.purAll l = true := by
  induction l with
  | nil => rfl
  | cons a l ih => simp only [D.purAll, h a (List.mem_cons_self ..), ih fun d hd => h d (List.mem_cons_of_mem _ hd), Bool.and_self]
theorem plnAll_map {α : Type} {f : α → D} (h : ∀ a, (f a).pln = true) : ∀ l : List α, D.plnAll (l.map f) = true
  | [] => rfl
  | a :: l => by simp only [List.map_cons, D.plnAll, h a, plnAll_map h l, Bool.and_self]
theorem depAll_map {α : Type} {f : α → D} {n : Nat} (h : ∀ a, (f a).dep ≤ n) : ∀ l : List α, D.depAll (l.map f) ≤ n
  | [] => Nat.zero_le _
  | a :: l => by simp only [List.map_cons, D.depAll]; exact Nat.max_le.mpr ⟨h a, depAll_map h l⟩
theorem thaw_pur {S : Sto} : ∀ {d : D}, d.pur = true → thaw S d = some d
  | .non, _ => rfl
  | .bl _, _ => rfl
  | .int _, _ => rfl
  | .str _, _ => rfl
  | .scr _, _ => rfl
  | .tup xs, h => by simp only [thaw, h, if_true]
  | .lst xs, h => by simp only [thaw, h, if_true]
  | .own _, h => by simp [D.pur] at h
theorem thawM_pur {S : Sto} : ∀ {d : D}, d.pur = true → thawM S d = some d
  | .non, _ => rfl
  | .bl _, _ => rfl
  | .int _, _ => rfl
  | .str _, _ => rfl
  | .scr _, _ => rfl
  | .tup xs, h => thaw_pur (S := S) h
  | .lst xs, h => thaw_pur (S := S) h
  | .own _, h => by simp [D.pur] at h
/-- a call of a def, as its promise says -/
theorem callP_intro {F : FSp} {ds : List D} {S : Sto} {k : DK} (hp : D.purAll ds = true) {d : D} (hd : d.pur = true) (hk : k d S) (h : ∀ K : DK, K d [] → F ds [] K) : callP F ds S k :=
  ⟨hp, h _ (onO_intro (thaw_pur hd) hk)⟩

/-! ### encodings -/
structure GoodE {α : Type} [DecidableEq α] (e : α → D) (n : Nat) : Prop where
  eqv : ∀ a b, (e a).eqv (e b) = decide (a = b)
  pln : ∀ a, (e a).pln = true
  pur : ∀ a, (e a).pur = true
  dep : ∀ a, (e a).dep ≤ n
theorem eqvAll_map {α : Type} [DecidableEq α] {e : α → D} (h : ∀ a b, (e a).eqv (e b) = decide (a = b)) : ∀ l m : List α, D.eqvAll (l.map e) (m.map e) = decide (l = m)
  | [], [] => by simp [D.eqvAll]
  | [], _ :: _ => by simp [D.eqvAll]
  | _ :: _, [] => by simp [D.eqvAll]
  | a :: l, b :: m => by
    simp only [List.map_cons, D.eqvAll, h a b, eqvAll_map h l m]
    rw [← Bool.decide_and]
    simp
theorem GoodE.lst {α : Type} [DecidableEq α] {e : α → D} {n : Nat} (h : GoodE e n) : GoodE (fun l : List α => D.lst (l.map e)) (n + 1) :=
  ⟨fun a b => by simp only [D.eqv]; exact eqvAll_map h.eqv a b, fun a => by simp only [D.pln]; exact plnAll_map h.pln a, fun a => by simp only [D.pur]; exact purAll_map h.pur a, fun a => by simp only [D.dep]; exact Nat.succ_le_succ (depAll_map h.dep a)⟩
theorem GoodE.tup {α : Type} [DecidableEq α] {e : α → D} {n : Nat} (h : GoodE e n) : GoodE (fun l : List α => D.tup (l.map e)) (n + 1) :=
  ⟨fun a b => by simp only [D.eqv]; exact eqvAll_map h.eqv a b, fun a => by simp only [D.pln]; exact plnAll_map h.pln a, fun a => by simp only [D.pur]; exact purAll_map h.pur a, fun a => by simp only [D.dep]; exact Nat.succ_le_succ (depAll_map h.dep a)⟩
theorem goodInt : GoodE D.int 0 := ⟨fun a b => by simp only [D.eqv]; exact Bool.beq_eq_decide_eq a b, fun _ => rfl, fun _ => rfl, fun _ => by simp [D.dep]⟩
theorem goodStr : GoodE D.str 0 := ⟨fun a b => by simp only [D.eqv]; exact Bool.beq_eq_decide_eq a b, fun _ => rfl, fun _ => rfl, fun _ => by simp [D.dep]⟩
theorem goodBl : GoodE D.bl 0 := ⟨fun a b => by simp only [D.eqv]; exact Bool.beq_eq_decide_eq a b, fun _ => rfl, fun _ => rfl, fun _ => by simp [D.dep]⟩
def encO : Option Int → D
  | none => .non
  | some i => .int i
theorem goodO : GoodE encO 0 := ⟨fun a b => by cases a <;> cases b <;> simp [encO, D.eqv, Bool.beq_eq_decide_eq], fun a => by cases a <;> rfl, fun a => by cases a <;> rfl, fun a => by cases a <;> simp [encO, D.dep]⟩
theorem GoodE.comp {α β : Type} [DecidableEq α] [DecidableEq β] {e : α → D} {n : Nat} (h : GoodE e n) {f : β → α} (hf : ∀ a b, f a = f b → a = b) : GoodE (fun b => e (f b)) n :=
  ⟨fun a b => by rw [h.eqv]; exact decide_eq_decide.mpr ⟨hf a b, fun q => by rw [q]⟩, fun a => h.pln _, fun a => h.pur _, fun a => h.dep _⟩
/-- a == b, a != b of two of one kind -/
theorem eq_good {α : Type} [DecidableEq α] {e : α → D} {n : Nat} (h : GoodE e n) (hn : n ≤ 64 := by decide) {a b : α} {S : Sto} {k : DK} (ha : res S (e a) = e a) (hb : res S (e b) = e b) (hk : k (.bl (decide (a = b))) S) : oEq (e a) (e b) S k := by
  unfold oEq
  rw [ha, hb, h.eqv]
  exact ⟨⟨h.pln a, h.pln b, .inl (Nat.le_trans (h.dep a) hn)⟩, hk⟩
theorem ne_good {α : Type} [DecidableEq α] {e : α → D} {n : Nat} (h : GoodE e n) (hn : n ≤ 64 := by decide) {a b : α} {S : Sto} {k : DK} (ha : res S (e a) = e a) (hb : res S (e b) = e b) (hk : k (.bl (!decide (a = b))) S) : oNe (e a) (e b) S k := by
  unfold oNe
  rw [ha, hb, h.eqv]
  exact ⟨⟨h.pln a, h.pln b, .inl (Nat.le_trans (h.dep a) hn)⟩, hk⟩

/-! ### comprehensions -/
/-- items that give something or nothing, by themselves -/
theorem lc_pure {α : Type} {g : DTG} {tt : DTT} {te : DTE} {env : Env} {S : Sto} {k : List D → Sto → Prop} (e : α → D) (p : α → Bool) (r : α → D) :
    ∀ (xs : List α) (acc : List D), acc.length + xs.length ≤ line →
    (∀ x ∈ xs, ∀ (K1 : DK) (K0 : Sto → Prop), (p x = true → K1 (r x) S) → (p x = false → K0 S) → g (e x) env S fun env2 S1 => tt env2 S1 fun b S2 => br b (te env2 S2 K1) (K0 S2)) →
    k (acc ++ (xs.filter p).map r) S → lcT g tt te env (xs.map e) acc S k
  | [], acc, _, _, hk => by simpa [lcT] using hk
  | x :: xs, acc, hl, h, hk => by
    simp only [List.length_cons] at hl
    have ih := fun acc' hl' hk' => lc_pure e p r (k := k) xs acc' hl' (fun y hy => h y (List.mem_cons_of_mem _ hy)) hk'
    refine h x (List.mem_cons_self ..) (fun y S3 => acc.length < line ∧ lcT g tt te env (xs.map e) (acc ++ [y]) S3 k) (fun S2 => lcT g tt te env (xs.map e) acc S2 k) (fun hp => ⟨by omega, ?_⟩) fun hp => ?_
    · refine ih _ (by simp; omega) ?_
      rw [List.filter_cons, if_pos hp, List.map_cons] at hk
      rw [List.append_assoc]
      exact hk
    · refine ih _ (by omega) ?_
      rw [List.filter_cons, if_neg (by rw [hp]; exact Bool.false_ne_true)] at hk
      exact hk
/-- .. every item gives one -/
theorem lc_map {α : Type} {g : DTG} {tt : DTT} {te : DTE} {env : Env} {S : Sto} {k : List D → Sto → Prop} (e : α → D) (r : α → D) (xs : List α) (hl : xs.length ≤ line)
    (h : ∀ x ∈ xs, ∀ (K1 : DK) (K0 : Sto → Prop), K1 (r x) S → g (e x) env S fun env2 S1 => tt env2 S1 fun b S2 => br b (te env2 S2 K1) (K0 S2))
    (hk : k (xs.map r) S) : lcT g tt te env (xs.map e) [] S k := by
  refine lc_pure e (fun _ => true) r xs [] (by simpa using hl) (fun x hx K1 K0 h1 _ => h x hx K1 K0 (h1 rfl)) ?_
  have : xs.filter (fun _ => true) = xs := List.filter_eq_self.mpr fun _ _ => rfl
  rw [this]
  exact hk
/-- .. while an invariant of the store holds -/
theorem lc_inv {α : Type} {g : DTG} {tt : DTT} {te : DTE} {env : Env} {k : List D → Sto → Prop} (e : α → D) (Iv : Sto → Prop) (P : D → Prop) :
    ∀ (xs : List α) (acc : List D) (S : Sto), acc.length + xs.length ≤ line → Iv S → (∀ y ∈ acc, P y) →
    (∀ x ∈ xs, ∀ S, Iv S → ∀ (K1 : DK) (K0 : Sto → Prop), (∀ y S', P y → Iv S' → K1 y S') → (∀ S', Iv S' → K0 S') → g (e x) env S fun env2 S1 => tt env2 S1 fun b S2 => br b (te env2 S2 K1) (K0 S2)) →
    (∀ ys S', Iv S' → ys.length ≤ acc.length + xs.length → (∀ y ∈ ys, P y) → k ys S') → lcT g tt te env (xs.map e) acc S k
  | [], acc, S, _, hi, hp, _, hk => hk acc S hi (by simp) hp
  | x :: xs, acc, S, hl, hi, hp, h, hk => by
    simp only [List.length_cons] at hl hk
    refine h x (List.mem_cons_self ..) S hi _ _ (fun y S' py hi' => ⟨by omega, ?_⟩) fun S' hi' => ?_
    · refine lc_inv e Iv P xs (acc ++ [y]) S' (by simp; omega) hi' (fun z hz => ?_) (fun y hy => h y (List.mem_cons_of_mem _ hy)) fun ys S' a b c => hk ys S' a (by simp at b; omega) c
      rcases List.mem_append.mp hz with q | q
      · exact hp z q
      · simp at q; subst q; exact py
    · exact lc_inv e Iv P xs acc S' (by omega) hi' hp (fun y hy => h y (List.mem_cons_of_mem _ hy)) fun ys S' a b c => hk ys S' a (by omega) c
/-- .. and every item gives one -/
theorem lc_inv_map {α : Type} {g : DTG} {tt : DTT} {te : DTE} {env : Env} {k : List D → Sto → Prop} (e : α → D) (Iv : Sto → Prop) (P : D → Prop) :
    ∀ (xs : List α) (acc : List D) (S : Sto), acc.length + xs.length ≤ line → Iv S → (∀ y ∈ acc, P y) →
    (∀ x ∈ xs, ∀ S, Iv S → ∀ (K1 : DK) (K0 : Sto → Prop), (∀ y S', P y → Iv S' → K1 y S') → g (e x) env S fun env2 S1 => tt env2 S1 fun b S2 => br b (te env2 S2 K1) (K0 S2)) →
    (∀ ys S', Iv S' → ys.length = acc.length + xs.length → (∀ y ∈ ys, P y) → k ys S') → lcT g tt te env (xs.map e) acc S k
  | [], acc, S, _, hi, hp, _, hk => hk acc S hi (by simp) hp
  | x :: xs, acc, S, hl, hi, hp, h, hk => by
    simp only [List.length_cons] at hl hk
    refine h x (List.mem_cons_self ..) S hi _ _ (fun y S' py hi' => ⟨by omega, ?_⟩)
    refine lc_inv_map e Iv P xs (acc ++ [y]) S' (by simp; omega) hi' (fun z hz => ?_) (fun y hy => h y (List.mem_cons_of_mem _ hy)) fun ys S' a b c => hk ys S' a (by simp at b; omega) c
    rcases List.mem_append.mp hz with q | q
    · exact hp z q
    · simp at q; subst q; exact py
theorem all_enc {β : Type} {enc : β → D} {Q : β → Prop} : ∀ {ys : List D}, (∀ y ∈ ys, ∃ z, y = enc z ∧ Q z) → ∃ zs : List β, ys = zs.map enc ∧ ∀ z ∈ zs, Q z
  | [], _ => ⟨[], rfl, fun z h => nomatch h⟩
  | y :: ys, h => by
    obtain ⟨z, rfl, hz⟩ := h y (List.mem_cons_self ..)
    obtain ⟨zs, rfl, hzs⟩ := all_enc (ys := ys) fun y hy => h y (List.mem_cons_of_mem _ hy)
    exact ⟨z :: zs, rfl, fun w hw => by
      rcases List.mem_cons.mp hw with q | q
      · subst q; exact hz
      · exact hzs w q⟩

/-! ### loops -/
theorem forT_ind {α : Type} {g : DTG} {body : DTS} {E : DEnds} (e : α → D) (Iv : List α → Env → Sto → Prop) (h0 : ∀ env S, Iv [] env S → E.nx env S)
    (hs : ∀ x xs env S, Iv (x :: xs) env S → ∀ N : Env → Sto → Prop, (∀ e s, Iv xs e s → N e s) → g (e x) env S fun env1 S1 => body { nx := N, rt := E.rt, bk := E.nx, ct := N } env1 S1) :
    ∀ xs env S, Iv xs env S → forT g body E (xs.map e) env S
  | [], env, S, h => h0 env S h
  | x :: xs, env, S, h => by
    show g (e x) env S fun env1 S1 => body { nx := forT g body E (xs.map e), rt := E.rt, bk := E.nx, ct := forT g body E (xs.map e) } env1 S1
    exact hs x xs env S h _ fun e' s' h' => forT_ind e Iv h0 hs xs e' s' h'
theorem rng_map (n : Nat) : rngD 0 (n : Int) = (List.range n).map fun (i : Nat) => D.int (i : Int) := by
  unfold rngD
  simp
theorem rng_map2 (a b : Nat) : rngD (a : Int) (b : Int) = ((List.range (b - a)).map fun i => a + i).map fun (i : Nat) => D.int (i : Int) := by
  unfold rngD
  rw [List.map_map]
  have : ((b : Int) - (a : Int)).toNat = b - a := by omega
  rw [this]
  refine List.map_congr_left fun i _ => ?_
  simp
/-- a while, by what it keeps and a number that falls -/
theorem while_ind {t : DTT} {body : DTS} {E : DEnds} (Iv : Env → Sto → Prop) (μ : Env → Sto → Nat) {env : Env} {S : Sto} (h : Iv env S)
    (hs : ∀ env S, Iv env S → ∀ (N : Env → Sto → Prop), (∀ e s, Iv e s → μ e s < μ env S → N e s) → t env S fun b S1 => br b (body { nx := N, rt := E.rt, bk := E.nx, ct := N } env S1) (E.nx env S1)) : sWhile t body E env S := by
  refine ⟨fun m e s => Iv e s ∧ μ e s = m, ⟨_, h, rfl⟩, fun m e s hw => ?_⟩
  obtain ⟨hi, rfl⟩ := hw
  exact hs e s hi _ fun e' s' h' l => ⟨μ e' s', l, h', rfl⟩
theorem blsD_map {α : Type} (f : α → Bool) : ∀ l : List α, blsD (l.map fun a => D.bl (f a)) = some (l.map f)
  | [] => rfl
  | a :: l => by simp only [List.map_cons, blsD, blsD_map f l, Option.map_some]
theorem strsD_map {α : Type} (f : α → List Nat) : ∀ l : List α, strsD (l.map fun a => D.str (f a)) = some (l.map f)
  | [] => rfl
  | a :: l => by simp only [List.map_cons, strsD, strsD_map f l, Option.map_some]
theorem joinS_nil_ones : ∀ l : List Nat, joinS [] (l.map fun c => [c]) = l
  | [] => rfl
  | [_] => rfl
  | c :: d :: l => by
    have ih := joinS_nil_ones (d :: l)
    show [c] ++ [] ++ joinS [] ((d :: l).map fun c => [c]) = _
    rw [ih]; rfl
theorem atI_nat {α : Type} (xs : List α) (i : Nat) (a : α) (h : xs[i]? = some a) : atI xs (i : Int) = some a := by
  have hl := (List.getElem?_eq_some_iff.mp h).1
  unfold atI ixN
  rw [if_pos (by omega), if_pos (by omega)]
  exact h
theorem sIx_nat (n d i : Nat) : sIx n d (some (i : Int)) = min i n := by
  show (if (i : Int) < 0 then ((i : Int) + (n : Int)).toNat else min (i : Int).toNat n) = _
  rw [if_neg (by omega), Int.toNat_natCast]
theorem cut_from {α : Type} (xs : List α) (i : Nat) : cut xs (some (i : Int)) none = xs.drop i := by
  unfold cut
  rw [sIx_nat]
  show List.take (xs.length - _) _ = _
  by_cases h : i ≤ xs.length
  · rw [Nat.min_eq_left h]
    exact List.take_of_length_le (by rw [List.length_drop]; omega)
  · rw [Nat.min_eq_right (by omega), List.drop_length, List.drop_eq_nil_of_le (by omega)]
    simp
theorem cut_to {α : Type} (xs : List α) (i : Nat) : cut xs none (some (i : Int)) = xs.take i := by
  unfold cut
  rw [sIx_nat]
  show List.take (min i xs.length - 0) (List.drop 0 xs) = _
  rw [List.drop_zero, Nat.sub_zero]
  by_cases h : i ≤ xs.length
  · rw [Nat.min_eq_left h]
  · rw [Nat.min_eq_right (by omega), List.take_length, List.take_of_length_le (by omega)]
end Dat
set_option Elab.async false
set_option linter.all false
/-! BodA: bodies of defs (printed by gen.py). -/
namespace Dat
@[reducible] def g_01 {α : Type} : List α → List α | [a, b] => [a, b] | l => l
@[reducible] def g_10 {α : Type} : List α → List α | [a, b] => [b, a] | l => l
@[reducible] def g_102 {α : Type} : List α → List α | [a, b, c] => [b, a, c] | l => l
@[reducible] def g_210 {α : Type} : List α → List α | [a, b, c] => [c, b, a] | l => l
@[reducible] def g_3210 {α : Type} : List α → List α | [a, b, c, d] => [d, c, b, a] | l => l
@[reducible] def b_common : DTS :=
    sSeq (sWhile (tBl (dOp oNe (dVar 1) (dC (.int 0)))) (sPar 0 1 (dVar 1) (dOp oMod (dVar 0) (dVar 1))))
    (sRet (dVar 0))

@[reducible] def b_goes_round (F_common : FSp) : DTS :=
    sRet (dOp oDiv (dVar 0) (dCall F_common (aCons (dVar 0) (aCons (dCB cAbs (aCons (dVar 1) (aNil))) (aNil)))))

@[reducible] def b_sign_at : DTS :=
    sSeq (sAsg (gTup 3 (gCons (gName 3) (gCons (gName 4) (gCons (gName 5) (gNil))))) (dVar 0))
    (sRet (dOp oIdx (dVar 3) (dOp oMod (dOp oAdd (dOp oAdd (dVar 5) (dVar 1)) (dOp oMul (dVar 4) (dVar 2))) (dCB cLen (aCons (dVar 3) (aNil))))))

@[reducible] def b_is_open (F_sign_at : FSp) : DTS :=
    sRet (dCB cAll (aCons (dNew (nLc (iVal (dVar 0)) (gName 3) (tYes) (dOp oEq (dCall F_sign_at (aCons (dVar 3) (aCons (dVar 1) (aCons (dVar 2) (aNil))))) (dC (.str [46]))) [3])) (aNil)))

@[reducible] def b_row (F_is_open : FSp) : DTS :=
    sRet (dJoin (dC (.str [])) (dNew (nLc (iRng1 (dVar 1)) (gName 3) (tYes) (dIf (tTru (dCall F_is_open (aCons (dVar 0) (aCons (dVar 3) (aCons (dVar 2) (aNil)))))) (dC (.str [46])) (dC (.str [35]))) [3])))

@[reducible] def b_whole_round (F_goes_round F_common : FSp) : DTS :=
    sSeq (sSet 1 (dC (.int 1)))
    (sSeq (sFor (iVal (dVar 0)) (gName 2) (sFor (iVal (dVar 2)) (gTup 3 (gCons (gName 3) (gCons (gName 4) (gCons (gName 5) (gNil))))) (sSeq (sSet 6 (dCall F_goes_round (aCons (dCB cLen (aCons (dVar 3) (aNil))) (aCons (dVar 4) (aNil)))))
    (sSet 1 (dOp oDiv (dOp oMul (dVar 1) (dVar 6)) (dCall F_common (aCons (dVar 1) (aCons (dVar 6) (aNil)))))))))
    (sRet (dVar 1)))

@[reducible] def b_round_of (F_whole_round F_row : FSp) : DTS :=
    sSeq (sSet 2 (dCall F_whole_round (aCons (dNew (nLst (aCons (dVar 0) (aNil)))) (aNil))))
    (sSeq (sSet 3 (dNew (nLc (iRng1 (dVar 2)) (gName 5) (tYes) (dCall F_row (aCons (dVar 0) (aCons (dVar 1) (aCons (dVar 5) (aNil))))) [5])))
    (sSeq (sFor (iRng2 (dC (.int 1)) (dVar 2)) (gName 4) (sIf (tAnd (tBl (dOp oEq (dOp oMod (dVar 2) (dVar 4)) (dC (.int 0)))) (tBl (dOp oEq (dSl (dVar 3) (pSo (dVar 4)) (pNo)) (dSl (dVar 3) (pNo) (pSo (dOp oSub (dVar 2) (dVar 4))))))) (sRet (dVar 4)) (sNext)))
    (sRet (dVar 2))))

@[reducible] def b_how_often (F_whole_round F_is_open : FSp) : DTS :=
    sSeq (sSet 4 (dCall F_whole_round (aCons (dNew (nLst (aCons (dVar 0) (aNil)))) (aNil))))
    (sSeq (sSet 5 (dNew (nLc (iRng1 (dVar 4)) (gName 7) (tYes) (dCall F_is_open (aCons (dVar 0) (aCons (dVar 1) (aCons (dVar 7) (aNil))))) [7])))
    (sSeq (sSet 6 (dOp oMul (dOp oDiv (dOp oSub (dVar 3) (dVar 2)) (dVar 4)) (dCB cLen (aCons (dNew (nLc (iVal (dVar 5)) (gName 8) (tTru (dVar 8)) (dC (.int 1)) [8])) (aNil)))))
    (sRet (dOp oAdd (dVar 6) (dCB cLen (aCons (dNew (nLc (iRng1 (dOp oMod (dOp oSub (dVar 3) (dVar 2)) (dVar 4))) (gName 7) (tTru (dOp oIdx (dVar 5) (dOp oMod (dOp oAdd (dVar 2) (dVar 7)) (dVar 4)))) (dC (.int 1)) [7])) (aNil)))))))

@[reducible] def b_next_open (F_whole_round F_is_open : FSp) : DTS :=
    sSeq (sFor (iRng1 (dCall F_whole_round (aCons (dNew (nLst (aCons (dVar 0) (aNil)))) (aNil)))) (gName 3) (sIf (tTru (dCB cAll (aCons (dNew (nLc (iVal (dVar 1)) (gName 4) (tYes) (dCall F_is_open (aCons (dVar 0) (aCons (dVar 4) (aCons (dOp oAdd (dVar 2) (dVar 3)) (aNil))))) [4])) (aNil)))) (sRet (dOp oAdd (dVar 2) (dVar 3))) (sNext)))
    (sRet (dC .non))

@[reducible] def b_law_draws : DTS :=
    sSeq (sSet 2 (dOp oMul (dC (.int 15485863)) (dVar 1)))
    (sSeq (sIf (tBl (dOp oLt (dVar 1) (dCB cLen (aCons (dVar 0) (aNil))))) (sSet 2 (dOp oMod (dOp oIdx (dVar 0) (dVar 1)) (dOp oMul (dOp oMul (dOp oMul (dOp oMul (dOp oPow (dC (.int 10)) (dC (.int 60))) (dOp oPow (dC (.int 10)) (dC (.int 60)))) (dOp oPow (dC (.int 10)) (dC (.int 60)))) (dOp oPow (dC (.int 10)) (dC (.int 60)))) (dOp oPow (dC (.int 10)) (dC (.int 60)))))) (sIf (tBl (dOp oGt (dCB cLen (aCons (dVar 0) (aNil))) (dC (.int 0)))) (sSet 2 (dOp oAdd (dOp oMod (dOp oIdx (dVar 0) (dOp oMod (dVar 1) (dCB cLen (aCons (dVar 0) (aNil))))) (dOp oPow (dC (.int 10)) (dC (.int 15)))) (dOp oMul (dC (.int 15485863)) (dVar 1)))) (sNext)))
    (sRetN (nLst (aCons (dOp oMul (dVar 2) (dCB cInt (aCons (dOp oGe (dVar 2) (dOp oPow (dC (.int 10)) (dC (.int 18)))) (aNil)))) (aCons (dOp oAdd (dC (.int 1)) (dOp oMod (dOp oAdd (dOp oMul (dVar 2) (dC (.int 69621))) (dOp oMul (dC (.int 86028121)) (dOp oAdd (dVar 1) (dC (.int 1))))) (dC (.int 2147483646)))) (aNil))))))

@[reducible] def b_law_draw : DTS :=
    sSeq (sIf (tBl (dOp oGt (dOp oIdx (dVar 0) (dC (.int 0))) (dC (.int 0)))) (sSeq (sSet 2 (dOp oMod (dOp oIdx (dVar 0) (dC (.int 0))) (dVar 1)))
    (sSeq (sStore (dVar 0) (dC (.int 0)) (dOp oDiv (dOp oIdx (dVar 0) (dC (.int 0))) (dVar 1)))
    (sRet (dVar 2)))) (sNext))
    (sSeq (sSet 2 (dC (.int 0)))
    (sSeq (sSet 3 (dC (.int 1)))
    (sSeq (sWhile (tBl (dOp oLt (dVar 3) (dVar 1))) (sSeq (sStore (dVar 0) (dC (.int 1)) (dOp oMod (dOp oMul (dOp oIdx (dVar 0) (dC (.int 1))) (dC (.int 69621))) (dC (.int 2147483647))))
    (sSeq (sSet 2 (dOp oAdd (dOp oMul (dVar 2) (dC (.int 268435456))) (dOp oDiv (dOp oMod (dOp oMul (dOp oIdx (dVar 0) (dC (.int 1))) (dOp oAdd (dOp oDiv (dOp oIdx (dVar 0) (dC (.int 1))) (dC (.int 128))) (dC (.int 3)))) (dC (.int 2147483629))) (dC (.int 8)))))
    (sSet 3 (dOp oMul (dVar 3) (dC (.int 268435456)))))))
    (sRet (dOp oMod (dVar 2) (dVar 1))))))

@[reducible] def b_law_pattern (F_law_draw : FSp) : DTS :=
    sSeq (sSet 2 (dOp oIdx (dNew (nLst (aCons (dC (.int 1)) (aCons (dC (.int 2)) (aCons (dC (.int 4)) (aCons (dC (.int 9)) (aNil))))))) (dCallM F_law_draw (aCons (dVar 0) (aCons (dC (.int 4)) (aNil))))))
    (sSeq (sSet 3 (dNew (nLc (iRng1 (dOp oAdd (dC (.int 1)) (dCallM F_law_draw (aCons (dVar 0) (aCons (dVar 1) (aNil)))))) (gName 4) (tYes) (dIf (tBl (dOp oEq (dCallM F_law_draw (aCons (dVar 0) (aCons (dOp oAdd (dVar 2) (dC (.int 1))) (aNil)))) (dC (.int 0)))) (dC (.str [35])) (dC (.str [46]))) [4])))
    (sRet (dJoin (dC (.str [])) (dVar 3))))

@[reducible] def b_law_sheet (F_law_pattern F_law_draw : FSp) : DTS :=
    sSeq (sSet 2 (dCallM F_law_pattern (aCons (dVar 0) (aCons (dVar 1) (aNil)))))
    (sSeq (sSet 3 (dOp oIdx (dNew (nLst (aCons (dOp oSub (dCallM F_law_draw (aCons (dVar 0) (aCons (dC (.int 21)) (aNil)))) (dC (.int 10))) (aCons (dC (.int 1)) (aCons (dOp oSub (dCallM F_law_draw (aCons (dVar 0) (aCons (dC (.int 3)) (aNil)))) (dC (.int 1))) (aNil)))))) (dCallM F_law_draw (aCons (dVar 0) (aCons (dC (.int 3)) (aNil))))))
    (sRet (dTup (aCons (dVar 2) (aCons (dVar 3) (aCons (dCallM F_law_draw (aCons (dVar 0) (aCons (dCB cLen (aCons (dVar 2) (aNil))) (aNil)))) (aNil)))))))

@[reducible] def b_law_stack (F_law_draw F_law_sheet : FSp) : DTS :=
    sRet (dCB cTup (aCons (dNew (nLc (iRng1 (dOp oAdd (dC (.int 1)) (dCallM F_law_draw (aCons (dVar 0) (aCons (dVar 1) (aNil)))))) (gName 3) (tYes) (dCallM F_law_sheet (aCons (dVar 0) (aCons (dVar 2) (aNil)))) [3])) aNil))

@[reducible] def b_law_sign : DTS :=
    sSeq (sAsg (gTup 3 (gCons (gName 3) (gCons (gName 4) (gCons (gName 5) (gNil))))) (dVar 0))
    (sRet (dOp oIdx (dVar 3) (dOp oMod (dOp oAdd (dOp oAdd (dVar 5) (dVar 1)) (dOp oMul (dVar 4) (dVar 2))) (dCB cLen (aCons (dVar 3) (aNil))))))

@[reducible] def b_law_row (F_law_sign : FSp) : DTS :=
    sSeq (sSet 3 (dC (.str [])))
    (sSeq (sFor (iRng1 (dVar 1)) (gName 4) (sSeq (sSet 5 (dNew (nLc (iVal (dVar 0)) (gName 6) (tYes) (dCall F_law_sign (aCons (dVar 6) (aCons (dVar 4) (aCons (dVar 2) (aNil))))) [6])))
    (sSet 3 (dOp oAdd (dVar 3) (dIf (tBl (dOp oIn (dC (.str [35])) (dVar 5))) (dC (.str [35])) (dC (.str [46])))))))
    (sRet (dVar 3)))

@[reducible] def b_law_beats : DTS :=
    sSeq (sSet 1 (dC (.int 1)))
    (sSeq (sWhile (tBl (dOp oNe (dOp oMod (dOp oMul (dOp oIdx (dVar 0) (dC (.int 1))) (dVar 1)) (dCB cLen (aCons (dOp oIdx (dVar 0) (dC (.int 0))) (aNil)))) (dC (.int 0)))) (sSet 1 (dOp oAdd (dVar 1) (dC (.int 1)))))
    (sRet (dVar 1)))

@[reducible] def b_law_whole (F_law_beats : FSp) : DTS :=
    sSeq (sSet 1 (dC (.int 1)))
    (sSeq (sFor (iVal (dVar 0)) (gName 2) (sFor (iVal (dVar 2)) (gName 3) (sSeq (sSet 4 (dVar 1))
    (sWhile (tBl (dOp oNe (dOp oMod (dVar 1) (dCall F_law_beats (aCons (dVar 3) (aNil)))) (dC (.int 0)))) (sSet 1 (dOp oAdd (dVar 1) (dVar 4)))))))
    (sRet (dVar 1)))

@[reducible] def b_law_rows (F_law_whole F_law_row : FSp) : DTS :=
    sRet (dNew (nLc (iRng1 (dCall F_law_whole (aCons (dNew (nLst (aCons (dVar 0) (aNil)))) (aNil)))) (gName 2) (tYes) (dCall F_law_row (aCons (dVar 0) (aCons (dVar 1) (aCons (dVar 2) (aNil))))) [2]))

@[reducible] def b_law_least_round : DTS :=
    sSeq (sFor (iRng2 (dC (.int 1)) (dOp oAdd (dCB cLen (aCons (dVar 0) (aNil))) (dC (.int 1)))) (gName 1) (sIf (tAnd (tBl (dOp oEq (dOp oMod (dCB cLen (aCons (dVar 0) (aNil))) (dVar 1)) (dC (.int 0)))) (tBl (dOp oEq (dOp oAdd (dSl (dVar 0) (pSo (dVar 1)) (pNo)) (dSl (dVar 0) (pNo) (pSo (dVar 1)))) (dVar 0)))) (sRet (dVar 1)) (sNext)))
    (sRet (dCB cLen (aCons (dVar 0) (aNil))))

@[reducible] def b_law_first_open : DTS :=
    sSeq (sFor (iRng1 (dCB cLen (aCons (dVar 0) (aNil)))) (gName 3) (sIf (tBl (dOp oEq (dNew (nLc (iVal (dVar 1)) (gName 4) (tBl (dOp oEq (dOp oIdx (dOp oIdx (dVar 0) (dOp oMod (dOp oAdd (dVar 2) (dVar 3)) (dCB cLen (aCons (dVar 0) (aNil))))) (dVar 4)) (dC (.str [35])))) (dC (.int 1)) [4])) (dNew (nLst (aNil))))) (sRet (dOp oAdd (dVar 2) (dVar 3))) (sNext)))
    (sRet (dC .non))

@[reducible] def b_law_k02 (F_law_draws F_law_draw F_law_stack F_law_whole F_law_rows F_row F_law_row F_round_of F_law_least_round F_how_often F_next_open F_law_first_open : FSp) : DTS :=
    sSeq (sFor (iRng1 (dCB cMax2 (aCons (dC (.int 1)) (aCons (dCB cMin2 (aCons (dC (.int 8)) (aCons (dCB cLen (aCons (dVar 0) (aNil))) (aNil)))) (aNil))))) (gName 1) (sSeq (sOwn 2 (nCall F_law_draws (aCons (dVar 0) (aCons (dVar 1) (aNil)))))
    (sSeq (sAsg (gTup 2 (gCons (gName 3) (gCons (gName 4) (gNil)))) (dTup (aCons (dCallM F_law_stack (aCons (dVar 2) (aCons (dC (.int 4)) (aCons (dC (.int 10)) (aNil))))) (aCons (dOp oAdd (dC (.int 1)) (dCallM F_law_draw (aCons (dVar 2) (aCons (dC (.int 8)) (aNil))))) (aNil)))))
    (sSeq (sAsg (gTup 2 (gCons (gName 5) (gCons (gName 6) (gNil)))) (dTup (aCons (dCall F_law_rows (aCons (dVar 3) (aCons (dC (.int 8)) (aNil)))) (aCons (dCall F_law_whole (aCons (dNew (nLst (aCons (dVar 3) (aNil)))) (aNil))) (aNil)))))
    (sSeq (sFor (iVal (dNew (nLst (aCons (dC (.int 0)) (aCons (dC (.int 1)) (aCons (dCallM F_law_draw (aCons (dVar 2) (aCons (dC (.int 99)) (aNil)))) (aCons (dCallM F_law_draw (aCons (dVar 2) (aCons (dOp oPow (dC (.int 10)) (dC (.int 18))) (aNil)))) (aCons (dOp oPow (dC (.int 10)) (dC (.int 18))) (aNil))))))))) (gName 7) (sSeq (sIf (tBl (dOp oNe (dCall F_row (aCons (dVar 3) (aCons (dVar 4) (aCons (dVar 7) (aNil))))) (dCall F_law_row (aCons (dVar 3) (aCons (dVar 4) (aCons (dVar 7) (aNil))))))) (sRet (dC (.bl false))) (sNext))
    (sIf (tBl (dOp oNe (dCallK 3 g_210 F_row (aCons (dVar 7) (aCons (dVar 4) (aCons (dVar 3) (aNil))))) (dSl (dOp oIdx (dVar 5) (dOp oMod (dVar 7) (dVar 6))) (pNo) (pSo (dVar 4))))) (sRet (dC (.bl false))) (sNext))))
    (sSeq (sSet 8 (dNew (nLc (iVal (dVar 5)) (gName 15) (tYes) (dSl (dVar 15) (pNo) (pSo (dVar 4))) [15])))
    (sSeq (sIf (tBl (dOp oNe (dCall F_round_of (aCons (dVar 3) (aCons (dVar 4) (aNil)))) (dCall F_law_least_round (aCons (dVar 8) (aNil))))) (sRet (dC (.bl false))) (sNext))
    (sSeq (sSet 9 (dCallM F_law_draw (aCons (dVar 2) (aCons (dC (.int 8)) (aNil)))))
    (sSeq (sSet 10 (dNew (nLc (iRng1 (dVar 6)) (gName 16) (tBl (dOp oEq (dOp oIdx (dOp oIdx (dVar 5) (dVar 16)) (dVar 9)) (dC (.str [46])))) (dVar 16) [16])))
    (sSeq (sFor (iVal (dNew (nLst (aCons (dC (.int 0)) (aCons (dCallM F_law_draw (aCons (dVar 2) (aCons (dC (.int 99)) (aNil)))) (aCons (dOp oAdd (dOp oPow (dC (.int 10)) (dC (.int 17))) (dCallM F_law_draw (aCons (dVar 2) (aCons (dOp oPow (dC (.int 10)) (dC (.int 9))) (aNil))))) (aNil))))))) (gName 11) (sSeq (sSet 12 (dOp oIdx (dNew (nLst (aCons (dC (.int 0)) (aCons (dC (.int 1)) (aCons (dCallM F_law_draw (aCons (dVar 2) (aCons (dC (.int 300)) (aNil)))) (aCons (dVar 6) (aCons (dCallM F_law_draw (aCons (dVar 2) (aCons (dOp oPow (dC (.int 10)) (dC (.int 15))) (aNil)))) (aNil)))))))) (dCallM F_law_draw (aCons (dVar 2) (aCons (dC (.int 5)) (aNil))))))
    (sSeq (sSet 13 (dOp oMul (dOp oDiv (dVar 12) (dVar 6)) (dCB cLen (aCons (dVar 10) (aNil)))))
    (sSeq (sSet 13 (dOp oAdd (dVar 13) (dCB cLen (aCons (dNew (nLc (iRng1 (dOp oMod (dVar 12) (dVar 6))) (gName 16) (tBl (dOp oEq (dOp oIdx (dOp oIdx (dVar 5) (dOp oMod (dOp oAdd (dVar 11) (dVar 16)) (dVar 6))) (dVar 9)) (dC (.str [46])))) (dVar 16) [16])) (aNil)))))
    (sSeq (sIf (tBl (dOp oNe (dCall F_how_often (aCons (dVar 3) (aCons (dVar 9) (aCons (dVar 11) (aCons (dOp oAdd (dVar 11) (dVar 12)) (aNil)))))) (dVar 13))) (sRet (dC (.bl false))) (sNext))
    (sSeq (sSet 14 (dCB cTup (aCons (dNew (nLc (iRng1 (dC (.int 8))) (gName 15) (tBl (dOp oEq (dCallM F_law_draw (aCons (dVar 2) (aCons (dC (.int 3)) (aNil)))) (dC (.int 0)))) (dVar 15) [15])) aNil)))
    (sIf (tBl (dOp oNe (dCall F_next_open (aCons (dVar 3) (aCons (dVar 14) (aCons (dVar 11) (aNil))))) (dCall F_law_first_open (aCons (dVar 5) (aCons (dVar 14) (aCons (dVar 11) (aNil))))))) (sRet (dC (.bl false))) (sNext))))))))
    (sIf (tOr (tBl (dOp oNe (dCallK 3 g_102 F_next_open (aCons (dTup (aNil)) (aCons (dVar 3) (aCons (dC (.int 5)) (aNil))))) (dC (.int 5)))) (tBl (dOp oNe (dCallK 4 g_3210 F_how_often (aCons (dC (.int 9)) (aCons (dC (.int 9)) (aCons (dC (.int 0)) (aCons (dVar 3) (aNil)))))) (dC (.int 0))))) (sRet (dC (.bl false))) (sNext))))))))))))
    (sRet (dC (.bl true)))

end Dat
set_option Elab.async false
set_option linter.all false
/-! BodB: bodies of defs (printed by gen.py). -/
namespace Dat
@[reducible] def b_shutting (F_goes_round F_sign_at : FSp) : DTS :=
    sSeq (sOwn 2 (nLst (aNil)))
    (sSeq (sFor (iEnum (dVar 0)) (gTup 2 (gCons (gName 3) (gCons (gName 4) (gNil)))) (sFor (iRng1 (dCall F_goes_round (aCons (dCB cLen (aCons (dOp oIdx (dVar 4) (dC (.int 0))) (aNil))) (aCons (dOp oIdx (dVar 4) (dC (.int 1))) (aNil))))) (gName 5) (sIf (tBl (dOp oIn (dC (.str [35])) (dNew (nLc (iVal (dVar 1)) (gName 6) (tYes) (dCall F_sign_at (aCons (dVar 4) (aCons (dVar 6) (aCons (dVar 5) (aNil))))) [6])))) (sDrop (dApp (dVar 2) (dTup (aCons (dVar 3) (aCons (dVar 5) (aNil)))))) (sNext))))
    (sRet (dVar 2)))

@[reducible] def b_covers (F_goes_round F_whole_round : FSp) : DTS :=
    sSeq (sSet 2 (dNew (nLc (iVal (dVar 0)) (gName 4) (tYes) (dCall F_goes_round (aCons (dCB cLen (aCons (dOp oIdx (dVar 4) (dC (.int 0))) (aNil))) (aCons (dOp oIdx (dVar 4) (dC (.int 1))) (aNil)))) [4])))
    (sSeq (sFor (iRng1 (dCall F_whole_round (aCons (dNew (nLst (aCons (dVar 0) (aNil)))) (aNil)))) (gName 3) (sIf (tNot (tTru (dCB cAny (aCons (dNew (nLc (iVal (dVar 1)) (gTup 2 (gCons (gName 5) (gCons (gName 6) (gNil)))) (tYes) (dOp oEq (dOp oMod (dVar 3) (dOp oIdx (dVar 2) (dVar 5))) (dVar 6)) [5, 6])) (aNil))))) (sRet (dC (.bl false))) (sNext)))
    (sRet (dC (.bl true))))

@[reducible] def b_cover (F_next_open F_shutting F_covers : FSp) : DTS :=
    sSeq (sIf (tBl (dNotN (dCall F_next_open (aCons (dVar 0) (aCons (dVar 1) (aCons (dC (.int 0)) (aNil))))))) (sRet (dC .non)) (sNext))
    (sSeq (sSet 2 (dCall F_shutting (aCons (dVar 0) (aCons (dVar 1) (aNil)))))
    (sSeq (sFor (iVal (dNew (nCpy (dVar 2)))) (gName 3) (sSeq (sSet 4 (dNew (nLc (iVal (dVar 2)) (gName 5) (tBl (dOp oNe (dVar 5) (dVar 3))) (dVar 5) [5])))
    (sIf (tTru (dCall F_covers (aCons (dVar 0) (aCons (dVar 4) (aNil))))) (sSet 2 (dVar 4)) (sNext))))
    (sRet (dCB cTup (aCons (dVar 2) aNil)))))

@[reducible] def b_law_of (F_law_draw : FSp) : DTS :=
    sRet (dOp oIdx (dVar 1) (dCallM F_law_draw (aCons (dVar 0) (aCons (dCB cLen (aCons (dVar 1) (aNil))) (aNil)))))

@[reducible] def b_law_product : DTS :=
    sSeq (sSet 1 (dC (.int 1)))
    (sSeq (sFor (iVal (dVar 0)) (gName 2) (sSet 1 (dOp oMul (dVar 1) (dVar 2))))
    (sRet (dVar 1)))

@[reducible] def b_law_k04 (F_law_draws F_law_draw F_law_pattern F_law_of F_law_product F_how_often F_next_open F_law_sign F_cover : FSp) : DTS :=
    sSeq (sFor (iRng1 (dCB cMax2 (aCons (dC (.int 1)) (aCons (dCB cMin2 (aCons (dC (.int 10)) (aCons (dCB cLen (aCons (dVar 0) (aNil))) (aNil)))) (aNil))))) (gName 1) (sSeq (sOwn 2 (nCall F_law_draws (aCons (dVar 0) (aCons (dVar 1) (aNil)))))
    (sSeq (sOwn 3 (nLst (aNil)))
    (sSeq (sFor (iVal (dNew (nLst (aCons (dC (.int 3)) (aCons (dC (.int 4)) (aCons (dC (.int 5)) (aCons (dC (.int 7)) (aNil)))))))) (gName 4) (sIf (tOr (tBl (dOp oGt (dCallM F_law_draw (aCons (dVar 2) (aCons (dC (.int 3)) (aNil)))) (dC (.int 0)))) (tAnd (tBl (dOp oEq (dVar 4) (dC (.int 7)))) (tBl (dOp oEq (dVar 3) (dNew (nLst (aNil))))))) (sSeq (sSet 5 (dSl (dOp oMul (dCallM F_law_pattern (aCons (dVar 2) (aCons (dC (.int 10)) (aNil)))) (dC (.int 10))) (pNo) (pSo (dVar 4))))
    (sSeq (sSet 6 (dCallM F_law_of (aCons (dVar 2) (aCons (dNew (nLst (aCons (dC (.int 1)) (aCons (dUn uNeg (dC (.int 1))) (aCons (dIf (tBl (dOp oLt (dVar 4) (dC (.int 10)))) (dOp oAdd (dVar 4) (dC (.int 1))) (dC (.int 1))) (aCons (dOp oSub (dC (.int 1)) (dVar 4)) (aNil))))))) (aNil)))))
    (sDrop (dApp (dVar 3) (dTup (aCons (dVar 5) (aCons (dVar 6) (aCons (dCallM F_law_draw (aCons (dVar 2) (aCons (dVar 4) (aNil)))) (aNil))))))))) (sNext)))
    (sSeq (sSet 3 (dCB cTup (aCons (dVar 3) aNil)))
    (sSeq (sSet 7 (dCall F_law_product (aCons (dNew (nLc (iVal (dVar 3)) (gName 14) (tYes) (dCB cLen (aCons (dOp oIdx (dVar 14) (dC (.int 0))) (aNil))) [14])) (aNil))))
    (sSeq (sPar 8 9 (dCallM F_law_draw (aCons (dVar 2) (aCons (dC (.int 8)) (aNil)))) (dCallM F_law_draw (aCons (dVar 2) (aCons (dOp oPow (dC (.int 10)) (dC (.int 15))) (aNil)))))
    (sSeq (sSet 10 (dOp oAdd (dC (.int 1)) (dCallM F_law_draw (aCons (dVar 2) (aCons (dC (.int 1000)) (aNil))))))
    (sSeq (sSet 11 (dOp oMul (dVar 10) (dCall F_law_product (aCons (dNew (nLc (iVal (dVar 3)) (gName 14) (tYes) (dCount (dOp oIdx (dVar 14) (dC (.int 0))) (dC (.str [46]))) [14])) (aNil)))))
    (sSeq (sIf (tOr (tBl (dOp oNe (dCall F_how_often (aCons (dVar 3) (aCons (dVar 8) (aCons (dVar 9) (aCons (dOp oAdd (dVar 9) (dOp oMul (dVar 10) (dVar 7))) (aNil)))))) (dVar 11))) (tBl (dOp oNe (dIsN (dCall F_next_open (aCons (dVar 3) (aCons (dTup (aCons (dVar 8) (aNil))) (aCons (dVar 9) (aNil)))))) (dOp oEq (dVar 11) (dC (.int 0)))))) (sRet (dC (.bl false))) (sNext))
    (sSeq (sSet 12 (dCB cTup (aCons (dNew (nLc (iRng1 (dC (.int 8))) (gName 16) (tBl (dOp oEq (dCallM F_law_draw (aCons (dVar 2) (aCons (dC (.int 4)) (aNil)))) (dC (.int 0)))) (dVar 16) [16])) aNil)))
    (sSeq (sOwn 13 (nLst (aNil)))
    (sSeq (sFor (iVal (dVar 3)) (gName 14) (sSeq (sSet 15 (dNew (nLc (iRng1 (dCB cLen (aCons (dOp oIdx (dVar 14) (dC (.int 0))) (aNil)))) (gName 17) (tBl (dOp oNotIn (dC (.str [35])) (dNew (nLc (iVal (dVar 12)) (gName 8) (tYes) (dCall F_law_sign (aCons (dVar 14) (aCons (dVar 8) (aCons (dVar 17) (aNil))))) [8])))) (dVar 17) [17])))
    (sDrop (dApp (dVar 13) (dCB cLen (aCons (dVar 15) (aNil)))))))
    (sIf (tOr (tBl (dOp oNe (dIsN (dCall F_next_open (aCons (dVar 3) (aCons (dVar 12) (aCons (dVar 9) (aNil)))))) (dOp oIn (dC (.int 0)) (dVar 13)))) (tBl (dOp oNe (dIsN (dCall F_cover (aCons (dVar 3) (aCons (dVar 12) (aNil))))) (dOp oNotIn (dC (.int 0)) (dVar 13))))) (sRet (dC (.bl false))) (sNext)))))))))))))))
    (sRet (dC (.bl true)))

end Dat
set_option Elab.async false
set_option linter.all false
/-! BodD: bodies of defs (printed by gen.py). -/
namespace Dat
@[reducible] def b_is_between : DTS :=
    sRet (dAnd (dIsa (dVar 0) [.int]) (dAnd (dNot (tTru (dIsa (dVar 0) [.bool]))) (dChain oLe oLe (dVar 1) (dVar 0) (dVar 2))))

@[reducible] def b_rises : DTS :=
    sRet (dCB cAll (aCons (dNew (nLc (iZip (dVar 0) (dSl (dVar 0) (pSo (dC (.int 1))) (pNo))) (gTup 2 (gCons (gName 1) (gCons (gName 2) (gNil)))) (tYes) (dOp oLt (dVar 1) (dVar 2)) [1, 2])) (aNil)))

@[reducible] def b_is_class (F_is_between : FSp) : DTS :=
    sRet (dAnd (dIsa (dVar 0) [.tuple]) (dAnd (dOp oEq (dCB cLen (aCons (dVar 0) (aNil))) (dC (.int 2))) (dCB cAll (aCons (dNew (nLc (iVal (dVar 0)) (gName 1) (tYes) (dCall F_is_between (aCons (dVar 1) (aCons (dC (.int 0)) (aCons (dC (.int 99)) (aNil))))) [1])) (aNil)))))

@[reducible] def b_is_cover (F_shutting F_is_class F_rises F_covers : FSp) : DTS :=
    sSeq (sSet 3 (dCall F_shutting (aCons (dVar 0) (aCons (dVar 1) (aNil)))))
    (sSeq (sIf (tOr (tNot (tTru (dIsa (dVar 2) [.tuple]))) (tNot (tTru (dCB cAll (aCons (dNew (nLc (iVal (dVar 2)) (gName 4) (tYes) (dAnd (dCall F_is_class (aCons (dVar 4) (aNil))) (dOp oIn (dVar 4) (dVar 3))) [4])) (aNil)))))) (sRet (dC (.bl false))) (sNext))
    (sRet (dAnd (dCall F_rises (aCons (dVar 2) (aNil))) (dCall F_covers (aCons (dVar 0) (aCons (dVar 2) (aNil)))))))

@[reducible] def b_law_classes (F_law_beats F_law_sign : FSp) : DTS :=
    sSeq (sOwn 2 (nLst (aNil)))
    (sSeq (sFor (iEnum (dVar 0)) (gTup 2 (gCons (gName 3) (gCons (gName 4) (gNil)))) (sFor (iRng1 (dCall F_law_beats (aCons (dVar 4) (aNil)))) (gName 5) (sIf (tBl (dOp oIn (dC (.str [35])) (dNew (nLc (iVal (dVar 1)) (gName 6) (tYes) (dCall F_law_sign (aCons (dVar 4) (aCons (dVar 6) (aCons (dVar 5) (aNil))))) [6])))) (sDrop (dApp (dVar 2) (dTup (aCons (dVar 3) (aCons (dVar 5) (aNil)))))) (sNext))))
    (sRet (dVar 2)))

@[reducible] def b_law_k12 (F_law_draws F_law_stack F_law_draw F_cover F_next_open F_row F_is_cover F_law_classes F_law_sheet F_law_beats : FSp) : DTS :=
    sSeq (sFor (iRng1 (dCB cMax2 (aCons (dC (.int 1)) (aCons (dCB cMin2 (aCons (dC (.int 8)) (aCons (dCB cLen (aCons (dVar 0) (aNil))) (aNil)))) (aNil))))) (gName 1) (sSeq (sOwn 2 (nCall F_law_draws (aCons (dVar 0) (aCons (dVar 1) (aNil)))))
    (sSeq (sSet 3 (dCallM F_law_stack (aCons (dVar 2) (aCons (dC (.int 3)) (aCons (dOp oIdx (dNew (nLst (aCons (dC (.int 4)) (aCons (dC (.int 7)) (aCons (dC (.int 10)) (aNil)))))) (dCallM F_law_draw (aCons (dVar 2) (aCons (dC (.int 3)) (aNil))))) (aNil))))))
    (sSeq (sSet 4 (dCB cTup (aCons (dNew (nLc (iRng1 (dC (.int 8))) (gName 13) (tBl (dOp oEq (dCallM F_law_draw (aCons (dVar 2) (aCons (dC (.int 3)) (aNil)))) (dC (.int 0)))) (dVar 13) [13])) aNil)))
    (sSeq (sAsg (gTup 2 (gCons (gName 5) (gCons (gName 6) (gNil)))) (dTup (aCons (dCall F_cover (aCons (dVar 3) (aCons (dVar 4) (aNil)))) (aCons (dCallM F_law_draw (aCons (dVar 2) (aCons (dOp oPow (dC (.int 10)) (dC (.int 18))) (aNil)))) (aNil)))))
    (sSeq (sSet 7 (dCall F_next_open (aCons (dVar 3) (aCons (dVar 4) (aCons (dVar 6) (aNil))))))
    (sSeq (sIf (tOr (tBl (dOp oNe (dIsN (dVar 5)) (dNotN (dVar 7)))) (tBl (dOp oNe (dIsN (dCall F_next_open (aCons (dVar 3) (aCons (dVar 4) (aCons (dC (.int 0)) (aNil)))))) (dIsN (dVar 7))))) (sRet (dC (.bl false))) (sNext))
    (sIf (tBl (dIsN (dVar 5))) (sSeq (sSet 8 (dCall F_row (aCons (dVar 3) (aCons (dC (.int 8)) (aCons (dVar 7) (aNil))))))
    (sSeq (sIf (tOr (tBl (dOp oLt (dVar 7) (dVar 6))) (tBl (dOp oIn (dC (.str [35])) (dNew (nLc (iVal (dVar 4)) (gName 14) (tYes) (dOp oIdx (dVar 8) (dVar 14)) [14]))))) (sRet (dC (.bl false))) (sNext))
    (sIf (tOr (tTru (dCall F_is_cover (aCons (dVar 3) (aCons (dVar 4) (aCons (dCB cTup (aCons (dCall F_law_classes (aCons (dVar 3) (aCons (dVar 4) (aNil)))) aNil)) (aNil)))))) (tTru (dCall F_is_cover (aCons (dVar 3) (aCons (dVar 4) (aCons (dTup (aNil)) (aNil))))))) (sRet (dC (.bl false))) (sNext)))) (sSeq (sIf (tBl (dOp oNotBl (dCall F_is_cover (aCons (dVar 3) (aCons (dVar 4) (aCons (dVar 5) (aNil))))) (dC (.bl true)))) (sRet (dC (.bl false))) (sNext))
    (sSeq (sSet 9 (dCB cTup (aCons (dSortSet (dOp oAdd (dVar 4) (dTup (aCons (dCallM F_law_draw (aCons (dVar 2) (aCons (dC (.int 8)) (aNil)))) (aNil))))) aNil)))
    (sSeq (sSet 10 (dOp oAdd (dVar 3) (dTup (aCons (dCallM F_law_sheet (aCons (dVar 2) (aCons (dC (.int 10)) (aNil)))) (aNil)))))
    (sSeq (sIf (tOr (tNot (tTru (dCallK 3 g_210 F_is_cover (aCons (dVar 5) (aCons (dVar 9) (aCons (dVar 3) (aNil))))))) (tNot (tTru (dCall F_is_cover (aCons (dVar 10) (aCons (dVar 4) (aCons (dVar 5) (aNil)))))))) (sRet (dC (.bl false))) (sNext))
    (sSeq (sSet 11 (dNew (nLc (iVal (dVar 3)) (gName 15) (tYes) (dCall F_law_beats (aCons (dVar 15) (aNil))) [15])))
    (sFor (iRng1 (dC (.int 12))) (gName 12) (sSeq (sSet 6 (dCallM F_law_draw (aCons (dVar 2) (aCons (dOp oPow (dC (.int 10)) (dC (.int 18))) (aNil)))))
    (sSeq (sSet 8 (dCall F_row (aCons (dVar 3) (aCons (dC (.int 8)) (aCons (dVar 6) (aNil))))))
    (sSeq (sIf (tBl (dOp oEq (dNew (nLc (iVal (dVar 5)) (gTup 2 (gCons (gName 16) (gCons (gName 17) (gNil)))) (tBl (dOp oEq (dOp oMod (dVar 6) (dOp oIdx (dVar 11) (dVar 16))) (dVar 17))) (dC (.int 1)) [16, 17])) (dNew (nLst (aNil))))) (sRet (dC (.bl false))) (sNext))
    (sIf (tBl (dOp oNotIn (dC (.str [35])) (dNew (nLc (iVal (dVar 4)) (gName 14) (tYes) (dOp oIdx (dVar 8) (dVar 14)) [14])))) (sRet (dC (.bl false))) (sNext)))))))))))))))))))
    (sRet (dC (.bl true)))

end Dat
set_option Elab.async false
set_option linter.all false
/-! BodE: bodies of defs (printed by gen.py). -/
namespace Dat
@[reducible] def b_law_thing (F_law_draw F_law_of F_law_thing : FSp) : DTS :=
    sSeq (sSet 2 (dCallM F_law_draw (aCons (dVar 0) (aCons (dC (.int 9)) (aNil)))))
    (sSeq (sIf (tOr (tBl (dOp oLt (dVar 2) (dC (.int 6)))) (tBl (dOp oEq (dVar 1) (dC (.int 0))))) (sSeq (sSet 3 (dNew (nLst (aCons (dC (.int 0)) (aCons (dC (.int 1)) (aCons (dUn uNeg (dC (.int 1))) (aCons (dC (.bl true)) (aCons (dC (.bl false)) (aCons (dC .non) (aCons (dC (.str [])) (aCons (dC (.str [46, 35])) (aCons (dC (.str [63])) (aCons (dC (.str [35])) (aCons (dOp oPow (dC (.int 10)) (dC (.int 39))) (aCons (dC (.str [111])) (aCons (dC (.int 10)) (aCons (dC (.int 11)) (aCons (dUn uNeg (dC (.int 11))) (aCons (dTup (aCons (dC (.str [46])) (aCons (dC (.int 0)) (aCons (dC (.int 0)) (aNil))))) (aNil))))))))))))))))))))
    (sRet (dCallM F_law_of (aCons (dVar 0) (aCons (dOp oAdd (dVar 3) (dNew (nLst (aCons (dTup (aNil)) (aCons (dNew (nLst (aNil))) (aCons (dTup (aCons (dC (.int 0)) (aCons (dC (.int 0)) (aNil)))) (aCons (dTup (aCons (dC (.int 0)) (aCons (dC (.int 0)) (aCons (dC (.str [46])) (aNil))))) (aCons (dTup (aCons (dC (.str [35, 46])) (aCons (dC (.int 3)) (aCons (dC (.int 1)) (aNil))))) (aCons (dTup (aCons (dTup (aCons (dC (.str [46])) (aCons (dC (.int 0)) (aCons (dC (.int 0)) (aNil))))) (aNil))) (aCons (dC (.str [46, 35, 35, 46, 35, 35, 46, 35, 35, 46, 35])) (aNil))))))))))) (aNil)))))) (sNext))
    (sSeq (sSet 4 (dNew (nLc (iRng1 (dCallM F_law_draw (aCons (dVar 0) (aCons (dC (.int 4)) (aNil))))) (gName 5) (tYes) (dCallM F_law_thing (aCons (dVar 0) (aCons (dOp oSub (dVar 1) (dC (.int 1))) (aNil)))) [5])))
    (sRet (dOp oIdx (dNew (nLst (aCons (dVar 4) (aCons (dCB cTup (aCons (dVar 4) aNil)) (aCons (dCB cTup (aCons (dVar 4) aNil)) (aNil)))))) (dOp oSub (dVar 2) (dC (.int 6)))))))

@[reducible] def b_law_otherwise (F_law_thing F_law_draw F_law_otherwise F_law_of : FSp) : DTS :=
    sSeq (sOwn 3 (nCpy (dVar 1)))
    (sSeq (sIf (tBl (dOp oEq (dVar 3) (dNew (nLst (aNil))))) (sRet (dTup (aCons (dCallM F_law_thing (aCons (dVar 0) (aCons (dC (.int 1)) (aNil)))) (aNil)))) (sNext))
    (sSeq (sSet 4 (dCallM F_law_draw (aCons (dVar 0) (aCons (dCB cLen (aCons (dVar 3) (aNil))) (aNil)))))
    (sSeq (sIf (tAnd (tTru (dIsa (dOp oIdx (dVar 3) (dVar 4)) [.tuple, .list])) (tAnd (tBl (dOp oGt (dVar 2) (dC (.int 0)))) (tBl (dOp oGt (dCallM F_law_draw (aCons (dVar 0) (aCons (dC (.int 5)) (aNil)))) (dC (.int 0)))))) (sSeq (sStore (dVar 3) (dVar 4) (dCallM F_law_otherwise (aCons (dVar 0) (aCons (dOp oIdx (dVar 3) (dVar 4)) (aCons (dOp oSub (dVar 2) (dC (.int 1))) (aNil))))))
    (sRet (dIf (tTru (dIsa (dVar 1) [.list])) (dVar 3) (dCB cTup (aCons (dVar 3) aNil))))) (sNext))
    (sSeq (sSet 5 (dCallM F_law_draw (aCons (dVar 0) (aCons (dC (.int 8)) (aNil)))))
    (sSeq (sIf (tBl (dOp oEq (dVar 5) (dC (.int 0)))) (sDrop (dPopI (dVar 3) (dVar 4))) (sIf (tBl (dOp oEq (dVar 5) (dC (.int 1)))) (sDrop (dIns (dVar 3) (dVar 4) (dOp oIdx (dVar 3) (dVar 4)))) (sIf (tBl (dOp oEq (dVar 5) (dC (.int 2)))) (sSlSet (dVar 3) (dVar 4) (dOp oAdd (dVar 4) (dC (.int 2))) (dRev (dSl (dVar 3) (pSo (dVar 4)) (pSo (dOp oAdd (dVar 4) (dC (.int 2))))))) (sIf (tBl (dOp oEq (dVar 5) (dC (.int 3)))) (sStore (dVar 3) (dVar 4) (dCallM F_law_thing (aCons (dVar 0) (aCons (dC (.int 2)) (aNil))))) (sIf (tAnd (tBl (dOp oEq (dVar 5) (dC (.int 4)))) (tTru (dIsa (dOp oIdx (dVar 3) (dVar 4)) [.str]))) (sSeq (sSet 6 (dOp oIdx (dVar 3) (dVar 4)))
    (sStore (dVar 3) (dVar 4) (dCallM F_law_of (aCons (dVar 0) (aCons (dNew (nLst (aCons (dOp oAdd (dVar 6) (dC (.str [97]))) (aCons (dSl (dVar 6) (pSo (dC (.int 1))) (pNo)) (aCons (dUpper (dVar 6)) (aCons (dC (.str [])) (aCons (dC .non) (aCons (dC (.str [46, 35])) (aCons (dC (.str [46])) (aNil)))))))))) (aNil)))))) (sIf (tAnd (tBl (dOp oLt (dVar 5) (dC (.int 6)))) (tTru (dIsa (dOp oIdx (dVar 3) (dVar 4)) [.int]))) (sSeq (sSet 7 (dOp oIdx (dVar 3) (dVar 4)))
    (sStore (dVar 3) (dVar 4) (dCallM F_law_of (aCons (dVar 0) (aCons (dNew (nLst (aCons (dOp oAddN (dVar 7) (dC (.int 1))) (aCons (dOp oSubN (dVar 7) (dC (.int 1))) (aCons (dOp oSubN (dC (.int 0)) (dVar 7)) (aCons (dC (.bl true)) (aCons (dC (.bl false)) (aCons (dC .non) (aCons (dCB cMin2 (aCons (dOp oMulN (dC (.int 1000)) (dVar 7)) (aCons (dOp oPow (dC (.int 10)) (dC (.int 39))) (aNil)))) (aNil)))))))))) (aNil)))))) (sIf (tAnd (tBl (dOp oEq (dVar 5) (dC (.int 6)))) (tTru (dIsa (dOp oIdx (dVar 3) (dVar 4)) [.tuple]))) (sStore (dVar 3) (dVar 4) (dNew (nCpy (dOp oIdx (dVar 3) (dVar 4))))) (sRet (dIf (tTru (dIsa (dVar 1) [.list])) (dCB cTup (aCons (dVar 3) aNil)) (dVar 3))))))))))
    (sRet (dIf (tTru (dIsa (dVar 1) [.list])) (dVar 3) (dCB cTup (aCons (dVar 3) aNil)))))))))

@[reducible] def b_law_truly : DTS :=
    sRet (dAnd (dIsa (dVar 0) [.bool]) (dOp oEq (dVar 0) (dVar 1)))

@[reducible] def b_law_is_whole : DTS :=
    sRet (dAnd (dIsa (dVar 0) [.int]) (dAnd (dNot (tTru (dIsa (dVar 0) [.bool]))) (dChain oLe oLe (dVar 1) (dVar 0) (dVar 2))))

@[reducible] def b_law_all_covered (F_law_beats F_law_whole : FSp) : DTS :=
    sSeq (sSet 2 (dNew (nLc (iVal (dVar 0)) (gName 4) (tYes) (dCall F_law_beats (aCons (dVar 4) (aNil))) [4])))
    (sSeq (sFor (iRng1 (dCall F_law_whole (aCons (dNew (nLst (aCons (dVar 0) (aNil)))) (aNil)))) (gName 3) (sIf (tBl (dOp oEq (dNew (nLc (iVal (dVar 1)) (gTup 2 (gCons (gName 5) (gCons (gName 6) (gNil)))) (tBl (dOp oEq (dOp oMod (dVar 3) (dOp oIdx (dVar 2) (dVar 5))) (dVar 6))) (dC (.int 1)) [5, 6])) (dNew (nLst (aNil))))) (sRet (dC (.bl false))) (sNext)))
    (sRet (dC (.bl true))))

@[reducible] def b_law_is_cover (F_law_classes F_law_is_whole F_law_all_covered : FSp) : DTS :=
    sSeq (sIf (tNot (tTru (dIsa (dVar 2) [.tuple]))) (sRet (dC (.bl false))) (sNext))
    (sSeq (sPar 3 4 (dTup (aCons (dUn uNeg (dC (.int 1))) (aCons (dUn uNeg (dC (.int 1))) (aNil)))) (dCall F_law_classes (aCons (dVar 0) (aCons (dVar 1) (aNil)))))
    (sSeq (sFor (iVal (dVar 2)) (gName 5) (sSeq (sIf (tOr (tNot (tTru (dIsa (dVar 5) [.tuple]))) (tOr (tBl (dOp oNe (dCB cLen (aCons (dVar 5) (aNil))) (dC (.int 2)))) (tOr (tNot (tTru (dCall F_law_is_whole (aCons (dOp oIdx (dVar 5) (dC (.int 0))) (aCons (dC (.int 0)) (aCons (dC (.int 3)) (aNil))))))) (tNot (tTru (dCall F_law_is_whole (aCons (dOp oIdx (dVar 5) (dC (.int 1))) (aCons (dC (.int 0)) (aCons (dC (.int 9)) (aNil)))))))))) (sRet (dC (.bl false))) (sNext))
    (sSeq (sIf (tOr (tBl (dOp oNotIn (dVar 5) (dVar 4))) (tNot (tBl (dOp oLt (dVar 3) (dVar 5))))) (sRet (dC (.bl false))) (sNext))
    (sSet 3 (dVar 5)))))
    (sRet (dCall F_law_all_covered (aCons (dVar 0) (aCons (dVar 2) (aNil)))))))

@[reducible] def b_law_k11 (F_law_draws F_law_stack F_law_draw F_law_rows F_cover F_law_classes F_law_is_cover F_law_all_covered F_law_otherwise F_law_thing F_law_truly F_is_cover : FSp) : DTS :=
    sSeq (sFor (iRng1 (dCB cMax2 (aCons (dC (.int 1)) (aCons (dCB cMin2 (aCons (dC (.int 6)) (aCons (dCB cLen (aCons (dVar 0) (aNil))) (aNil)))) (aNil))))) (gName 1) (sSeq (sOwn 2 (nCall F_law_draws (aCons (dVar 0) (aCons (dVar 1) (aNil)))))
    (sSeq (sSet 3 (dCallM F_law_stack (aCons (dVar 2) (aCons (dC (.int 3)) (aCons (dOp oIdx (dNew (nLst (aCons (dC (.int 4)) (aCons (dC (.int 7)) (aCons (dC (.int 10)) (aNil)))))) (dCallM F_law_draw (aCons (dVar 2) (aCons (dC (.int 3)) (aNil))))) (aNil))))))
    (sSeq (sSet 4 (dCB cTup (aCons (dNew (nLc (iRng1 (dC (.int 8))) (gName 9) (tBl (dOp oEq (dCallM F_law_draw (aCons (dVar 2) (aCons (dC (.int 3)) (aNil)))) (dC (.int 0)))) (dVar 9) [9])) aNil)))
    (sSeq (sSet 5 (dCall F_law_rows (aCons (dVar 3) (aCons (dC (.int 8)) (aNil)))))
    (sSeq (sSet 6 (dOp oEq (dNew (nLc (iVal (dVar 5)) (gName 9) (tBl (dOp oNotIn (dC (.str [35])) (dNew (nLc (iVal (dVar 4)) (gName 15) (tYes) (dOp oIdx (dVar 9) (dVar 15)) [15])))) (dC (.int 1)) [9])) (dNew (nLst (aNil)))))
    (sSeq (sPar 7 8 (dCall F_cover (aCons (dVar 3) (aCons (dVar 4) (aNil)))) (dCB cTup (aCons (dCall F_law_classes (aCons (dVar 3) (aCons (dVar 4) (aNil)))) aNil)))
    (sSeq (sIf (tOr (tBl (dOp oNe (dNotN (dVar 7)) (dVar 6))) (tAnd (tTru (dVar 6)) (tNot (tTru (dCall F_law_is_cover (aCons (dVar 3) (aCons (dVar 4) (aCons (dVar 7) (aNil))))))))) (sRet (dC (.bl false))) (sNext))
    (sSeq (sIf (tBl (dNotN (dVar 7))) (sFor (iVal (dVar 7)) (gName 9) (sIf (tTru (dCall F_law_all_covered (aCons (dVar 3) (aCons (dNew (nLc (iVal (dVar 7)) (gName 16) (tBl (dOp oNe (dVar 16) (dVar 9))) (dVar 16) [16])) (aNil))))) (sRet (dC (.bl false))) (sNext))) (sNext))
    (sSeq (sSet 10 (dOr (dVar 7) (dOr (dVar 8) (dTup (aCons (dTup (aCons (dC (.int 0)) (aCons (dC (.int 0)) (aNil)))) (aNil))))))
    (sSeq (sSet 11 (dCallM F_law_draw (aCons (dVar 2) (aCons (dCB cLen (aCons (dVar 10) (aNil))) (aNil)))))
    (sSeq (sSet 12 (dCallM F_law_otherwise (aCons (dVar 2) (aCons (dVar 10) (aCons (dC (.int 1)) (aNil))))))
    (sSeq (sOwn 13 (nLst (aCons (dVar 7) (aCons (dVar 8) (aCons (dRev (dVar 8)) (aCons (dSl (dVar 8) (pNo) (pSo (dUn uNeg (dC (.int 1))))) (aCons (dOp oAdd (dVar 8) (dSl (dVar 8) (pNo) (pSo (dC (.int 1))))) (aCons (dNew (nCpy (dVar 8))) (aCons (dOp oAdd (dSl (dVar 10) (pNo) (pSo (dVar 11))) (dSl (dVar 10) (pSo (dOp oAdd (dVar 11) (dC (.int 1)))) (pNo))) (aCons (dVar 12) (aCons (dTup (aNil)) (aNil))))))))))))
    (sSeq (sOwn 13 (nCat (dVar 13) (dNew (nLst (aCons (dOp oAdd (dOp oAdd (dSl (dVar 10) (pNo) (pSo (dVar 11))) (dTup (aCons (dTup (aCons (dOp oIdx (dOp oIdx (dVar 10) (dVar 11)) (dC (.int 0))) (aCons (dCallM F_law_draw (aCons (dVar 2) (aCons (dC (.int 11)) (aNil)))) (aNil)))) (aNil)))) (dSl (dVar 10) (pSo (dOp oAdd (dVar 11) (dC (.int 1)))) (pNo))) (aCons (dCallM F_law_thing (aCons (dVar 2) (aCons (dC (.int 3)) (aNil)))) (aNil)))))))
    (sSeq (sDrop (dApp (dVar 13) (dIf (tBl (dOp oNotIn (dVar 12) (dTup (aCons (dTup (aNil)) (aCons (dNew (nLst (aNil))) (aNil)))))) (dCallM F_law_otherwise (aCons (dVar 2) (aCons (dVar 12) (aCons (dC (.int 1)) (aNil))))) (dVar 12))))
    (sFor (iVal (dOp oAdd (dVar 13) (dNew (nLst (aCons (dOp oAdd (dVar 8) (dTup (aCons (dTup (aCons (dC (.int 3)) (aCons (dC (.int 9)) (aNil)))) (aNil)))) (aCons (dOp oAdd (dTup (aCons (dTup (aCons (dC (.bl false)) (aCons (dC (.int 0)) (aNil)))) (aNil))) (dSl (dVar 8) (pSo (dC (.int 1))) (pNo))) (aCons (dC .non) (aNil)))))))) (gName 14) (sIf (tNot (tTru (dCall F_law_truly (aCons (dCall F_is_cover (aCons (dVar 3) (aCons (dVar 4) (aCons (dVar 14) (aNil))))) (aCons (dCall F_law_is_cover (aCons (dVar 3) (aCons (dVar 4) (aCons (dVar 14) (aNil))))) (aNil)))))) (sRet (dC (.bl false))) (sNext))))))))))))))))))
    (sRet (dC (.bl true)))

end Dat
set_option Elab.async false
set_option linter.all false
/-! BodF: bodies of defs (printed by gen.py). -/
namespace Dat
@[reducible] def b_is_pattern : DTS :=
    sRet (dAnd (dIsa (dVar 0) [.str]) (dAnd (dChain oLe oLe (dC (.int 1)) (dCB cLen (aCons (dVar 0) (aNil))) (dC (.int 10))) (dCB cAll (aCons (dNew (nLc (iVal (dVar 0)) (gName 1) (tYes) (dOp oIn (dVar 1) (dTup (aCons (dC (.str [46])) (aCons (dC (.str [35])) (aNil))))) [1])) (aNil)))))

@[reducible] def b_is_sheet (F_is_pattern F_is_between : FSp) : DTS :=
    sSeq (sIf (tOr (tNot (tTru (dIsa (dVar 0) [.tuple]))) (tOr (tBl (dOp oNe (dCB cLen (aCons (dVar 0) (aNil))) (dC (.int 3)))) (tNot (tTru (dCall F_is_pattern (aCons (dOp oIdx (dVar 0) (dC (.int 0))) (aNil))))))) (sRet (dC (.bl false))) (sNext))
    (sRet (dAnd (dCall F_is_between (aCons (dOp oIdx (dVar 0) (dC (.int 1))) (aCons (dOp oSub (dC (.int 0)) (dC (.int 10))) (aCons (dC (.int 10)) (aNil))))) (dCall F_is_between (aCons (dOp oIdx (dVar 0) (dC (.int 2))) (aCons (dC (.int 0)) (aCons (dOp oSub (dCB cLen (aCons (dOp oIdx (dVar 0) (dC (.int 0))) (aNil))) (dC (.int 1))) (aNil)))))))

@[reducible] def b_is_stack (F_is_sheet : FSp) : DTS :=
    sRet (dAnd (dIsa (dVar 0) [.tuple]) (dAnd (dChain oLe oLe (dC (.int 1)) (dCB cLen (aCons (dVar 0) (aNil))) (dC (.int 4))) (dCB cAll (aCons (dNew (nLc (iVal (dVar 0)) (gName 1) (tYes) (dCall F_is_sheet (aCons (dVar 1) (aNil))) [1])) (aNil)))))

@[reducible] def b_is_seen_row : DTS :=
    sRet (dAnd (dIsa (dVar 1) [.str]) (dAnd (dOp oEq (dCB cLen (aCons (dVar 1) (aNil))) (dVar 0)) (dCB cAll (aCons (dNew (nLc (iVal (dVar 1)) (gName 2) (tYes) (dOp oIn (dVar 2) (dTup (aCons (dC (.str [46])) (aCons (dC (.str [35])) (aCons (dC (.str [63])) (aNil)))))) [2])) (aNil)))))

@[reducible] def b_is_seen (F_is_seen_row : FSp) : DTS :=
    sRet (dAnd (dIsa (dVar 1) [.tuple]) (dAnd (dOp oLe (dCB cLen (aCons (dVar 1) (aNil))) (dC (.int 40))) (dCB cAll (aCons (dNew (nLc (iVal (dVar 1)) (gName 2) (tYes) (dCall F_is_seen_row (aCons (dVar 0) (aCons (dVar 2) (aNil)))) [2])) (aNil)))))

@[reducible] def b_is_wish (F_is_between : FSp) : DTS :=
    sSeq (sIf (tOr (tNot (tTru (dIsa (dVar 0) [.tuple]))) (tOr (tBl (dOp oNe (dCB cLen (aCons (dVar 0) (aNil))) (dC (.int 3)))) (tNot (tTru (dCall F_is_between (aCons (dOp oIdx (dVar 0) (dC (.int 0))) (aCons (dC (.int 0)) (aCons (dC (.int 1000)) (aNil))))))))) (sRet (dC (.bl false))) (sNext))
    (sRet (dAnd (dCall F_is_between (aCons (dOp oIdx (dVar 0) (dC (.int 1))) (aCons (dC (.int 0)) (aCons (dOp oSub (dC (.int 8)) (dC (.int 1))) (aNil))))) (dAnd (dIsa (dOp oIdx (dVar 0) (dC (.int 2))) [.str]) (dOp oIn (dOp oIdx (dVar 0) (dC (.int 2))) (dTup (aCons (dC (.str [46])) (aCons (dC (.str [35])) (aNil))))))))

@[reducible] def b_are_wishes (F_is_wish F_rises : FSp) : DTS :=
    sSeq (sIf (tOr (tNot (tTru (dIsa (dVar 0) [.tuple]))) (tOr (tBl (dOp oGt (dCB cLen (aCons (dVar 0) (aNil))) (dC (.int 40)))) (tNot (tTru (dCB cAll (aCons (dNew (nLc (iVal (dVar 0)) (gName 1) (tYes) (dCall F_is_wish (aCons (dVar 1) (aNil))) [1])) (aNil))))))) (sRet (dC (.bl false))) (sNext))
    (sRet (dCall F_rises (aCons (dNew (nLc (iVal (dVar 0)) (gName 1) (tYes) (dSl (dVar 1) (pNo) (pSo (dC (.int 2)))) [1])) (aNil))))

@[reducible] def b_law_is_sheet (F_law_is_whole : FSp) : DTS :=
    sSeq (sIf (tOr (tNot (tTru (dIsa (dVar 0) [.tuple]))) (tOr (tBl (dOp oNe (dCB cLen (aCons (dVar 0) (aNil))) (dC (.int 3)))) (tNot (tTru (dIsa (dOp oIdx (dVar 0) (dC (.int 0))) [.str]))))) (sRet (dC (.bl false))) (sNext))
    (sSeq (sIf (tOr (tNot (tBl (dChain oLt oLt (dC (.int 0)) (dCB cLen (aCons (dOp oIdx (dVar 0) (dC (.int 0))) (aNil))) (dC (.int 11))))) (tBl (dOp oNe (dNew (nLc (iVal (dOp oIdx (dVar 0) (dC (.int 0)))) (gName 1) (tBl (dOp oNotIn (dVar 1) (dC (.str [46, 35])))) (dVar 1) [1])) (dNew (nLst (aNil)))))) (sRet (dC (.bl false))) (sNext))
    (sRet (dAnd (dCall F_law_is_whole (aCons (dOp oIdx (dVar 0) (dC (.int 1))) (aCons (dUn uNeg (dC (.int 10))) (aCons (dC (.int 10)) (aNil))))) (dCall F_law_is_whole (aCons (dOp oIdx (dVar 0) (dC (.int 2))) (aCons (dC (.int 0)) (aCons (dOp oSub (dCB cLen (aCons (dOp oIdx (dVar 0) (dC (.int 0))) (aNil))) (dC (.int 1))) (aNil))))))))

@[reducible] def b_law_is_stack (F_law_is_sheet : FSp) : DTS :=
    sRet (dAnd (dIsa (dVar 0) [.tuple]) (dAnd (dChain oLt oLt (dC (.int 0)) (dCB cLen (aCons (dVar 0) (aNil))) (dC (.int 5))) (dOp oEq (dNew (nLc (iVal (dVar 0)) (gName 1) (tNot (tTru (dCall F_law_is_sheet (aCons (dVar 1) (aNil))))) (dVar 1) [1])) (dNew (nLst (aNil))))))

@[reducible] def b_law_is_seen : DTS :=
    sSeq (sIf (tOr (tNot (tTru (dIsa (dVar 1) [.tuple]))) (tBl (dOp oGt (dCB cLen (aCons (dVar 1) (aNil))) (dC (.int 40))))) (sRet (dC (.bl false))) (sNext))
    (sSeq (sFor (iVal (dVar 1)) (gName 2) (sIf (tOr (tNot (tTru (dIsa (dVar 2) [.str]))) (tOr (tBl (dOp oNe (dCB cLen (aCons (dVar 2) (aNil))) (dVar 0))) (tBl (dOp oNe (dNew (nLc (iVal (dVar 2)) (gName 3) (tBl (dOp oNotIn (dVar 3) (dC (.str [46, 35, 63])))) (dVar 3) [3])) (dNew (nLst (aNil))))))) (sRet (dC (.bl false))) (sNext)))
    (sRet (dC (.bl true))))

@[reducible] def b_law_are_wishes (F_law_is_whole : FSp) : DTS :=
    sSeq (sIf (tOr (tNot (tTru (dIsa (dVar 0) [.tuple]))) (tBl (dOp oGt (dCB cLen (aCons (dVar 0) (aNil))) (dC (.int 40))))) (sRet (dC (.bl false))) (sNext))
    (sSeq (sSet 1 (dTup (aCons (dUn uNeg (dC (.int 1))) (aCons (dUn uNeg (dC (.int 1))) (aNil)))))
    (sSeq (sFor (iVal (dVar 0)) (gName 2) (sSeq (sIf (tOr (tNot (tTru (dIsa (dVar 2) [.tuple]))) (tOr (tBl (dOp oNe (dCB cLen (aCons (dVar 2) (aNil))) (dC (.int 3)))) (tNot (tTru (dCall F_law_is_whole (aCons (dOp oIdx (dVar 2) (dC (.int 0))) (aCons (dC (.int 0)) (aCons (dC (.int 1000)) (aNil))))))))) (sRet (dC (.bl false))) (sNext))
    (sSeq (sIf (tOr (tNot (tTru (dCall F_law_is_whole (aCons (dOp oIdx (dVar 2) (dC (.int 1))) (aCons (dC (.int 0)) (aCons (dC (.int 7)) (aNil))))))) (tOr (tNot (tTru (dIsa (dOp oIdx (dVar 2) (dC (.int 2))) [.str]))) (tOr (tBl (dOp oNotIn (dOp oIdx (dVar 2) (dC (.int 2))) (dTup (aCons (dC (.str [46])) (aCons (dC (.str [35])) (aNil)))))) (tNot (tBl (dOp oLt (dVar 1) (dSl (dVar 2) (pNo) (pSo (dC (.int 2)))))))))) (sRet (dC (.bl false))) (sNext))
    (sSet 1 (dSl (dVar 2) (pNo) (pSo (dC (.int 2))))))))
    (sRet (dC (.bl true)))))

@[reducible] def b_law_bent (F_law_otherwise F_law_thing : FSp) : DTS :=
    sSeq (sSet 3 (dCallM F_law_otherwise (aCons (dVar 0) (aCons (dVar 1) (aCons (dVar 2) (aNil))))))
    (sSeq (sSet 4 (dNew (nLst (aCons (dVar 1) (aCons (dVar 3) (aCons (dNew (nCpy (dVar 1))) (aCons (dSl (dVar 1) (pSo (dC (.int 1))) (pNo)) (aCons (dOp oAdd (dVar 1) (dSl (dVar 1) (pNo) (pSo (dC (.int 1))))) (aCons (dCallM F_law_thing (aCons (dVar 0) (aCons (dC (.int 3)) (aNil)))) (aNil))))))))))
    (sRet (dOp oAdd (dVar 4) (dNew (nLst (aCons (dIf (tBl (dOp oNotIn (dVar 3) (dTup (aCons (dTup (aNil)) (aCons (dNew (nLst (aNil))) (aNil)))))) (dCallM F_law_otherwise (aCons (dVar 0) (aCons (dVar 3) (aCons (dVar 2) (aNil))))) (dVar 3)) (aNil)))))))

@[reducible] def b_law_k01 (F_law_draws F_law_sheet F_law_stack F_law_bent F_law_truly F_law_is_sheet F_is_sheet F_law_is_stack F_is_stack F_law_draw F_law_of F_law_is_seen F_is_seen F_law_are_wishes F_are_wishes : FSp) : DTS :=
    sSeq (sFor (iRng1 (dCB cMax2 (aCons (dC (.int 1)) (aCons (dCB cMin2 (aCons (dC (.int 20)) (aCons (dCB cLen (aCons (dVar 0) (aNil))) (aNil)))) (aNil))))) (gName 1) (sSeq (sOwn 2 (nCall F_law_draws (aCons (dVar 0) (aCons (dVar 1) (aNil)))))
    (sSeq (sPar 3 4 (dCallM F_law_sheet (aCons (dVar 2) (aCons (dC (.int 10)) (aNil)))) (dCallM F_law_stack (aCons (dVar 2) (aCons (dC (.int 4)) (aCons (dC (.int 10)) (aNil))))))
    (sSeq (sSet 5 (dNew (nLst (aCons (dTup (aCons (dOp oMul (dC (.str [46])) (dC (.int 10))) (aCons (dC (.int 10)) (aCons (dC (.int 9)) (aNil))))) (aCons (dTup (aCons (dOp oMul (dC (.str [46])) (dC (.int 11))) (aCons (dC (.int 0)) (aCons (dC (.int 0)) (aNil))))) (aCons (dTup (aCons (dC (.str [46])) (aCons (dUn uNeg (dC (.int 11))) (aCons (dC (.int 0)) (aNil))))) (aCons (dTup (aCons (dC (.str [46])) (aCons (dC (.int 11)) (aCons (dC (.int 0)) (aNil))))) (aCons (dTup (aCons (dC (.str [46, 46])) (aCons (dC (.int 0)) (aCons (dC (.int 2)) (aNil))))) (aCons (dTup (aCons (dC (.str [])) (aCons (dC (.int 0)) (aCons (dC (.int 0)) (aNil))))) (aCons (dTup (aCons (dC (.str [46])) (aCons (dC (.bl true)) (aCons (dC (.int 0)) (aNil))))) (aNil)))))))))))
    (sSeq (sFor (iVal (dOp oAdd (dOp oAdd (dCallM F_law_bent (aCons (dVar 2) (aCons (dVar 3) (aCons (dC (.int 0)) (aNil))))) (dVar 5)) (dNew (nLst (aCons (dTup (aCons (dC (.str [46, 63])) (aCons (dC (.int 0)) (aCons (dC (.int 0)) (aNil))))) (aNil)))))) (gName 6) (sIf (tNot (tTru (dCall F_law_truly (aCons (dCall F_is_sheet (aCons (dVar 6) (aNil))) (aCons (dCall F_law_is_sheet (aCons (dVar 6) (aNil))) (aNil)))))) (sRet (dC (.bl false))) (sNext)))
    (sSeq (sFor (iVal (dOp oAdd (dCallM F_law_bent (aCons (dVar 2) (aCons (dVar 4) (aCons (dC (.int 1)) (aNil))))) (dNew (nLst (aCons (dSl (dOp oMul (dVar 4) (dC (.int 5))) (pNo) (pSo (dC (.int 4)))) (aCons (dSl (dOp oMul (dVar 4) (dC (.int 5))) (pNo) (pSo (dC (.int 5)))) (aCons (dTup (aNil)) (aCons (dVar 3) (aNil))))))))) (gName 6) (sIf (tNot (tTru (dCall F_law_truly (aCons (dCall F_is_stack (aCons (dVar 6) (aNil))) (aCons (dCall F_law_is_stack (aCons (dVar 6) (aNil))) (aNil)))))) (sRet (dC (.bl false))) (sNext)))
    (sSeq (sSet 7 (dOp oAdd (dC (.int 1)) (dCallM F_law_draw (aCons (dVar 2) (aCons (dC (.int 8)) (aNil))))))
    (sSeq (sSet 8 (dCB cTup (aCons (dNew (nLc (iRng1 (dCallM F_law_draw (aCons (dVar 2) (aCons (dC (.int 4)) (aNil))))) (gName 11) (tYes) (dJoin (dC (.str [])) (dNew (nLc (iRng1 (dVar 7)) (gName 12) (tYes) (dCallM F_law_of (aCons (dVar 2) (aCons (dC (.str [46, 35, 63])) (aNil)))) [12]))) [11])) aNil)))
    (sSeq (sFor (iVal (dOp oAdd (dCallM F_law_bent (aCons (dVar 2) (aCons (dVar 8) (aCons (dC (.int 0)) (aNil))))) (dNew (nLst (aCons (dOp oMul (dTup (aCons (dOp oMul (dC (.str [63])) (dVar 7)) (aNil))) (dC (.int 40))) (aCons (dOp oMul (dTup (aCons (dOp oMul (dC (.str [63])) (dVar 7)) (aNil))) (dC (.int 41))) (aCons (dTup (aCons (dOp oMul (dC (.str [63])) (dOp oAdd (dVar 7) (dC (.int 1)))) (aNil))) (aCons (dTup (aCons (dOp oMul (dC (.str [111])) (dVar 7)) (aNil))) (aNil))))))))) (gName 6) (sIf (tNot (tTru (dCall F_law_truly (aCons (dCall F_is_seen (aCons (dVar 7) (aCons (dVar 6) (aNil)))) (aCons (dCall F_law_is_seen (aCons (dVar 7) (aCons (dVar 6) (aNil)))) (aNil)))))) (sRet (dC (.bl false))) (sNext)))
    (sSeq (sSet 9 (dSortSetT (dNew (nLc (iRng1 (dC (.int 4))) (gName 1) (tYes) (dTup (aCons (dCallM F_law_of (aCons (dVar 2) (aCons (dNew (nLst (aCons (dC (.int 0)) (aCons (dC (.int 3)) (aCons (dC (.int 1000)) (aCons (dCallM F_law_draw (aCons (dVar 2) (aCons (dC (.int 9)) (aNil)))) (aNil))))))) (aNil)))) (aCons (dCallM F_law_draw (aCons (dVar 2) (aCons (dC (.int 8)) (aNil)))) (aNil)))) [1]))))
    (sSeq (sSet 10 (dCB cTup (aCons (dNew (nLc (iVal (dVar 9)) (gName 13) (tYes) (dOp oAdd (dVar 13) (dTup (aCons (dCallM F_law_of (aCons (dVar 2) (aCons (dC (.str [46, 35])) (aNil)))) (aNil)))) [13])) aNil)))
    (sSeq (sSet 5 (dNew (nLst (aCons (dTup (aCons (dTup (aCons (dC (.int 1001)) (aCons (dC (.int 0)) (aCons (dC (.str [46])) (aNil))))) (aNil))) (aCons (dTup (aCons (dTup (aCons (dC (.int 0)) (aCons (dC (.int 8)) (aCons (dC (.str [46])) (aNil))))) (aNil))) (aCons (dTup (aCons (dTup (aCons (dC (.int 0)) (aCons (dC (.int 0)) (aCons (dC (.str [63])) (aNil))))) (aNil))) (aCons (dTup (aCons (dTup (aCons (dC (.int 0)) (aCons (dC (.int 0)) (aCons (dC (.str [35])) (aNil))))) (aCons (dTup (aCons (dC (.int 0)) (aCons (dC (.int 0)) (aCons (dC (.str [46])) (aNil))))) (aNil)))) (aCons (dTup (aCons (dTup (aCons (dC (.int 0)) (aCons (dC (.int 0)) (aCons (dC (.str [46, 35])) (aNil))))) (aNil))) (aNil)))))))))
    (sSeq (sSet 5 (dOp oAdd (dVar 5) (dNew (nLc (iRng1 (dC (.int 3))) (gName 14) (tYes) (dCB cTup (aCons (dNew (nLc (iRng1 (dOp oAdd (dC (.int 39)) (dVar 14))) (gName 11) (tYes) (dTup (aCons (dVar 11) (aCons (dC (.int 0)) (aCons (dC (.str [46])) (aNil))))) [11])) aNil)) [14]))))
    (sFor (iVal (dOp oAdd (dCallM F_law_bent (aCons (dVar 2) (aCons (dVar 10) (aCons (dC (.int 1)) (aNil))))) (dVar 5))) (gName 6) (sIf (tNot (tTru (dCall F_law_truly (aCons (dCall F_are_wishes (aCons (dVar 6) (aNil))) (aCons (dCall F_law_are_wishes (aCons (dVar 6) (aNil))) (aNil)))))) (sRet (dC (.bl false))) (sNext))))))))))))))))
    (sRet (dC (.bl true)))

end Dat
set_option Elab.async false
set_option linter.all false
/-! BodG: bodies of defs (printed by gen.py). -/
namespace Dat
@[reducible] def b_may_be (F_is_open : FSp) : DTS :=
    sSeq (sOwn 5 (nMul (dNew (nLst (aCons (dC (.str [63])) (aNil)))) (dVar 3)))
    (sSeq (sFor (iEnum (dVar 2)) (gTup 2 (gCons (gName 6) (gCons (gName 7) (gNil)))) (sFor (iRng1 (dVar 1)) (gName 8) (sSeq (sSet 9 (dCall F_is_open (aCons (dVar 0) (aCons (dVar 8) (aCons (dVar 6) (aNil))))))
    (sSeq (sIf (tAnd (tBl (dOp oEq (dOp oIdx (dVar 7) (dVar 8)) (dC (.str [46])))) (tNot (tTru (dVar 9)))) (sRet (dC .non)) (sNext))
    (sIf (tAnd (tBl (dOp oNe (dOp oIdx (dVar 7) (dVar 8)) (dC (.str [63])))) (tTru (dVar 9))) (sSeq (sSet 10 (dOp oMod (dOp oAdd (dVar 8) (dOp oMul (dVar 4) (dVar 6))) (dVar 3)))
    (sSeq (sIf (tBl (dOp oNotIn (dOp oIdx (dVar 5) (dVar 10)) (dTup (aCons (dC (.str [63])) (aCons (dOp oIdx (dVar 7) (dVar 8)) (aNil)))))) (sRet (dC .non)) (sNext))
    (sStore (dVar 5) (dVar 10) (dOp oIdx (dVar 7) (dVar 8))))) (sNext))))))
    (sRet (dJoin (dC (.str [])) (dVar 5))))

@[reducible] def b_all_that_may (F_may_be : FSp) : DTS :=
    sSeq (sOwn 3 (nLst (aNil)))
    (sSeq (sFor (iRng2 (dC (.int 1)) (dOp oAdd (dC (.int 10)) (dC (.int 1)))) (gName 4) (sFor (iRng1 (dVar 4)) (gName 5) (sSeq (sSet 6 (dCall F_may_be (aCons (dVar 0) (aCons (dVar 1) (aCons (dVar 2) (aCons (dVar 4) (aCons (dVar 5) (aNil))))))))
    (sIf (tBl (dNotN (dVar 6))) (sDrop (dApp (dVar 3) (dTup (aCons (dVar 4) (aCons (dVar 5) (aCons (dVar 6) (aNil))))))) (sNext)))))
    (sRet (dVar 3)))

@[reducible] def b_known_by (F_whole_round F_is_open : FSp) : DTS :=
    sSeq (sOwnDc 4 (iRng1 (dVar 2)) (gName 7) (dVar 7) (dC (.bl true)) [7])
    (sSeq (sFor (iRng1 (dOp oMul (dCall F_whole_round (aCons (dNew (nLst (aCons (dVar 0) (aNil)))) (aNil))) (dVar 2))) (gName 5) (sSeq (sFor (iRng1 (dVar 1)) (gName 6) (sIf (tTru (dCall F_is_open (aCons (dVar 0) (aCons (dVar 6) (aCons (dVar 5) (aNil)))))) (sDrop (dPopN (dVar 4) (dOp oMod (dOp oAdd (dVar 6) (dOp oMul (dVar 3) (dVar 5))) (dVar 2)))) (sNext)))
    (sIf (tBl (dEqE (dVar 4))) (sRet (dOp oAdd (dVar 5) (dC (.int 1)))) (sNext))))
    (sRet (dC .non)))

@[reducible] def b_law_shown (F_law_row : FSp) : DTS :=
    sRet (dNew (nLc (iRng1 (dVar 3)) (gName 4) (tYes) (dCall F_law_row (aCons (dOp oAdd (dVar 0) (dTup (aCons (dVar 1) (aNil)))) (aCons (dVar 2) (aCons (dVar 4) (aNil))))) [4]))

@[reducible] def b_law_may (F_law_sign : FSp) : DTS :=
    sSeq (sSet 5 (dC (.str [])))
    (sSeq (sFor (iRng1 (dVar 3)) (gName 6) (sSeq (sOwn 7 (nLst (aNil)))
    (sSeq (sFor (iRng1 (dCB cLen (aCons (dVar 2) (aNil)))) (gName 8) (sFor (iVal (dNew (nLc (iRng1 (dVar 1)) (gName 11) (tBl (dOp oEq (dOp oMod (dOp oAdd (dVar 11) (dOp oMul (dVar 4) (dVar 8))) (dVar 3)) (dVar 6))) (dVar 11) [11]))) (gName 9) (sSeq (sSet 10 (dOp oNotIn (dC (.str [35])) (dNew (nLc (iVal (dVar 0)) (gName 12) (tYes) (dCall F_law_sign (aCons (dVar 12) (aCons (dVar 9) (aCons (dVar 8) (aNil))))) [12]))))
    (sSeq (sIf (tAnd (tBl (dOp oEq (dOp oIdx (dOp oIdx (dVar 2) (dVar 8)) (dVar 9)) (dC (.str [46])))) (tNot (tTru (dVar 10)))) (sRet (dC .non)) (sNext))
    (sIf (tAnd (tBl (dOp oNe (dOp oIdx (dOp oIdx (dVar 2) (dVar 8)) (dVar 9)) (dC (.str [63])))) (tTru (dVar 10))) (sDrop (dApp (dVar 7) (dOp oIdx (dOp oIdx (dVar 2) (dVar 8)) (dVar 9)))) (sNext))))))
    (sSeq (sIf (tAnd (tBl (dOp oIn (dC (.str [46])) (dVar 7))) (tBl (dOp oIn (dC (.str [35])) (dVar 7)))) (sRet (dC .non)) (sNext))
    (sSet 5 (dOp oAdd (dVar 5) (dOp oIdx (dOp oAdd (dVar 7) (dNew (nLst (aCons (dC (.str [63])) (aNil))))) (dC (.int 0)))))))))
    (sRet (dVar 5)))

@[reducible] def b_law_known (F_law_whole F_law_sign : FSp) : DTS :=
    sSeq (sOwn 4 (nLst (aNil)))
    (sSeq (sFor (iRng1 (dOp oMul (dCall F_law_whole (aCons (dNew (nLst (aCons (dVar 0) (aNil)))) (aNil))) (dVar 2))) (gName 5) (sSeq (sFor (iRng1 (dVar 1)) (gName 6) (sIf (tBl (dOp oNotIn (dC (.str [35])) (dNew (nLc (iVal (dVar 0)) (gName 7) (tYes) (dCall F_law_sign (aCons (dVar 7) (aCons (dVar 6) (aCons (dVar 5) (aNil))))) [7])))) (sDrop (dApp (dVar 4) (dOp oMod (dOp oAdd (dVar 6) (dOp oMul (dVar 3) (dVar 5))) (dVar 2)))) (sNext)))
    (sIf (tBl (dOp oEq (dLenSet (dVar 4)) (dVar 2))) (sRet (dOp oAdd (dVar 5) (dC (.int 1)))) (sNext))))
    (sRet (dC .non)))

@[reducible] def b_law_all_so (F_law_may F_may_be F_all_that_may : FSp) : DTS :=
    sSeq (sSet 4 (dNew (nLst (aNil))))
    (sSeq (sFor (iRng2 (dC (.int 1)) (dC (.int 11))) (gName 5) (sFor (iRng1 (dVar 5)) (gName 6) (sSeq (sSet 7 (dCall F_law_may (aCons (dVar 0) (aCons (dVar 1) (aCons (dVar 2) (aCons (dVar 5) (aCons (dVar 6) (aNil))))))))
    (sSeq (sSet 4 (dOp oAdd (dVar 4) (dOp oMul (dNew (nLst (aCons (dTup (aCons (dVar 5) (aCons (dVar 6) (aCons (dVar 7) (aNil))))) (aNil)))) (dCB cInt (aCons (dNotN (dVar 7)) (aNil))))))
    (sIf (tAnd (tBl (dOp oEq (dTup (aCons (dVar 5) (aCons (dVar 6) (aNil)))) (dVar 3))) (tBl (dOp oNe (dCall F_may_be (aCons (dVar 0) (aCons (dVar 1) (aCons (dVar 2) (aCons (dVar 5) (aCons (dVar 6) (aNil))))))) (dVar 7)))) (sRet (dC (.bl false))) (sNext))))))
    (sRet (dOp oEq (dCall F_all_that_may (aCons (dVar 0) (aCons (dVar 1) (aCons (dVar 2) (aNil))))) (dVar 4))))

@[reducible] def b_law_filled_so (F_may_be F_law_shown : FSp) : DTS :=
    sSeq (sAsg (gTup 2 (gCons (gName 4) (gCons (gName 5) (gNil)))) (dVar 3))
    (sSeq (sSet 6 (dCall F_may_be (aCons (dVar 0) (aCons (dVar 1) (aCons (dVar 2) (aCons (dCB cLen (aCons (dVar 4) (aNil))) (aCons (dVar 5) (aNil))))))))
    (sSeq (sIf (tBl (dIsN (dVar 6))) (sRet (dC (.bl false))) (sNext))
    (sSeq (sIf (tBl (dOp oNe (dNew (nLc (iZip (dVar 6) (dVar 4)) (gTup 2 (gCons (gName 9) (gCons (gName 7) (gNil)))) (tBl (dOp oNotIn (dVar 9) (dTup (aCons (dC (.str [63])) (aCons (dVar 7) (aNil)))))) (dC (.int 1)) [9, 7])) (dNew (nLst (aNil))))) (sRet (dC (.bl false))) (sNext))
    (sSeq (sFor (iVal (dC (.str [46, 35]))) (gName 7) (sSeq (sSet 8 (dCall F_law_shown (aCons (dVar 0) (aCons (dTup (aCons (dRepl (dVar 6) (dVar 7) 63) (aCons (dVar 5) (aCons (dC (.int 0)) (aNil))))) (aCons (dVar 1) (aCons (dCB cLen (aCons (dVar 2) (aNil))) (aNil)))))))
    (sFor (iZip (dVar 8) (dVar 2)) (gTup 2 (gCons (gName 9) (gCons (gName 10) (gNil)))) (sIf (tBl (dOp oNe (dNew (nLc (iZip (dVar 9) (dVar 10)) (gTup 2 (gCons (gName 11) (gCons (gName 12) (gNil)))) (tBl (dOp oNotIn (dVar 12) (dTup (aCons (dC (.str [63])) (aCons (dVar 11) (aNil)))))) (dC (.int 1)) [11, 12])) (dNew (nLst (aNil))))) (sRet (dC (.bl false))) (sNext)))))
    (sRet (dC (.bl true)))))))

@[reducible] def b_law_k31 (F_law_draws F_law_stack F_law_draw F_law_pattern F_law_shown F_law_of F_law_all_so F_law_filled_so F_known_by F_law_known F_may_be : FSp) : DTS :=
    sSeq (sFor (iRng1 (dCB cMax2 (aCons (dC (.int 1)) (aCons (dCB cMin2 (aCons (dC (.int 6)) (aCons (dCB cLen (aCons (dVar 0) (aNil))) (aNil)))) (aNil))))) (gName 1) (sSeq (sOwn 2 (nCall F_law_draws (aCons (dVar 0) (aCons (dVar 1) (aNil)))))
    (sSeq (sSet 3 (dSl (dCallM F_law_stack (aCons (dVar 2) (aCons (dC (.int 2)) (aCons (dOp oIdx (dNew (nLst (aCons (dC (.int 3)) (aCons (dC (.int 5)) (aCons (dC (.int 8)) (aNil)))))) (dCallM F_law_draw (aCons (dVar 2) (aCons (dC (.int 3)) (aNil))))) (aNil))))) (pNo) (pSo (dCallM F_law_draw (aCons (dVar 2) (aCons (dC (.int 3)) (aNil)))))))
    (sSeq (sPar 4 5 (dOp oAdd (dC (.int 1)) (dCallM F_law_draw (aCons (dVar 2) (aCons (dC (.int 5)) (aNil))))) (dCallM F_law_pattern (aCons (dVar 2) (aCons (dC (.int 10)) (aNil)))))
    (sSeq (sPar 6 7 (dCB cLen (aCons (dVar 5) (aNil))) (dCallM F_law_draw (aCons (dVar 2) (aCons (dCB cLen (aCons (dVar 5) (aNil))) (aNil)))))
    (sSeq (sSet 8 (dCB cTup (aCons (dCall F_law_shown (aCons (dVar 3) (aCons (dTup (aCons (dVar 5) (aCons (dVar 7) (aCons (dC (.int 0)) (aNil))))) (aCons (dVar 4) (aCons (dOp oAdd (dC (.int 1)) (dCallM F_law_draw (aCons (dVar 2) (aCons (dC (.int 12)) (aNil))))) (aNil)))))) aNil)))
    (sSeq (sSet 9 (dCB cTup (aCons (dNew (nLc (iVal (dVar 8)) (gName 17) (tYes) (dJoin (dC (.str [])) (dNew (nLc (iVal (dVar 17)) (gName 18) (tYes) (dIf (tBl (dOp oEq (dCallM F_law_draw (aCons (dVar 2) (aCons (dC (.int 3)) (aNil)))) (dC (.int 0)))) (dC (.str [63])) (dVar 18)) [18]))) [17])) aNil)))
    (sSeq (sPar 10 11 (dCallM F_law_draw (aCons (dVar 2) (aCons (dCB cLen (aCons (dVar 9) (aNil))) (aNil)))) (dCallM F_law_draw (aCons (dVar 2) (aCons (dVar 4) (aNil)))))
    (sSeq (sSet 12 (dOp oAdd (dOp oAdd (dSl (dOp oIdx (dVar 9) (dVar 10)) (pNo) (pSo (dVar 11))) (dCallM F_law_of (aCons (dVar 2) (aCons (dC (.str [46, 35])) (aNil))))) (dSl (dOp oIdx (dVar 9) (dVar 10)) (pSo (dOp oAdd (dVar 11) (dC (.int 1)))) (pNo))))
    (sSeq (sSet 13 (dOp oAdd (dOp oAdd (dSl (dVar 9) (pNo) (pSo (dVar 10))) (dTup (aCons (dVar 12) (aNil)))) (dSl (dVar 9) (pSo (dOp oAdd (dVar 10) (dC (.int 1)))) (pNo))))
    (sSeq (sFor (iVal (dNew (nLst (aCons (dVar 9) (aCons (dVar 8) (aCons (dVar 13) (aCons (dTup (aNil)) (aNil)))))))) (gName 14) (sIf (tNot (tTru (dCall F_law_all_so (aCons (dVar 3) (aCons (dVar 4) (aCons (dVar 14) (aCons (dTup (aCons (dVar 6) (aCons (dVar 7) (aNil)))) (aNil)))))))) (sRet (dC (.bl false))) (sNext)))
    (sSeq (sIf (tNot (tTru (dCall F_law_filled_so (aCons (dVar 3) (aCons (dVar 4) (aCons (dVar 9) (aCons (dTup (aCons (dVar 5) (aCons (dVar 7) (aNil)))) (aNil)))))))) (sRet (dC (.bl false))) (sNext))
    (sSeq (sSet 15 (dCall F_known_by (aCons (dVar 3) (aCons (dVar 4) (aCons (dVar 6) (aCons (dVar 7) (aNil)))))))
    (sSeq (sIf (tOr (tBl (dOp oNe (dVar 15) (dCall F_law_known (aCons (dVar 3) (aCons (dVar 4) (aCons (dVar 6) (aCons (dVar 7) (aNil)))))))) (tBl (dOp oNe (dCall F_known_by (aCons (dTup (aNil)) (aCons (dC (.int 8)) (aCons (dC (.int 8)) (aCons (dC (.int 3)) (aNil)))))) (dC (.int 1))))) (sRet (dC (.bl false))) (sNext))
    (sIf (tAnd (tBl (dNotN (dVar 15))) (tBl (dOp oLt (dVar 15) (dC (.int 41))))) (sSeq (sSet 16 (dCB cTup (aCons (dCall F_law_shown (aCons (dVar 3) (aCons (dTup (aCons (dVar 5) (aCons (dVar 7) (aCons (dC (.int 0)) (aNil))))) (aCons (dVar 4) (aCons (dVar 15) (aNil)))))) aNil)))
    (sSeq (sIf (tBl (dOp oNe (dCall F_may_be (aCons (dVar 3) (aCons (dVar 4) (aCons (dVar 16) (aCons (dVar 6) (aCons (dVar 7) (aNil))))))) (dVar 5))) (sRet (dC (.bl false))) (sNext))
    (sIf (tBl (dOp oNotIn (dC (.str [63])) (dCall F_may_be (aCons (dVar 3) (aCons (dVar 4) (aCons (dSl (dVar 16) (pNo) (pSo (dUn uNeg (dC (.int 1))))) (aCons (dVar 6) (aCons (dVar 7) (aNil))))))))) (sRet (dC (.bl false))) (sNext)))) (sNext))))))))))))))))
    (sRet (dC (.bl true)))

end Dat
set_option Elab.async false
set_option linter.all false
/-! DatP: keywords in the order of the parameters (printed by gen.py); room. -/
namespace Dat
open PySem PySem.Spec PyProof.Rows L2
theorem g_01_rel {α β : Type} {R : α → β → Prop} : ∀ {xs : List α} {ys : List β}, Paired R xs ys → Paired R (g_01 xs) (g_01 ys)
  | _, _, .nil => .nil
  | _, _, .cons a .nil => .cons a .nil
  | _, _, .cons a (.cons b .nil) => .cons a (.cons b .nil)
  | _, _, .cons a (.cons b (.cons y r)) => .cons a (.cons b (.cons y r))
theorem g_01_repL {K : PySem.W.Frag} {mu : Addr → Prop} {ads : List Addr} {H : Hp} {ds : List D} {vs : List V} (hl : ds.length = 2) (h : RepL K mu ads H ds vs) : RepL K mu ads H (g_01 ds) (g_01 vs) := by
  match ds, hl with
  | [a, b], _ =>
    simp only [RepL] at h
    obtain ⟨va, _, rfl, ha, vb, _, rfl, hb, rfl⟩ := h
    simp only [RepL]
    exact ⟨_, _, rfl, ha, _, _, rfl, hb, rfl⟩
theorem g_10_rel {α β : Type} {R : α → β → Prop} : ∀ {xs : List α} {ys : List β}, Paired R xs ys → Paired R (g_10 xs) (g_10 ys)
  | _, _, .nil => .nil
  | _, _, .cons a .nil => .cons a .nil
  | _, _, .cons a (.cons b .nil) => .cons b (.cons a .nil)
  | _, _, .cons a (.cons b (.cons y r)) => .cons a (.cons b (.cons y r))
theorem g_10_repL {K : PySem.W.Frag} {mu : Addr → Prop} {ads : List Addr} {H : Hp} {ds : List D} {vs : List V} (hl : ds.length = 2) (h : RepL K mu ads H ds vs) : RepL K mu ads H (g_10 ds) (g_10 vs) := by
  match ds, hl with
  | [a, b], _ =>
    simp only [RepL] at h
    obtain ⟨va, _, rfl, ha, vb, _, rfl, hb, rfl⟩ := h
    simp only [RepL]
    exact ⟨_, _, rfl, hb, _, _, rfl, ha, rfl⟩
theorem g_102_rel {α β : Type} {R : α → β → Prop} : ∀ {xs : List α} {ys : List β}, Paired R xs ys → Paired R (g_102 xs) (g_102 ys)
  | _, _, .nil => .nil
  | _, _, .cons a .nil => .cons a .nil
  | _, _, .cons a (.cons b .nil) => .cons a (.cons b .nil)
  | _, _, .cons a (.cons b (.cons c .nil)) => .cons b (.cons a (.cons c .nil))
  | _, _, .cons a (.cons b (.cons c (.cons y r))) => .cons a (.cons b (.cons c (.cons y r)))
theorem g_102_repL {K : PySem.W.Frag} {mu : Addr → Prop} {ads : List Addr} {H : Hp} {ds : List D} {vs : List V} (hl : ds.length = 3) (h : RepL K mu ads H ds vs) : RepL K mu ads H (g_102 ds) (g_102 vs) := by
  match ds, hl with
  | [a, b, c], _ =>
    simp only [RepL] at h
    obtain ⟨va, _, rfl, ha, vb, _, rfl, hb, vc, _, rfl, hc, rfl⟩ := h
    simp only [RepL]
    exact ⟨_, _, rfl, hb, _, _, rfl, ha, _, _, rfl, hc, rfl⟩
theorem g_210_rel {α β : Type} {R : α → β → Prop} : ∀ {xs : List α} {ys : List β}, Paired R xs ys → Paired R (g_210 xs) (g_210 ys)
  | _, _, .nil => .nil
  | _, _, .cons a .nil => .cons a .nil
  | _, _, .cons a (.cons b .nil) => .cons a (.cons b .nil)
  | _, _, .cons a (.cons b (.cons c .nil)) => .cons c (.cons b (.cons a .nil))
  | _, _, .cons a (.cons b (.cons c (.cons y r))) => .cons a (.cons b (.cons c (.cons y r)))
theorem g_210_repL {K : PySem.W.Frag} {mu : Addr → Prop} {ads : List Addr} {H : Hp} {ds : List D} {vs : List V} (hl : ds.length = 3) (h : RepL K mu ads H ds vs) : RepL K mu ads H (g_210 ds) (g_210 vs) := by
  match ds, hl with
  | [a, b, c], _ =>
    simp only [RepL] at h
    obtain ⟨va, _, rfl, ha, vb, _, rfl, hb, vc, _, rfl, hc, rfl⟩ := h
    simp only [RepL]
    exact ⟨_, _, rfl, hc, _, _, rfl, hb, _, _, rfl, ha, rfl⟩
theorem g_3210_rel {α β : Type} {R : α → β → Prop} : ∀ {xs : List α} {ys : List β}, Paired R xs ys → Paired R (g_3210 xs) (g_3210 ys)
  | _, _, .nil => .nil
  | _, _, .cons a .nil => .cons a .nil
  | _, _, .cons a (.cons b .nil) => .cons a (.cons b .nil)
  | _, _, .cons a (.cons b (.cons c .nil)) => .cons a (.cons b (.cons c .nil))
  | _, _, .cons a (.cons b (.cons c (.cons d .nil))) => .cons d (.cons c (.cons b (.cons a .nil)))
  | _, _, .cons a (.cons b (.cons c (.cons d (.cons y r)))) => .cons a (.cons b (.cons c (.cons d (.cons y r))))
theorem g_3210_repL {K : PySem.W.Frag} {mu : Addr → Prop} {ads : List Addr} {H : Hp} {ds : List D} {vs : List V} (hl : ds.length = 4) (h : RepL K mu ads H ds vs) : RepL K mu ads H (g_3210 ds) (g_3210 vs) := by
  match ds, hl with
  | [a, b, c, d], _ =>
    simp only [RepL] at h
    obtain ⟨va, _, rfl, ha, vb, _, rfl, hb, vc, _, rfl, hc, vd, _, rfl, hd, rfl⟩ := h
    simp only [RepL]
    exact ⟨_, _, rfl, hd, _, _, rfl, hc, _, _, rfl, hb, _, _, rfl, ha, rfl⟩
theorem hu0 {l : Nat} {A : Around} (h : Room l A) : A.units < cLine := by have := h.un; omega
theorem hu65 {l : Nat} {A : Around} (h : Room l A) : A.units + 65 < cLine := by have := h.un; omega
theorem hu66 {l : Nat} {A : Around} (h : Room l A) : A.units + 66 < cLine := by have := h.un; omega
theorem fn_none {P : Program} {w : World} {K : PySem.W.Frag} {mg : Str → Option Value} {base : Heap} {x : Str} {st : Stmt} {f : Addr} {fd : FuncData} {N ps : List Str} {lvl : Nat} (Fd : FnP K x st f fd) (S : FnScope N ps (defScope st)) : FnOk P w K mg base CX0 (lvl + 1) f fd ps (spOf K fun _ _ _ => False) :=
  FunD.ok Fd S (fun vs H Q E h => by obtain ⟨W, mu0, S, ds, k, c, r, hF, q⟩ := h; exact hF.elim) (fun cdv A outer s H vs Q E hr h => by obtain ⟨W, mu0, S, ds, k, c, r, hF, q⟩ := h; exact hF.elim)
end Dat
set_option Elab.async false
set_option linter.all false
set_option maxRecDepth 100000
set_option maxHeartbeats 1000000
/-! PlA: the program's stacks: mirrors, what each def does with data. -/
namespace Dat

/-! ### sheets -/
structure Sheet where
  pat : List Bool
  pace : Int
  first : Int
  deriving DecidableEq
def sgn (b : Bool) : Nat := if b then 46 else 35
theorem sgn_inj : ∀ a b, sgn a = sgn b → a = b := by decide
theorem sgns_inj {l m : List Bool} (h : l.map sgn = m.map sgn) : l = m := by
  induction l generalizing m with
  | nil => cases m with | nil => rfl | cons _ _ => cases h
  | cons a l ih =>
    cases m with
    | nil => cases h
    | cons b m =>
      simp only [List.map_cons, List.cons.injEq] at h
      rw [sgn_inj _ _ h.1, ih h.2]
def Sheet.ok (s : Sheet) : Prop := s.pat ≠ [] ∧ s.pat.length ≤ 10 ∧ -10 ≤ s.pace ∧ s.pace ≤ 10
@[reducible] def encS (s : Sheet) : D := .tup [.str (s.pat.map sgn), .int s.pace, .int s.first]
abbrev Stack := List Sheet
@[reducible] def encSt (st : Stack) : D := .tup (st.map encS)
def okSt (st : Stack) : Prop := (∀ s ∈ st, s.ok) ∧ st.length ≤ 1000
@[reducible] def encR (r : List Bool) : D := .str (r.map sgn)
theorem purS (s : Sheet) : (encS s).pur = true := rfl
theorem purC {d : D} {r : List D} (h : d.pur = true) (h2 : D.purAll r = true) : D.purAll (d :: r) = true := by simp only [D.purAll, h, h2]; rfl
theorem purSt (st : Stack) : (encSt st).pur = true := by simp only [encSt, D.pur]; exact purAll_map purS st
theorem goodR : GoodE encR 0 := goodStr.comp fun _ _ h => sgns_inj h
theorem goodS : GoodE encS 1 := ⟨fun a b => by
  obtain ⟨p, c, f⟩ := a
  obtain ⟨p', c', f'⟩ := b
  have h1 : (D.str (p.map sgn)).eqv (.str (p'.map sgn)) = decide (p = p') := goodR.eqv p p'
  simp only [encS, D.eqv, D.eqvAll, Sheet.mk.injEq] at h1 ⊢
  rw [h1]
  simp [Bool.beq_eq_decide_eq], fun _ => rfl, fun _ => rfl, fun _ => by simp [encS, D.dep, D.depAll]⟩
theorem ok_len {s : Sheet} (h : s.ok) : 0 < s.pat.length := by
  cases hp : s.pat with
  | nil => exact absurd hp h.1
  | cons _ _ => simp

/-! ### signs -/
def sgnAt (s : Sheet) (pl b : Int) : Bool := s.pat.getD ((s.first + pl + s.pace * b) % s.pat.length).toNat false
theorem at_pat (s : Sheet) (h : s.ok) (i : Int) : atI (s.pat.map sgn) (i % s.pat.length) = some (sgn (s.pat.getD (i % s.pat.length).toNat false)) := by
  have h0 := ok_len h
  have h1 : 0 ≤ i % (s.pat.length : Int) := Int.emod_nonneg _ (by omega)
  have h2 : i % (s.pat.length : Int) < s.pat.length := Int.emod_lt_of_pos _ (by omega)
  unfold atI ixN
  rw [List.length_map, if_pos h1, if_pos h2]
  show (s.pat.map sgn)[(i % (s.pat.length : Int)).toNat]? = _
  have h3 : (i % (s.pat.length : Int)).toNat < s.pat.length := by omega
  rw [List.getElem?_map, List.getD_eq_getElem?_getD, List.getElem?_eq_getElem h3]
  rfl
def F_sign_at : FSp := fun ds S k => ∃ s pl b, ds = [encS s, .int pl, .int b] ∧ s.ok ∧ k (.str [sgn (sgnAt s pl b)]) S
theorem p_sign_at : ∀ ds S k, F_sign_at ds S k → b_sign_at (bodyK k) (entry 6 ds) S := by
  rintro _ S k ⟨s, pl, b, rfl, hs, hk⟩
  refine ⟨rfl, ?_⟩
  refine ⟨.inl (by have := hs.2.2; omega), ?_⟩
  refine ⟨by rw [List.length_map]; have := ok_len hs; omega, ?_⟩
  refine onO_intro (a := sgn (sgnAt s pl b)) ?_ hk
  rw [List.length_map]
  exact at_pat s hs _

def opn (st : Stack) (pl b : Int) : Bool := st.all fun s => sgnAt s pl b
def F_is_open : FSp := fun ds S k => ∃ st pl b, ds = [encSt st, .int pl, .int b] ∧ okSt st ∧ k (.bl (opn st pl b)) S
theorem p_is_open : ∀ ds S k, F_is_open ds S k → b_is_open F_sign_at (bodyK k) (entry 4 ds) S := by
  rintro _ S k ⟨st, pl, b, rfl, hs, hk⟩
  refine lc_map encS (fun s => .bl (sgnAt s pl b)) st (Nat.le_trans hs.2 (by decide)) (fun s hm K1 K0 h1 => ?_) ?_
  · refine callP_intro (by rfl) (d := .str [sgn (sgnAt s pl b)]) (by rfl) ?_ fun K hK => by exact ⟨s, pl, b, rfl, hs.1 s hm, hK⟩
    refine eq_good (e := D.str) (a := [sgn (sgnAt s pl b)]) (b := [46]) goodStr (by decide) rfl rfl ?_
    have e : decide ([sgn (sgnAt s pl b)] = [46]) = sgnAt s pl b := by cases sgnAt s pl b <;> rfl
    rw [e]
    exact h1
  · refine onO_intro (blsD_map _ st) ?_
    have e : (st.map fun s => sgnAt s pl b).all id = opn st pl b := by simp [opn, List.all_map, Function.comp_def]
    rw [e]
    exact hk

def rowM (st : Stack) (w : Nat) (b : Int) : List Bool := (List.range w).map fun (p : Nat) => opn st (p : Int) b
def F_row : FSp := fun ds S k => ∃ (st : Stack) (w : Nat) (b : Int), ds = [encSt st, .int (w : Int), .int b] ∧ okSt st ∧ w ≤ 1000 ∧ k (encR (rowM st w b)) S
theorem p_row : ∀ ds S k, F_row ds S k → b_row F_is_open (bodyK k) (entry 4 ds) S := by
  rintro _ S k ⟨st, w, b, rfl, hs, hw, hk⟩
  refine ⟨⟨by omega, by omega⟩, ?_⟩
  rw [rng_map]
  refine lc_map (fun (i : Nat) => D.int (i : Int)) (fun (p : Nat) => .str [sgn (opn st (p : Int) b)]) (List.range w) (by rw [List.length_range]; exact len_le (by omega)) (fun p hm K1 K0 h1 => ?_) ?_
  · refine callP_intro (purC (purSt _) rfl) (d := .bl (opn st (p : Int) b)) (by rfl) ?_ fun K hK => by exact ⟨st, (p : Int), b, rfl, hs, hK⟩
    refine br_intro (fun h => ?_) fun h => ?_
    · rw [h] at h1; exact h1
    · rw [h] at h1; exact h1
  · refine onO_intro (strsD_map _ _) ⟨?_, ?_⟩
    · have : ∀ l : List Nat, ((l.map fun (p : Nat) => [sgn (opn st (p : Int) b)]).map (·.length)).sum = l.length := fun l => by
        induction l with
        | nil => rfl
        | cons a l ih => simp only [List.map_cons, List.sum_cons, ih, List.length_cons, List.length_nil]; omega
      rw [this, List.length_map, List.length_range]
      exact len_le (by simp; omega)
    · have e : joinS [] ((List.range w).map fun (p : Nat) => [sgn (opn st (p : Int) b)]) = (rowM st w b).map sgn := by
        have : ((List.range w).map fun (p : Nat) => [sgn (opn st (p : Int) b)]) = ((rowM st w b).map sgn).map fun c => [c] := by simp [rowM, List.map_map, Function.comp_def]
        rw [this, joinS_nil_ones]
      show k (.str (joinS [] _)) S
      rw [e]
      exact hk

/-! ### rounds -/
def F_common : FSp := fun ds S k => ∃ a b : Nat, ds = [.int (a : Int), .int (b : Int)] ∧ k (.int ((Nat.gcd a b : Nat) : Int)) S
def μ1 : Env → Sto → Nat := fun env _ => match env with | [_, some (.int b)] => b.toNat | _ => 0
theorem p_common : ∀ ds S k, F_common ds S k → b_common (bodyK k) (entry 2 ds) S := by
  rintro _ S k ⟨a, b, rfl, hk⟩
  refine while_ind (fun e s => ∃ x y : Nat, e = [some (.int (x : Int)), some (.int (y : Int))] ∧ s = S ∧ Nat.gcd x y = Nat.gcd a b) μ1 ⟨a, b, rfl, rfl, rfl⟩ ?_
  rintro _ _ ⟨x, y, rfl, rfl, hg⟩ N hN
  refine ne_good (e := D.int) (a := (y : Int)) (b := 0) goodInt (by decide) rfl rfl ?_
  refine br_intro (fun h => ?_) fun h => ?_
  · have hy : y ≠ 0 := by rintro rfl; simp at h
    refine ⟨by omega, ?_⟩
    refine hN _ _ ⟨y, x % y, by rw [← Int.natCast_emod], rfl, ?_⟩ ?_
    · rw [← hg, Nat.gcd_comm x y, Nat.gcd_rec y x, Nat.gcd_comm]
    · show ((x : Int) % (y : Int)).toNat < (y : Int).toNat
      rw [← Int.natCast_emod, Int.toNat_natCast, Int.toNat_natCast]
      exact Nat.mod_lt _ (by omega)
  · have hy : y = 0 := by simpa using h
    subst hy
    rw [Nat.gcd_zero_right] at hg
    show k (.int (x : Int)) _
    rw [hg]
    exact hk
def rnd (l : Nat) (p : Int) : Nat := l / Nat.gcd l p.natAbs
def F_goes_round : FSp := fun ds S k => ∃ (l : Nat) (p : Int), ds = [.int (l : Int), .int p] ∧ 0 < l ∧ l ≤ 1000 ∧ k (.int ((rnd l p : Nat) : Int)) S
theorem log2_small {n : Nat} (h : n < 2 ^ 64) : n.log2 < 9000 := by
  by_cases h0 : n = 0
  · subst h0; decide
  · have := (Nat.log2_lt h0).mpr h
    omega
theorem p_goes_round : ∀ ds S k, F_goes_round ds S k → b_goes_round F_common (bodyK k) (entry 2 ds) S := by
  rintro _ S k ⟨l, p, rfl, h0, h1, hk⟩
  have e : (if p < 0 then -p else p) = ((p.natAbs : Nat) : Int) := by split <;> omega
  show callP F_common [.int (l : Int), .int (if p < 0 then -p else p)] S _
  rw [e]
  refine callP_intro (by rfl) (d := .int ((Nat.gcd l p.natAbs : Nat) : Int)) (by rfl) ?_ fun K hK => by exact ⟨l, p.natAbs, rfl, hK⟩
  have g0 : 0 < Nat.gcd l p.natAbs := Nat.gcd_pos_of_pos_left _ h0
  have g1 : Nat.gcd l p.natAbs ≤ l := Nat.gcd_le_left _ h0
  refine ⟨⟨by omega, ?_⟩, ?_⟩
  · rw [Int.natAbs_natCast]
    exact log2_small (by omega)
  · rw [← Int.natCast_ediv]
    exact hk
theorem rnd_pos {l : Nat} {p : Int} (h : 0 < l) : 0 < rnd l p := Nat.div_pos (Nat.gcd_le_left _ h) (Nat.gcd_pos_of_pos_left _ h)
theorem rnd_le {l : Nat} {p : Int} : rnd l p ≤ l := Nat.div_le_self _ _
def per (s : Sheet) : Nat := rnd s.pat.length s.pace
def wholeL (st : Stack) (n : Nat) : Nat := st.foldl (fun f s => Nat.lcm f (per s)) n
def whole (st : Stack) : Nat := wholeL st 1
theorem per_dvd {s : Sheet} (h : s.ok) : per s ∣ 2520 := by
  have h1 : per s ∣ s.pat.length := Nat.div_dvd_of_dvd (Nat.gcd_dvd_left _ _)
  have h2 : s.pat.length ∣ 2520 := by
    have h0 := ok_len h
    have h3 := h.2.1
    have : ∀ n : Nat, n < 11 → 0 < n → n ∣ 2520 := by decide
    exact this _ (by omega) h0
  exact Nat.dvd_trans h1 h2
theorem per_pos {s : Sheet} (h : s.ok) : 0 < per s := rnd_pos (ok_len h)
theorem wholeL_dvd {m : Nat} : ∀ (st : Stack) (n : Nat), (∀ s ∈ st, per s ∣ m) → n ∣ m → wholeL st n ∣ m
  | [], n, _, h => h
  | s :: st, n, hs, h => wholeL_dvd st _ (fun t ht => hs t (List.mem_cons_of_mem _ ht)) (Nat.lcm_dvd h (hs s (List.mem_cons_self ..)))
theorem wholeL_ge : ∀ (st : Stack) (n : Nat), n ∣ wholeL st n
  | [], n => Nat.dvd_refl _
  | s :: st, n => Nat.dvd_trans (Nat.dvd_lcm_left _ _) (wholeL_ge st _)
theorem wholeL_per : ∀ (st : Stack) (n : Nat), ∀ s ∈ st, per s ∣ wholeL st n
  | s :: st, n, t, ht => by
    rcases List.mem_cons.mp ht with e | e
    · subst e; exact Nat.dvd_trans (Nat.dvd_lcm_right _ _) (wholeL_ge st _)
    · exact wholeL_per st _ t e
theorem whole_2520 {st : Stack} (h : okSt st) : whole st ∣ 2520 := wholeL_dvd st 1 (fun s hs => per_dvd (h.1 s hs)) (Nat.one_dvd _)
theorem whole_pos {st : Stack} (h : okSt st) : 0 < whole st := Nat.pos_of_dvd_of_pos (whole_2520 h) (by decide)
theorem whole_le {st : Stack} (h : okSt st) : whole st ≤ 2520 := Nat.le_of_dvd (by decide) (whole_2520 h)
def wholes (sts : List Stack) : Nat := wholeL sts.flatten 1
theorem wholeL_app (a b : Stack) (n : Nat) : wholeL (a ++ b) n = wholeL b (wholeL a n) := by simp [wholeL]
def F_whole_round : FSp := fun ds S k => ∃ sts : List Stack, ds = [.lst (sts.map encSt)] ∧ (∀ st ∈ sts, okSt st) ∧ k (.int ((wholes sts : Nat) : Int)) S
theorem p_whole_round : ∀ ds S k, F_whole_round ds S k → b_whole_round F_goes_round F_common (bodyK k) (entry 7 ds) S := by
  rintro _ S k ⟨sts, rfl, hs, hk⟩
  refine forT_ind encSt (fun rest env s => s = S ∧ ∃ (done : Nat) (a b c d e : Option D), env = [some (.lst (sts.map encSt)), some (.int (done : Int)), a, b, c, d, e] ∧ done ∣ 2520 ∧ (∀ st ∈ rest, okSt st) ∧ wholeL rest.flatten done = wholes sts) ?_ ?_ sts _ S
    ⟨rfl, 1, _, _, _, _, _, rfl, Nat.one_dvd _, hs, rfl⟩
  · rintro _ _ ⟨rfl, done, a, b, c, d, e, rfl, _, _, hw⟩
    show k (.int (done : Int)) _
    have : done = wholes sts := hw
    rw [this]; exact hk
  · rintro st rest _ S0 ⟨rfl, done, a, b, c, d, e, rfl, hd, ho, hw⟩ N hN
    have hst := ho st (List.mem_cons_self ..)
    refine forT_ind encS (fun rest2 env s => s = S0 ∧ ∃ (done : Nat) (c d e f : Option D), env = [some (.lst (sts.map encSt)), some (.int (done : Int)), some (encSt st), c, d, e, f] ∧ done ∣ 2520 ∧ (∀ s ∈ rest2, s.ok) ∧ wholeL rest.flatten (wholeL rest2 done) = wholes sts) ?_ ?_ st _ S0
      ⟨rfl, done, _, _, _, _, rfl, hd, hst.1, by rw [← wholeL_app]; exact hw⟩
    · rintro _ _ ⟨rfl, done, c, d, e, f, rfl, hd, _, hw⟩
      exact hN _ _ ⟨rfl, done, _, _, _, _, _, rfl, hd, fun s hs => ho s (List.mem_cons_of_mem _ hs), hw⟩
    · rintro s rest2 _ _ ⟨rfl, done, c, d, e, f, rfl, hd, ho2, hw⟩ N2 hN2
      have hsok := ho2 s (List.mem_cons_self ..)
      refine ⟨rfl, ?_⟩
      show callP F_goes_round [.int ((s.pat.map sgn).length : Nat), .int s.pace] _ _
      rw [List.length_map]
      have h0 := ok_len hsok
      have hp := per_pos hsok
      have hpd := per_dvd hsok
      have hp2 : per s ≤ 2520 := Nat.le_of_dvd (by decide) hpd
      have hd2 : done ≤ 2520 := Nat.le_of_dvd (by decide) hd
      have hd0 : 0 < done := Nat.pos_of_dvd_of_pos hd (by decide)
      refine callP_intro (by rfl) (d := .int ((per s : Nat) : Int)) (by rfl) ?_ fun K hK => by exact ⟨s.pat.length, s.pace, rfl, h0, by have := hsok.2.1; omega, hK⟩
      refine ⟨.inl ⟨by omega, by omega⟩, ?_⟩
      refine callP_intro (by rfl) (d := .int ((Nat.gcd done (per s) : Nat) : Int)) (by rfl) ?_ fun K hK => by exact ⟨done, per s, rfl, hK⟩
      have g0 : 0 < Nat.gcd done (per s) := Nat.gcd_pos_of_pos_left _ hd0
      have g1 : Nat.gcd done (per s) ≤ done := Nat.gcd_le_left _ hd0
      refine ⟨⟨by omega, by rw [Int.natAbs_natCast]; exact log2_small (by omega)⟩, ?_⟩
      have e1 : (done : Int) * ((per s : Nat) : Int) / ((Nat.gcd done (per s) : Nat) : Int) = ((Nat.lcm done (per s) : Nat) : Int) := by
        rw [← Int.natCast_mul, ← Int.natCast_ediv]; rfl
      rw [e1]
      exact hN2 _ _ ⟨rfl, Nat.lcm done (per s), _, _, _, _, rfl, Nat.lcm_dvd hd hpd, fun t ht => ho2 t (List.mem_cons_of_mem _ ht), hw⟩
end Dat
set_option Elab.async false
set_option linter.all false
set_option maxRecDepth 100000
set_option maxHeartbeats 1000000
/-! PlB: rounds of rows, counts, first beats. -/
namespace Dat

/-! ### what comes again -/
theorem sgnAt_per (s : Sheet) (h : s.ok) (pl b : Int) (m : Nat) (hm : per s ∣ m) : sgnAt s pl (b + m) = sgnAt s pl b := by
  obtain ⟨q, rfl⟩ := hm
  have h0 := ok_len h
  have hg : Nat.gcd s.pat.length s.pace.natAbs ∣ s.pat.length := Nat.gcd_dvd_left _ _
  have hg2 : Nat.gcd s.pat.length s.pace.natAbs ∣ s.pace.natAbs := Nat.gcd_dvd_right _ _
  have key : (s.pat.length : Int) ∣ s.pace * ((per s * q : Nat) : Int) := by
    have : s.pat.length ∣ s.pace.natAbs * per s := by
      obtain ⟨c, hc⟩ := hg2
      have hl : per s * Nat.gcd s.pat.length s.pace.natAbs = s.pat.length := Nat.div_mul_cancel hg
      refine ⟨c, ?_⟩
      calc s.pace.natAbs * per s = Nat.gcd s.pat.length s.pace.natAbs * c * per s := by rw [← hc]
        _ = per s * Nat.gcd s.pat.length s.pace.natAbs * c := by rw [Nat.mul_comm _ (per s), Nat.mul_assoc]
        _ = s.pat.length * c := by rw [hl]
    have h2 : (s.pat.length : Int) ∣ ((s.pace.natAbs * per s : Nat) : Int) := Int.natCast_dvd_natCast.mpr this
    rw [Int.natCast_mul] at h2 ⊢
    have h3 : (s.pat.length : Int) ∣ s.pace * (per s : Int) := by
      rcases Int.natAbs_eq s.pace with e | e
      · rw [e]; exact h2
      · rw [e, Int.neg_mul]; exact Int.dvd_neg.mpr h2
    rw [← Int.mul_assoc]
    exact Int.dvd_trans h3 (Int.dvd_mul_right _ _)
  unfold sgnAt
  congr 2
  rw [Int.mul_add, ← Int.add_assoc]
  obtain ⟨c, hc⟩ := key
  rw [hc, Int.add_mul_emod_self_left]
theorem opn_per (st : Stack) (h : okSt st) (pl b : Int) (m : Nat) (hm : whole st ∣ m) : opn st pl (b + m) = opn st pl b := by
  have : ∀ l : Stack, (∀ s ∈ l, s ∈ st) → (l.all fun s => sgnAt s pl (b + m)) = l.all fun s => sgnAt s pl b := fun l => by
    induction l with
    | nil => intro _; rfl
    | cons s l ih =>
      intro hl
      have hs := hl s (List.mem_cons_self ..)
      rw [List.all_cons, List.all_cons, ih fun t ht => hl t (List.mem_cons_of_mem _ ht), sgnAt_per s (h.1 s hs) pl b m (Nat.dvd_trans (wholeL_per st 1 s hs) hm)]
  exact this st fun _ h => h
theorem opn_mod (st : Stack) (h : okSt st) (pl : Int) (t : Nat) : opn st pl ((t % whole st : Nat) : Int) = opn st pl (t : Int) := by
  have e : (t : Int) = ((t % whole st : Nat) : Int) + ((whole st * (t / whole st) : Nat) : Int) := by
    rw [← Int.natCast_add]
    exact congrArg Int.ofNat (Nat.mod_add_div t (whole st)).symm
  rw [e, opn_per st h pl _ _ (Nat.dvd_mul_right _ _)]
theorem rowM_per (st : Stack) (h : okSt st) (w : Nat) (b : Int) (m : Nat) (hm : whole st ∣ m) : rowM st w (b + m) = rowM st w b := by
  unfold rowM
  exact List.map_congr_left fun p _ => opn_per st h p b m hm
theorem rowM_mod (st : Stack) (h : okSt st) (w t : Nat) : rowM st w ((t % whole st : Nat) : Int) = rowM st w (t : Int) := by
  unfold rowM
  exact List.map_congr_left fun p _ => opn_mod st h p t

/-! ### the least round -/
def IsPer {α : Type} (f : Nat → α) (b : Nat) : Prop := ∀ t, f (t + b) = f t
def LeastPer {α : Type} (f : Nat → α) (b : Nat) : Prop := 0 < b ∧ IsPer f b ∧ ∀ c, 0 < c → IsPer f c → b ≤ c
theorem IsPer.mul {α : Type} {f : Nat → α} {b : Nat} (h : IsPer f b) : ∀ q t, f (t + q * b) = f t
  | 0, t => by simp
  | q + 1, t => by rw [Nat.succ_mul, ← Nat.add_assoc, h, IsPer.mul h q t]
theorem LeastPer.dvd {α : Type} {f : Nat → α} {b n : Nat} (h : LeastPer f b) (hn : IsPer f n) : b ∣ n := by
  obtain ⟨h0, h1, h2⟩ := h
  by_cases hr : n % b = 0
  · exact Nat.dvd_of_mod_eq_zero hr
  · exfalso
    have hp : IsPer f (n % b) := fun t => by
      have e := Nat.mod_add_div n b
      have := h1.mul (n / b) (t + n % b)
      rw [Nat.add_assoc, Nat.mul_comm (n / b) b, e, hn] at this
      exact this.symm
    have := h2 _ (Nat.pos_of_ne_zero hr) hp
    have := Nat.mod_lt n h0
    omega
theorem LeastPer.unique {α : Type} {f : Nat → α} {a b : Nat} (h : LeastPer f a) (h' : LeastPer f b) : a = b := Nat.le_antisymm (h.2.2 b h'.1 h'.2.1) (h'.2.2 a h.1 h.2.1)
/-- the rows of a whole round, and the test that round_of makes -/
def rowsOf {α : Type} (f : Nat → α) (n : Nat) : List α := (List.range n).map f
theorem rows_len {α : Type} (f : Nat → α) (n : Nat) : (rowsOf f n).length = n := by simp [rowsOf]
theorem rows_get {α : Type} (f : Nat → α) (n i : Nat) : (rowsOf f n)[i]? = if i < n then some (f i) else none := by
  unfold rowsOf
  rw [List.getElem?_map]
  split
  · rename_i h; rw [List.getElem?_range h]; rfl
  · rename_i h; rw [List.getElem?_eq_none (by simp; omega)]; rfl
theorem test_per {α : Type} {f : Nat → α} {n b : Nat} (hn : IsPer f n) (h0 : 0 < n) (hb : 0 < b) (hd : b ∣ n) : (rowsOf f n).drop b = (rowsOf f n).take (n - b) ↔ IsPer f b := by
  have hbn : b ≤ n := Nat.le_of_dvd h0 hd
  constructor
  · intro h
    have hs : ∀ i, i + b < n → f (i + b) = f i := fun i hi => by
      have h1 := congrArg (fun l => l[i]?) h
      simp only [List.getElem?_drop, List.getElem?_take, rows_get] at h1
      rw [if_pos (by omega), if_pos (by omega), if_pos (by omega), Nat.add_comm b i] at h1
      exact Option.some.inj h1
    have hmul : ∀ q i, i + q * b < n → f (i + q * b) = f i := fun q => by
      induction q with
      | zero => intro i _; simp
      | succ q ih =>
        intro i hi
        rw [Nat.succ_mul, ← Nat.add_assoc] at hi ⊢
        rw [hs _ hi, ih i (by omega)]
    obtain ⟨c, rfl⟩ := hd
    have hmod : ∀ t, f t = f (t % (b * c)) := fun t => by
      have e := Nat.mod_add_div t (b * c)
      have := hn.mul (t / (b * c)) (t % (b * c))
      rw [Nat.mul_comm (t / (b * c)), e] at this
      exact this
    intro t
    rw [hmod (t + b), hmod t]
    have hlt := Nat.mod_lt t h0
    by_cases hc : t % (b * c) + b < b * c
    · have e : (t + b) % (b * c) = t % (b * c) + b := by
        rw [Nat.add_mod]
        have hb2 : b % (b * c) = b := Nat.mod_eq_of_lt (by omega)
        rw [hb2, Nat.mod_eq_of_lt hc]
      rw [e, hs _ hc]
    · have e : (t + b) % (b * c) = t % (b * c) + b - b * c := by
        have h1 : (t + b) % (b * c) = (t % (b * c) + b) % (b * c) := by
          rw [Nat.add_mod, Nat.add_mod (t % (b * c)) b, Nat.mod_mod]
        rw [h1, Nat.mod_eq_sub_mod (by omega), Nat.mod_eq_of_lt (by omega)]
      rw [e]
      have hc0 : 0 < c := Nat.pos_of_ne_zero (by rintro rfl; simp at h0)
      obtain ⟨d, rfl⟩ : ∃ d, c = d + 1 := ⟨c - 1, by omega⟩
      have e2 : t % (b * (d + 1)) = (t % (b * (d + 1)) + b - b * (d + 1)) + d * b := by
        have : b * (d + 1) = d * b + b := by rw [Nat.mul_comm, Nat.succ_mul]
        omega
      have := hmul d (t % (b * (d + 1)) + b - b * (d + 1)) (by rw [← e2]; exact hlt)
      rw [← e2] at this
      exact this.symm
  · intro h
    apply List.ext_getElem?
    intro i
    simp only [List.getElem?_drop, List.getElem?_take, rows_get]
    by_cases hi : i < n - b
    · rw [if_pos (by omega), if_pos hi, if_pos (by omega), Nat.add_comm, h]
    · rw [if_neg (by omega), if_neg hi]
def roundT {α : Type} [DecidableEq α] (f : Nat → α) (n b : Nat) : Bool := decide (n % b = 0) && decide ((rowsOf f n).drop b = (rowsOf f n).take (n - b))
def roundF {α : Type} [DecidableEq α] (f : Nat → α) (n : Nat) : Nat := (((List.range (n - 1)).map fun i => 1 + i).find? (roundT f n)).getD n
theorem roundF_least {α : Type} [DecidableEq α] {f : Nat → α} {n : Nat} (hn : IsPer f n) (h0 : 0 < n) : LeastPer f (roundF f n) := by
  have hT : ∀ b, 0 < b → roundT f n b = true → IsPer f b := fun b hb h => by
    simp only [roundT, Bool.and_eq_true, decide_eq_true_eq] at h
    exact (test_per hn h0 hb (Nat.dvd_of_mod_eq_zero h.1)).mp h.2
  -- a least period exists
  have hex : ∃ p, LeastPer f p := by
    have : ∀ m, (∃ c, 0 < c ∧ c ≤ m ∧ IsPer f c) → ∃ p, LeastPer f p := fun m => by
      induction m with
      | zero => rintro ⟨c, h1, h2, _⟩; omega
      | succ m ih =>
        rintro ⟨c, h1, h2, h3⟩
        by_cases hm : ∃ c, 0 < c ∧ c ≤ m ∧ IsPer f c
        · exact ih hm
        · refine ⟨c, h1, h3, fun d hd hp => ?_⟩
          by_cases hdm : d ≤ m
          · exact absurd ⟨d, hd, hdm, hp⟩ hm
          · omega
    exact this n ⟨n, h0, Nat.le_refl _, hn⟩
  obtain ⟨p, hp⟩ := hex
  have hpd := hp.dvd hn
  have hple := Nat.le_of_dvd h0 hpd
  suffices h : roundF f n = p by rw [h]; exact hp
  unfold roundF
  cases hf : ((List.range (n - 1)).map fun i => 1 + i).find? (roundT f n) with
  | none =>
    rw [List.find?_eq_none] at hf
    show n = p
    by_cases hlt : p < n
    · exfalso
      refine hf p (by simp; exact ⟨p - 1, by have := hp.1; omega, by have := hp.1; omega⟩) ?_
      simp only [roundT, Bool.and_eq_true, decide_eq_true_eq]
      exact ⟨Nat.mod_eq_zero_of_dvd hpd, (test_per hn h0 hp.1 hpd).mpr hp.2.1⟩
    · omega
  | some b =>
    show b = p
    have hb := List.find?_some hf
    have hbm := List.mem_of_find?_eq_some hf
    simp only [List.mem_map, List.mem_range] at hbm
    obtain ⟨i, hi, rfl⟩ := hbm
    have h1 : p ≤ 1 + i := hp.2.2 _ (by omega) (hT _ (by omega) hb)
    by_cases hlt : p < 1 + i
    · exfalso
      rw [List.find?_eq_some_iff_append] at hf
      obtain ⟨_, as, bs, hab, hno⟩ := hf
      have hpa : p ∈ as := by
        have hidx : ((List.range (n - 1)).map fun i => 1 + i)[p - 1]? = some p := by
          rw [List.getElem?_map, List.getElem?_range (by have := hp.1; omega)]
          show some (1 + (p - 1)) = some p
          congr 1
          have := hp.1; omega
        have hi2 : ((List.range (n - 1)).map fun i => 1 + i)[as.length]? = some (1 + i) := by rw [hab]; simp
        have hal : as.length = i := by
          rw [List.getElem?_map] at hi2
          cases hq : (List.range (n - 1))[as.length]? with
          | none => rw [hq] at hi2; cases hi2
          | some j =>
            rw [hq] at hi2
            have hj : j = as.length := by
              have := List.getElem?_eq_some_iff.mp hq
              obtain ⟨hh, e⟩ := this
              simpa using e.symm
            have : 1 + j = 1 + i := Option.some.inj hi2
            omega
        rw [hab] at hidx
        rw [List.getElem?_append_left (by have := hp.1; omega)] at hidx
        exact List.mem_of_getElem? hidx
      have := hno p hpa
      rw [Bool.not_eq_true', ← Bool.not_eq_true] at this
      refine this ?_
      simp only [roundT, Bool.and_eq_true, decide_eq_true_eq]
      exact ⟨Nat.mod_eq_zero_of_dvd hpd, (test_per hn h0 hp.1 hpd).mpr hp.2.1⟩
    · omega
def rowF (st : Stack) (w : Nat) : Nat → List Bool := fun t => rowM st w (t : Int)
theorem rowF_per (st : Stack) (h : okSt st) (w : Nat) : IsPer (rowF st w) (whole st) := fun t => by
  unfold rowF
  rw [Int.natCast_add]
  exact rowM_per st h w _ _ (Nat.dvd_refl _)
def roundM (st : Stack) (w : Nat) : Nat := roundF (rowF st w) (whole st)
def F_round_of : FSp := fun ds S k => ∃ (st : Stack) (w : Nat), ds = [encSt st, .int (w : Int)] ∧ okSt st ∧ w ≤ 1000 ∧ k (.int ((roundM st w : Nat) : Int)) S
theorem wholes_one (st : Stack) : wholes [st] = whole st := by simp [wholes, whole]
/-- the whole round of one stack, as the program asks it -/
theorem call_whole {st : Stack} (h : okSt st) {S : Sto} {k : DK} (hk : k (.int ((whole st : Nat) : Int)) S) : callP F_whole_round [.lst [encSt st]] S k :=
  callP_intro (purC (purC (purSt _) rfl) rfl) (d := .int ((whole st : Nat) : Int)) rfl hk fun K hK => ⟨[st], rfl, fun s hs => by simp at hs; subst hs; exact h, by rw [wholes_one]; exact hK⟩
theorem call_row {st : Stack} {w : Nat} {b : Int} (h : okSt st) (hw : w ≤ 1000) {S : Sto} {k : DK} (hk : k (encR (rowM st w b)) S) : callP F_row [encSt st, .int (w : Int), .int b] S k :=
  callP_intro (purC (purSt _) rfl) (d := encR (rowM st w b)) rfl hk fun K hK => ⟨st, w, b, rfl, h, hw, hK⟩
theorem call_open {st : Stack} {p b : Int} (h : okSt st) {S : Sto} {k : DK} (hk : k (.bl (opn st p b)) S) : callP F_is_open [encSt st, .int p, .int b] S k :=
  callP_intro (purC (purSt _) rfl) (d := .bl (opn st p b)) rfl hk fun K hK => ⟨st, p, b, rfl, h, hK⟩
theorem p_round_of : ∀ ds S k, F_round_of ds S k → b_round_of F_whole_round F_row (bodyK k) (entry 6 ds) S := by
  rintro _ S k ⟨st, w, rfl, hs, hw, hk⟩
  refine ⟨l1, ?_⟩
  refine call_whole hs ?_
  have hwl := whole_le hs
  have hw0 := whole_pos hs
  refine ⟨⟨by omega, by omega⟩, ?_⟩
  rw [rng_map]
  refine lc_map (fun (i : Nat) => D.int (i : Int)) (fun (i : Nat) => encR (rowF st w i)) (List.range (whole st)) (by rw [List.length_range]; exact len_le (by omega)) (fun b hm K1 K0 h1 => call_row hs hw h1) ?_
  refine ⟨⟨by omega, by omega, by omega, by omega⟩, ?_⟩
  rw [show (1 : Int) = ((1 : Nat) : Int) from rfl, rng_map2]
  have hrows : (List.range (whole st)).map (fun (i : Nat) => encR (rowF st w i)) = (rowsOf (rowF st w) (whole st)).map encR := by simp [rowsOf, List.map_map, Function.comp_def]
  rw [hrows]
  refine forT_ind (fun (i : Nat) => D.int (i : Int)) (fun rest env s => s = S ∧ (∃ (c d : Option D), env = [some (encSt st), some (.int (w : Int)), some (.int ((whole st : Nat) : Int)), some (.lst ((rowsOf (rowF st w) (whole st)).map encR)), c, d]) ∧ (∀ b ∈ rest, 0 < b ∧ b < whole st) ∧ (rest.find? (roundT (rowF st w) (whole st))).getD (whole st) = roundM st w) ?_ ?_ _ _ S
    ⟨rfl, ⟨_, _, rfl⟩, fun b hb => ?_, rfl⟩
  · rintro _ _ ⟨rfl, ⟨c, d, rfl⟩, _, h⟩
    show k (.int ((whole st : Nat) : Int)) _
    have h' : whole st = roundM st w := h
    rw [h']; exact hk
  · rintro b rest _ S0 ⟨rfl, ⟨c, d, rfl⟩, hb, h⟩ N hN
    have hb1 := hb b (List.mem_cons_self ..)
    refine ⟨by omega, ?_⟩
    have e1 : ((whole st : Nat) : Int) % (b : Int) = ((whole st % b : Nat) : Int) := by rw [← Int.natCast_emod]
    show oEq (.int (((whole st : Nat) : Int) % (b : Int))) (.int 0) _ _
    rw [e1]
    refine eq_good (e := D.int) goodInt (by decide) rfl rfl ?_
    rw [List.find?_cons] at h
    refine br_intro (fun h1 => ?_) fun h1 => ?_
    · show oEq (.lst (cut ((rowsOf (rowF st w) (whole st)).map encR) (some (b : Int)) none)) (.lst (cut ((rowsOf (rowF st w) (whole st)).map encR) none (some (((whole st : Nat) : Int) - (b : Int))))) _ _
      have e2 : ((whole st : Nat) : Int) - (b : Int) = ((whole st - b : Nat) : Int) := by omega
      rw [e2, cut_from, cut_to, ← List.map_drop, ← List.map_take]
      refine eq_good (e := fun l : List (List Bool) => D.lst (l.map encR)) goodR.lst (by decide) rfl rfl ?_
      have hz : whole st % b = 0 := by
        have := of_decide_eq_true h1
        omega
      refine br_intro (fun h2 => ?_) fun h2 => ?_
      · have : roundT (rowF st w) (whole st) b = true := by
          simp only [roundT, Bool.and_eq_true, decide_eq_true_eq]
          exact ⟨hz, by simpa using h2⟩
        rw [this] at h
        show k (.int (b : Int)) _
        have h' : b = roundM st w := h
        rw [h']; exact hk
      · have : roundT (rowF st w) (whole st) b = false := by
          simp only [roundT, Bool.and_eq_false_iff]
          exact .inr h2
        rw [this] at h
        exact hN _ _ ⟨rfl, ⟨_, _, rfl⟩, fun c hc => hb c (List.mem_cons_of_mem _ hc), h⟩
    · have : roundT (rowF st w) (whole st) b = false := by
        simp only [roundT, Bool.and_eq_false_iff]
        refine .inl ?_
        have : ¬ ((whole st % b : Nat) : Int) = 0 := by simpa using h1
        simp only [decide_eq_false_iff_not]
        omega
      rw [this] at h
      exact hN _ _ ⟨rfl, ⟨_, _, rfl⟩, fun c hc => hb c (List.mem_cons_of_mem _ hc), h⟩
  · simp only [List.mem_map, List.mem_range] at hb
    obtain ⟨i, hi, rfl⟩ := hb
    omega
end Dat
set_option Elab.async false
set_option linter.all false
set_option maxRecDepth 100000
set_option maxHeartbeats 1000000
/-! PlC: counts, first beats. -/
namespace Dat

/-- how many of a, .., a + n - 1 -/
def cnt (f : Nat → Bool) (a n : Nat) : Nat := ((List.range n).filter fun i => f (a + i)).length
theorem cnt_add (f : Nat → Bool) (a n m : Nat) : cnt f a (n + m) = cnt f a n + cnt f (a + n) m := by
  unfold cnt
  rw [List.range_add, List.filter_append, List.length_append, List.filter_map, List.length_map]
  congr 2
  refine List.filter_congr fun i _ => ?_
  simp [Function.comp_def, Nat.add_assoc]
theorem cnt_one (f : Nat → Bool) (a : Nat) : cnt f a 1 = if f a then 1 else 0 := by
  unfold cnt
  cases h : f a <;> simp [List.range_succ, h]
theorem cnt_le (f : Nat → Bool) (a n : Nat) : cnt f a n ≤ n := by
  unfold cnt
  exact Nat.le_trans (List.length_filter_le _ _) (by simp)
theorem cnt_congr {f g : Nat → Bool} {a b n : Nat} (h : ∀ i, i < n → f (a + i) = g (b + i)) : cnt f a n = cnt g b n := by
  unfold cnt
  congr 1
  exact List.filter_congr fun i hi => h i (by simpa using hi)
/-- a whole round counts the same from anywhere -/
theorem cnt_round {f : Nat → Bool} {n : Nat} (h : IsPer f n) : ∀ a, cnt f a n = cnt f 0 n
  | 0 => rfl
  | a + 1 => by
    have h1 := cnt_add f a 1 n
    have h2 := cnt_add f a n 1
    rw [Nat.add_comm 1 n] at h1
    rw [h1, cnt_one, cnt_one, h a] at h2
    rw [← cnt_round h a]
    omega
theorem cnt_rounds {f : Nat → Bool} {n : Nat} (h : IsPer f n) (a : Nat) : ∀ q, cnt f a (q * n) = q * cnt f 0 n
  | 0 => by simp [cnt]
  | q + 1 => by rw [Nat.succ_mul, cnt_add, cnt_rounds h a q, cnt_round h (a + q * n), Nat.succ_mul]
theorem cnt_split {f : Nat → Bool} {n : Nat} (h : IsPer f n) (a m : Nat) : cnt f a m = m / n * cnt f 0 n + cnt f a (m % n) := by
  have e : m = m / n * n + m % n := by rw [Nat.mul_comm]; exact (Nat.div_add_mod m n).symm
  conv => lhs; rw [e]
  rw [cnt_add, cnt_rounds h]
  congr 1
  refine cnt_congr fun i _ => ?_
  have := h.mul (m / n) (a + i)
  rw [← this]
  congr 1
  omega
def opnF (st : Stack) (pl : Int) : Nat → Bool := fun t => opn st pl (t : Int)
theorem opnF_per (st : Stack) (h : okSt st) (pl : Int) : IsPer (opnF st pl) (whole st) := fun t => by
  unfold opnF
  rw [Int.natCast_add]
  exact opn_per st h pl _ _ (Nat.dvd_refl _)
def F_how_often : FSp := fun ds S k => ∃ (st : Stack) (pl : Int) (a b : Nat), ds = [encSt st, .int pl, .int (a : Int), .int (b : Int)] ∧ okSt st ∧ a ≤ b ∧ b < 2 ^ 63 ∧ k (.int ((cnt (opnF st pl) a (b - a) : Nat) : Int)) S
theorem filter_ones (l : List Bool) : (((l.filter fun b => b).map fun _ => D.int 1).length) = (l.filter fun b => b).length := by simp
theorem opens_cnt (f : Nat → Bool) (n : Nat) : ((((List.range n).map f).filter fun b => b).length) = cnt f 0 n := by
  unfold cnt
  rw [List.filter_map, List.length_map]
  congr 1
  exact List.filter_congr fun i _ => by simp [Function.comp_def]
theorem opens_at (f : Nat → Bool) (n i : Nat) (h : i < n) : atI ((List.range n).map fun i => D.bl (f i)) (i : Int) = some (.bl (f i)) :=
  atI_nat _ i _ (by rw [List.getElem?_map, List.getElem?_range h]; rfl)
theorem p_how_often : ∀ ds S k, F_how_often ds S k → b_how_often F_whole_round F_is_open (bodyK k) (entry 9 ds) S := by
  rintro _ S k ⟨st, pl, a, b, rfl, hs, hab, hb, hk⟩
  have hwl := whole_le hs
  have hw0 := whole_pos hs
  refine ⟨l1, call_whole hs ?_⟩
  refine ⟨⟨by omega, by omega⟩, ?_⟩
  rw [rng_map]
  refine lc_map (fun (i : Nat) => D.int (i : Int)) (fun (i : Nat) => .bl (opnF st pl i)) (List.range (whole st)) (by rw [List.length_range]; exact len_le (by omega)) (fun b hm K1 K0 h1 => call_open hs h1) ?_
  -- found
  refine ⟨⟨by omega, by rw [Int.natAbs_natCast]; exact log2_small (by omega)⟩, ?_⟩
  have hl : (List.range (whole st)).map (fun (i : Nat) => D.bl (opnF st pl i)) = ((List.range (whole st)).map (opnF st pl)).map D.bl := by rw [List.map_map]; rfl
  rw [hl]
  refine lc_pure D.bl (fun b => b) (fun _ => .int 1) ((List.range (whole st)).map (opnF st pl)) [] (by rw [List.length_map, List.length_range]; exact len_le (by simp; omega)) (fun b hm K1 K0 h1 h0 => ?_) ?_
  · cases b with
    | true => exact h1 rfl
    | false => exact h0 rfl
  have e1 : (b : Int) - (a : Int) = ((b - a : Nat) : Int) := by omega
  show MulOk (((b : Int) - (a : Int)) / ((whole st : Nat) : Int)) ((([] : List D) ++ ((((List.range (whole st)).map (opnF st pl)).filter fun b => b).map fun _ => D.int 1)).length : Nat) ∧ _
  rw [List.nil_append, filter_ones, opens_cnt, e1, ← Int.natCast_ediv]
  have hc := cnt_le (opnF st pl) 0 (whole st)
  have hq : (b - a) / whole st ≤ b - a := Nat.div_le_self _ _
  refine ⟨.inr (.inl ⟨by omega, by omega⟩), ?_⟩
  -- the rest
  refine ⟨by omega, ?_⟩
  rw [e1, ← Int.natCast_emod]
  have hm := Nat.mod_lt (b - a) hw0
  refine ⟨⟨by omega, by omega⟩, ?_⟩
  rw [rng_map]
  refine lc_pure (fun (i : Nat) => D.int (i : Int)) (fun i => opnF st pl (a + i)) (fun _ => .int 1) (List.range ((b - a) % whole st)) [] (by rw [List.length_range]; exact len_le (by simp; omega)) (fun i hi K1 K0 h1 h0 => ?_) ?_
  · refine ⟨by omega, ?_⟩
    rw [← Int.natCast_add, ← Int.natCast_emod, ← hl]
    refine onO_intro (opens_at (opnF st pl) (whole st) _ (Nat.mod_lt _ hw0)) ?_
    have e2 : opnF st pl ((a + i) % whole st) = opnF st pl (a + i) := opn_mod st hs pl (a + i)
    rw [e2]
    exact br_intro h1 h0
  · show k (.int (((((b - a) / whole st : Nat) : Int) * ((cnt (opnF st pl) 0 (whole st) : Nat) : Int)) + ((([] : List D) ++ (((List.range ((b - a) % whole st)).filter fun i => opnF st pl (a + i)).map fun _ => D.int 1)).length : Nat))) S
    rw [List.nil_append, List.length_map]
    have := cnt_split (opnF_per st hs pl) a (b - a)
    have e3 : ((List.range ((b - a) % whole st)).filter fun i => opnF st pl (a + i)).length = cnt (opnF st pl) a ((b - a) % whole st) := rfl
    rw [e3, ← Int.natCast_mul, ← Int.natCast_add, ← this]
    exact hk

/-! ### the first beat at which some places are open -/
@[reducible] def encP (ps : List Nat) : D := .tup (ps.map fun (p : Nat) => D.int (p : Int))
theorem purP (ps : List Nat) : (encP ps).pur = true := by simp only [encP, D.pur]; exact purAll_map (fun _ => rfl) ps
def opnA (st : Stack) (ps : List Nat) (t : Nat) : Bool := ps.all fun p => opn st (p : Int) (t : Int)
def nextM (st : Stack) (ps : List Nat) (b : Nat) : Option Nat := (((List.range (whole st)).find? fun m => opnA st ps (b + m))).map (b + ·)
def encON : Option Nat → D
  | none => .non
  | some i => .int (i : Int)
theorem goodON : GoodE encON 0 := ⟨fun a b => by
  cases a <;> cases b <;> simp only [encON, D.eqv, Option.some.injEq, reduceCtorEq, decide_false, decide_true]
  rename_i a b
  rw [Bool.beq_eq_decide_eq]
  exact decide_eq_decide.mpr (by omega), fun a => by cases a <;> rfl, fun a => by cases a <;> rfl, fun a => by cases a <;> simp [encON, D.dep]⟩
def F_next_open : FSp := fun ds S k => ∃ (st : Stack) (ps : List Nat) (b : Nat), ds = [encSt st, encP ps, .int (b : Int)] ∧ okSt st ∧ ps.length ≤ 1000 ∧ k (encON (nextM st ps b)) S
theorem p_next_open : ∀ ds S k, F_next_open ds S k → b_next_open F_whole_round F_is_open (bodyK k) (entry 5 ds) S := by
  rintro _ S k ⟨st, ps, b, rfl, hs, hp, hk⟩
  have hwl := whole_le hs
  refine ⟨l1, call_whole hs ?_⟩
  refine ⟨⟨by omega, by omega⟩, ?_⟩
  rw [rng_map]
  refine forT_ind (fun (i : Nat) => D.int (i : Int)) (fun rest env s => s = S ∧ (∃ (c d : Option D), env = [some (encSt st), some (encP ps), some (.int (b : Int)), c, d]) ∧ (rest.find? fun m => opnA st ps (b + m)).map (b + ·) = nextM st ps b) ?_ ?_ _ _ S
    ⟨rfl, ⟨_, _, rfl⟩, rfl⟩
  · rintro _ _ ⟨rfl, ⟨c, d, rfl⟩, h⟩
    show k .non _
    have h' : none = nextM st ps b := h
    rw [← h'] at hk; exact hk
  · rintro m rest _ S0 ⟨rfl, ⟨c, d, rfl⟩, h⟩ N hN
    refine lc_map (fun (p : Nat) => D.int (p : Int)) (fun p => .bl (opn st (p : Int) ((b + m : Nat) : Int))) ps (by exact len_le (by omega)) (fun p hm K1 K0 h1 => call_open hs (by rw [Int.natCast_add] at h1; exact h1)) ?_
    refine onO_intro (blsD_map _ ps) ?_
    have e : (ps.map fun (p : Nat) => opn st (p : Int) ((b + m : Nat) : Int)).all id = opnA st ps (b + m) := by simp [opnA, List.all_map, Function.comp_def]
    rw [List.find?_cons] at h
    refine br_intro (fun h1 => ?_) fun h1 => ?_
    · rw [e] at h1
      rw [h1] at h
      show k (.int ((b : Int) + (m : Int))) _
      have h' : some (b + m) = nextM st ps b := h
      rw [← h'] at hk; rw [← Int.natCast_add]; exact hk
    · rw [e] at h1
      rw [h1] at h
      exact hN _ _ ⟨rfl, ⟨_, _, rfl⟩, h⟩
theorem opnA_per (st : Stack) (h : okSt st) (ps : List Nat) : IsPer (opnA st ps) (whole st) := fun t => by
  unfold opnA
  have : ∀ l : List Nat, (l.all fun p => opn st (p : Int) ((t + whole st : Nat) : Int)) = l.all fun p => opn st (p : Int) (t : Int) := fun l => by
    induction l with
    | nil => rfl
    | cons p l ih => rw [List.all_cons, List.all_cons, ih, Int.natCast_add, opn_per st h _ _ _ (Nat.dvd_refl _)]
  exact this ps
/-- what next_open tells: the least, or never -/
theorem nextM_spec (st : Stack) (h : okSt st) (ps : List Nat) (b : Nat) : match nextM st ps b with
    | some t => b ≤ t ∧ opnA st ps t = true ∧ ∀ u, b ≤ u → u < t → opnA st ps u = false
    | none => ∀ u, opnA st ps u = false := by
  have hw0 := whole_pos h
  unfold nextM
  cases hf : (List.range (whole st)).find? fun m => opnA st ps (b + m) with
  | none =>
    rw [List.find?_eq_none] at hf
    intro u
    have hper := opnA_per st h ps
    -- a beat from b on with the same rest
    have h1 : opnA st ps u = opnA st ps (u + b * whole st) := (hper.mul b u).symm
    have hge : b ≤ u + b * whole st := by
      have : b * 1 ≤ b * whole st := Nat.mul_le_mul_left _ hw0
      omega
    have h2 : opnA st ps (u + b * whole st) = opnA st ps (b + (u + b * whole st - b) % whole st) := by
      have e := Nat.mod_add_div (u + b * whole st - b) (whole st)
      have := hper.mul ((u + b * whole st - b) / whole st) (b + (u + b * whole st - b) % whole st)
      rw [Nat.add_assoc, Nat.mul_comm ((u + b * whole st - b) / whole st), e] at this
      rw [← this]
      congr 1
      omega
    rw [h1, h2]
    have := hf ((u + b * whole st - b) % whole st) (List.mem_range.mpr (Nat.mod_lt _ hw0))
    simpa using this
  | some m =>
    have h1 := List.find?_some hf
    refine ⟨Nat.le_add_right _ _, h1, fun u hu hlt => ?_⟩
    have hlt' : u < b + m := hlt
    have hm := List.mem_of_find?_eq_some hf
    rw [List.mem_range] at hm
    rw [List.find?_range_eq_some] at hf
    have := hf.2.2 (u - b) (by omega)
    have e : b + (u - b) = u := by omega
    rw [e] at this
    simpa using this
end Dat
set_option Elab.async false
set_option linter.all false
set_option maxRecDepth 100000
set_option maxHeartbeats 1000000
set_option exponentiation.threshold 2000
/-! PlD: the law's draws. -/
namespace Dat

def okD (i j : Int) : Prop := 0 ≤ i ∧ i < 10 ^ 300 ∧ 0 ≤ j ∧ j < 2147483648
/-- the n-th object is a list of draws -/
def Drw (S : Sto) (n : Nat) : Prop := ∃ i j, S[n]? = some (.lst [.int i, .int j]) ∧ okD i j
/-- nothing but the n-th object has changed -/
def Stp (n : Nat) (S S' : Sto) : Prop := S'.length = S.length ∧ ∀ m, m ≠ n → S'[m]? = S[m]?
theorem Stp.refl (n : Nat) (S : Sto) : Stp n S S := ⟨rfl, fun _ _ => rfl⟩
theorem Stp.trans {n : Nat} {S T U : Sto} (a : Stp n S T) (b : Stp n T U) : Stp n S U := ⟨b.1.trans a.1, fun m h => (b.2 m h).trans (a.2 m h)⟩
theorem Drw.lt {S : Sto} {n : Nat} (h : Drw S n) : n < S.length := by
  obtain ⟨i, j, h, _⟩ := h
  exact (List.getElem?_eq_some_iff.mp h).1
theorem Drw.one {S : Sto} (h : Drw S 0) (hl : S.length = 1) : ∃ i j, S = [.lst [.int i, .int j]] ∧ okD i j := by
  obtain ⟨i, j, h, ho⟩ := h
  cases S with
  | nil => cases hl
  | cons a r =>
    cases r with
    | nil => simp at h; exact ⟨i, j, by rw [h], ho⟩
    | cons _ _ => simp at hl
/-- a call that is handed the draws -/
theorem callM_intro {F : FSp} {n : Nat} {rest : List D} {S : Sto} {k : DK} (h : Drw S n) (hp : D.purAll rest = true) (P : D → Prop)
    (hF : ∀ S1, Drw S1 0 → S1.length = 1 → ∀ K : DK, (∀ d S', P d → Drw S' 0 → S'.length = 1 → K d S') → F (.own 0 :: rest) S1 K) (hP : ∀ d, P d → d.pur = true) (hk : ∀ d S', P d → Drw S' n → Stp n S S' → k d S') : callM F (.own n :: rest) S k := by
  obtain ⟨i, j, hS, ho⟩ := h
  refine ⟨hp, onO_intro hS ⟨rfl, ?_⟩⟩
  refine hF _ ⟨i, j, rfl, ho⟩ rfl _ fun d S' pd hd hl => ?_
  obtain ⟨i', j', rfl, ho'⟩ := hd.one hl
  refine onO_intro (show ([MO.lst [.int i', .int j']] : Sto)[0]? = some _ from rfl) ⟨rfl, onO_intro (thawM_pur (hP d pd)) (hk d _ pd ⟨i', j', ?_, ho'⟩ ⟨by simp, fun m hm => ?_⟩)⟩
  · exact List.getElem?_set_self (List.getElem?_eq_some_iff.mp hS).1
  · exact List.getElem?_set_ne (Ne.symm hm)

def isInt (lo hi : Int) (d : D) : Prop := ∃ r, d = .int r ∧ lo ≤ r ∧ r < hi
def F_law_draw : FSp := fun ds S k => ∃ many : Int, ds = [.own 0, .int many] ∧ Drw S 0 ∧ S.length = 1 ∧ 1 ≤ many ∧ many ≤ 10 ^ 18 ∧ ∀ d S', isInt 0 many d → Drw S' 0 → S'.length = 1 → k d S'
theorem log2_many {n : Int} (h : 1 ≤ n) (h2 : n ≤ 10 ^ 18) : n.natAbs.log2 < 9000 := log2_small (by
  have : (10 : Int) ^ 18 < 2 ^ 64 := by decide
  omega)
theorem p_law_draw : ∀ ds S k, F_law_draw ds S k → b_law_draw (bodyK k) (entry 4 ds) S := by
  rintro _ S k ⟨many, rfl, hd, hl, h1, h2, hk⟩
  obtain ⟨i, j, rfl, h0, hi, hj0, hj⟩ := hd.one hl
  refine br_intro (fun h => ?_) fun h => ?_
  · have hpos : 0 < i := by simpa using h
    refine ⟨by omega, ?_⟩
    refine ⟨⟨by omega, log2_many h1 h2⟩, ?_⟩
    refine hk _ _ ⟨_, rfl, Int.emod_nonneg _ (by omega), Int.emod_lt_of_pos _ (by omega)⟩ ⟨i / many, j, rfl, Int.ediv_nonneg h0 (by omega), ?_, hj0, hj⟩ rfl
    exact Int.lt_of_le_of_lt (Int.ediv_le_self _ h0) hi
  · refine while_ind (fun e s => ∃ (a w i' j' : Int), e = [some (.own 0), some (.int many), some (.int a), some (.int w)] ∧ s = [.lst [.int i', .int j']] ∧ okD i' j' ∧ 1 ≤ w)
      (fun e _ => match e with | [_, _, _, some (.int w)] => (many - w).toNat | _ => 0) ⟨0, 1, i, j, rfl, rfl, ⟨h0, hi, hj0, hj⟩, by decide⟩ ?_
    rintro _ _ ⟨a, w, i', j', rfl, rfl, ⟨o1, o2, o3, o4⟩, hw⟩ N hN
    refine br_intro (fun hlt => ?_) fun hge => ?_
    · have hlt' : w < many := by simpa using hlt
      refine ⟨.inr (.inl ⟨by decide, by decide⟩), by decide, ?_⟩
      have m1 : 0 ≤ j' * 69621 % 2147483647 := Int.emod_nonneg _ (by decide)
      have m2 : j' * 69621 % 2147483647 < 2147483647 := Int.emod_lt_of_pos _ (by decide)
      refine ⟨.inr (.inl ⟨by decide, by decide⟩), ?_⟩
      refine ⟨⟨by decide, by decide⟩, ?_⟩
      refine ⟨.inl ⟨?_, ?_⟩, ?_⟩
      · show -(2 ^ 64) < j' * 69621 % 2147483647
        omega
      · show j' * 69621 % 2147483647 < 2 ^ 64
        omega
      refine ⟨by decide, ⟨by decide, by decide⟩, ?_⟩
      refine ⟨.inr (.inl ⟨by decide, by decide⟩), ?_⟩
      refine hN _ _ ⟨_, w * 268435456, i', _, rfl, rfl, ⟨o1, o2, m1, by omega⟩, by omega⟩ ?_
      show (many - w * 268435456).toNat < (many - w).toNat
      omega
    · refine ⟨by omega, ?_⟩
      exact hk _ _ ⟨_, rfl, Int.emod_nonneg _ (by omega), Int.emod_lt_of_pos _ (by omega)⟩ ⟨i', j', rfl, o1, o2, o3, o4⟩ rfl
theorem call_draw {n : Nat} {many : Int} {S : Sto} {k : DK} (h : Drw S n) (h1 : 1 ≤ many) (h2 : many ≤ 10 ^ 18) (hk : ∀ r S', 0 ≤ r → r < many → Drw S' n → Stp n S S' → k (.int r) S') : callM F_law_draw [.own n, .int many] S k :=
  callM_intro h rfl (isInt 0 many) (fun S1 hd hl K hK => ⟨many, rfl, hd, hl, h1, h2, hK⟩) (fun d ⟨r, e, _⟩ => by rw [e]; rfl) fun d S' ⟨r, e, a, b⟩ hd hs => by rw [e]; exact hk r S' a b hd hs

/-! ### the draws of a cell -/
def F_law_draws : FSp := fun ds S k => ∃ (ns : List Int) (c : Nat), ds = [.scr ns, .int (c : Int)] ∧ c < 64 ∧ ns.length ≤ 63 ∧ S = [] ∧ ∀ i j, okD i j → k (.own 0) [.lst [.int i, .int j]]
theorem okD_mk {c : Int} {k : Nat} (h0 : 0 ≤ c) (h1 : c < 10 ^ 300) (b : Bool) : okD (c * (if b then 1 else 0)) (1 + (c * 69621 + 86028121 * ((k : Int) + 1)) % 2147483646) := by
  have m1 : 0 ≤ (c * 69621 + 86028121 * ((k : Int) + 1)) % 2147483646 := Int.emod_nonneg _ (by decide)
  have m2 : (c * 69621 + 86028121 * ((k : Int) + 1)) % 2147483646 < 2147483646 := Int.emod_lt_of_pos _ (by decide)
  refine ⟨?_, ?_, by omega, by omega⟩
  · cases b with
    | true => simpa using h0
    | false => simp
  · cases b with
    | true => simpa using h1
    | false => simp
theorem big300 : ((10 : Int) ^ (60 : Int).toNat * 10 ^ (60 : Int).toNat * 10 ^ (60 : Int).toNat * 10 ^ (60 : Int).toNat * 10 ^ (60 : Int).toNat) = 10 ^ 300 := by decide +kernel
theorem scr_at {ns : List Int} {i : Nat} (h : i < ns.length) : atI ns (i : Int) = some ns[i] := atI_nat _ _ _ (List.getElem?_eq_getElem h)
theorem p_law_draws : ∀ ds S k, F_law_draws ds S k → b_law_draws (bodyK k) (entry 3 ds) S := by
  rintro _ _ k ⟨ns, c, rfl, hc, hl, rfl, hk⟩
  have fin : ∀ cell : Int, 0 ≤ cell → cell < 10 ^ 300 → sRetN (nLst (aCons (dOp oMul (dVar 2) (dCB cInt (aCons (dOp oGe (dVar 2) (dOp oPow (dC (.int 10)) (dC (.int 18)))) (aNil)))) (aCons (dOp oAdd (dC (.int 1)) (dOp oMod (dOp oAdd (dOp oMul (dVar 2) (dC (.int 69621))) (dOp oMul (dC (.int 86028121)) (dOp oAdd (dVar 1) (dC (.int 1))))) (dC (.int 2147483646)))) (aNil)))) (bodyK k) [some (.scr ns), some (.int (c : Int)), some (.int cell)] [] := by
    intro cell h0 h1
    refine ⟨⟨by decide, by decide, by decide⟩, ?_⟩
    refine ⟨.inr (.inl ?_), ?_⟩
    · split <;> decide
    refine ⟨.inr (.inl ⟨by decide, by decide⟩), ?_⟩
    refine ⟨.inl ⟨by decide, by decide⟩, ?_⟩
    refine ⟨by decide, l2, ?_⟩
    exact hk _ _ (okD_mk h0 h1 _)
  refine ⟨.inl ⟨by decide, by decide⟩, ?_⟩
  refine br_intro (fun h => ?_) fun h => ?_
  · have hlt : c < ns.length := by have := of_decide_eq_true h; omega
    refine onO_intro (scr_at hlt) ?_
    refine ⟨⟨by decide, by decide, by decide⟩, ⟨by decide, by decide, by decide⟩, .inr (.inr (by decide +kernel)), ?_⟩
    refine ⟨⟨by decide, by decide, by decide⟩, .inr (.inr (by decide +kernel)), ?_⟩
    refine ⟨⟨by decide, by decide, by decide⟩, .inr (.inr (by decide +kernel)), ?_⟩
    refine ⟨⟨by decide, by decide, by decide⟩, .inr (.inr (by decide +kernel)), ?_⟩
    refine ⟨by decide +kernel, ?_⟩
    refine fin _ (Int.emod_nonneg _ (by decide +kernel)) ?_
    rw [big300]
    exact Int.emod_lt_of_pos _ (by decide +kernel)
  · have hge : ns.length ≤ c := by have := of_decide_eq_false h; omega
    refine br_intro (fun h2 => ?_) fun h2 => ?_
    · have hpos : 0 < ns.length := by have := of_decide_eq_true h2; omega
      refine ⟨by omega, ?_⟩
      rw [← Int.natCast_emod]
      refine onO_intro (scr_at (Nat.mod_lt c hpos)) ?_
      refine ⟨⟨by decide, by decide, by decide⟩, ⟨by decide, ?_⟩⟩
      refine ⟨.inl ⟨by decide, by decide⟩, ?_⟩
      have m1 : ∀ x : Int, 0 ≤ x % 10 ^ (15 : Int).toNat := fun x => Int.emod_nonneg _ (by decide)
      have m2 : ∀ x : Int, x % 10 ^ (15 : Int).toNat < 10 ^ 15 := fun x => Int.emod_lt_of_pos _ (by decide)
      have hm := Nat.mod_lt c hpos
      refine fin _ (by have := m1 ns[c % ns.length]; omega) (Int.lt_trans (b := 10 ^ 16) ?_ (by decide +kernel))
      have := m2 ns[c % ns.length]
      omega
    · exact fin _ (by omega) (Int.lt_trans (b := 10 ^ 16) (by omega) (by decide +kernel))
end Dat
set_option Elab.async false
set_option linter.all false
set_option maxRecDepth 100000
set_option maxHeartbeats 1000000
set_option exponentiation.threshold 2000
/-! PlE: drawn patterns, sheets, stacks. -/
namespace Dat
local macro_rules | `(tactic| symm_saturate) => `(tactic| with_reducible conv => whnf)
theorem at_mem {α : Type} {xs : List α} {r : Int} (h0 : 0 ≤ r) (h1 : r < xs.length) : ∃ x, x ∈ xs ∧ atI xs r = some x := by
  obtain ⟨n, rfl⟩ : ∃ n : Nat, r = (n : Int) := ⟨r.toNat, by omega⟩
  have hn : n < xs.length := by omega
  exact ⟨xs[n], List.getElem_mem hn, atI_nat _ _ _ (List.getElem?_eq_getElem hn)⟩
theorem call_law_draw {n : Nat} {many : Int} {S : Sto} {k : DK} (h : Drw S n) (h1 : 1 ≤ many) (h2 : many ≤ 10 ^ 18) (hk : ∀ r S', 0 ≤ r → r < many → Drw S' n → Stp n S S' → k (.int r) S') : callM F_law_draw [.own n, .int many] S k := call_draw h h1 h2 hk
def isPat (m : Int) (d : D) : Prop := ∃ p : List Bool, d = encR p ∧ p ≠ [] ∧ (p.length : Int) ≤ m
def F_law_pattern : FSp := fun ds S k => ∃ m : Int, ds = [.own 0, .int m] ∧ Drw S 0 ∧ S.length = 1 ∧ 1 ≤ m ∧ m ≤ 100 ∧ ∀ d S', isPat m d → Drw S' 0 → S'.length = 1 → k d S'
theorem many_ok {n : Int} (h : n ≤ 1000) : n ≤ 10 ^ 18 := Int.le_trans h (by decide)
theorem p_law_pattern : ∀ ds S k, F_law_pattern ds S k → b_law_pattern F_law_draw (bodyK k) (entry 5 ds) S := by
  rintro _ S k ⟨m, rfl, hd, hl, h1, h2, hk⟩
  refine ⟨l4, call_draw hd (by decide) (by decide) fun r S1 r0 r1 hd1 st1 => ?_⟩
  obtain ⟨x, hx, ha⟩ := at_mem (xs := [D.int 1, .int 2, .int 4, .int 9]) r0 (by simpa using r1)
  refine onO_intro ha ?_
  obtain ⟨sh, rfl, s1, s9⟩ : ∃ s : Int, x = .int s ∧ 1 ≤ s ∧ s ≤ 9 := by
    simp only [List.mem_cons, List.not_mem_nil, or_false] at hx
    rcases hx with rfl | rfl | rfl | rfl
    · exact ⟨1, rfl, by decide, by decide⟩
    · exact ⟨2, rfl, by decide, by decide⟩
    · exact ⟨4, rfl, by decide, by decide⟩
    · exact ⟨9, rfl, by decide, by decide⟩
  symm_saturate
  refine call_draw hd1 h1 (many_ok (by omega)) fun q S2 q0 q1 hd2 st2 => ?_
  have hl2 : S2.length = 1 := st2.1.trans (st1.1.trans hl)
  obtain ⟨n, rfl⟩ : ∃ n : Nat, q = (n : Int) := ⟨q.toNat, by omega⟩
  refine ⟨⟨by omega, by omega⟩, ?_⟩
  have e : (1 : Int) + (n : Int) = ((1 + n : Nat) : Int) := by omega
  rw [e, rng_map]
  refine lc_inv_map (fun (i : Nat) => D.int (i : Int)) (fun S => Drw S 0 ∧ S.length = 1) (fun y => ∃ b : Bool, y = .str [sgn b] ∧ True) (List.range (1 + n)) [] S2 (by rw [List.length_range]; exact len_le (by simp; omega)) ⟨hd2, hl2⟩ (fun y hy => nomatch hy) (fun i hi S3 ⟨hd3, hl3⟩ K1 K0 hK => ?_) fun ys S4 ⟨hd4, hl4⟩ hly hys => ?_
  · refine call_draw hd3 (by omega) (many_ok (by omega)) fun r S5 r0 r1 hd5 st5 => ?_
    refine eq_good (e := D.int) goodInt (by decide) rfl rfl ?_
    refine br_intro (fun _ => hK _ _ ⟨false, rfl, trivial⟩ ⟨hd5, st5.1.trans hl3⟩) fun _ => hK _ _ ⟨true, rfl, trivial⟩ ⟨hd5, st5.1.trans hl3⟩
  · obtain ⟨bs, rfl, _⟩ := all_enc (enc := fun b : Bool => D.str [sgn b]) (Q := fun _ => True) hys
    refine onO_intro (strsD_map (fun b : Bool => [sgn b]) bs) ⟨?_, ?_⟩
    · have hlb : bs.length = 1 + n := by simpa using hly
      have : ∀ l : List Bool, ((l.map fun b => [sgn b]).map (·.length)).sum = l.length := fun l => by
        induction l with
        | nil => rfl
        | cons a l ih => simp only [List.map_cons, List.sum_cons, ih, List.length_cons, List.length_nil]; omega
      rw [this]
      exact len_le (by simp; omega)
    · have e : joinS [] (bs.map fun b => [sgn b]) = bs.map sgn := by
        have : (bs.map fun b => [sgn b]) = (bs.map sgn).map fun c => [c] := by simp [List.map_map, Function.comp_def]
        rw [this, joinS_nil_ones]
      show k (.str (joinS [] _)) S4
      rw [e]
      have hlb : bs.length = 1 + n := by simpa using hly
      refine hk _ _ ⟨bs, rfl, ?_, by omega⟩ hd4 hl4
      rintro rfl
      simp at hlb
      omega
theorem call_pattern {n : Nat} {m : Int} {S : Sto} {k : DK} (h : Drw S n) (h1 : 1 ≤ m) (h2 : m ≤ 100) (hk : ∀ p S', p ≠ [] → (p.length : Int) ≤ m → Drw S' n → Stp n S S' → k (encR p) S') : callM F_law_pattern [.own n, .int m] S k :=
  callM_intro h rfl (isPat m) (fun S1 hd hl K hK => ⟨m, rfl, hd, hl, h1, h2, hK⟩) (fun d ⟨r, e, _⟩ => by rw [e]; rfl) fun d S' ⟨r, e, a, b⟩ hd hs => by rw [e]; exact hk r S' a b hd hs
/-- a drawn sheet -/
def Sheet.drawn (s : Sheet) (m : Int) : Prop := s.ok ∧ (s.pat.length : Int) ≤ m ∧ 0 ≤ s.first ∧ s.first < s.pat.length
def isSheetD (m : Int) (d : D) : Prop := ∃ s : Sheet, d = encS s ∧ s.drawn m
def F_law_sheet : FSp := fun ds S k => ∃ m : Int, ds = [.own 0, .int m] ∧ Drw S 0 ∧ S.length = 1 ∧ 1 ≤ m ∧ m ≤ 10 ∧ ∀ d S', isSheetD m d → Drw S' 0 → S'.length = 1 → k d S'
theorem p_law_sheet : ∀ ds S k, F_law_sheet ds S k → b_law_sheet F_law_pattern F_law_draw (bodyK k) (entry 4 ds) S := by
  rintro _ S k ⟨m, rfl, hd, hl, h1, h2, hk⟩
  refine call_pattern hd h1 (by omega) fun p S1 p0 p1 hd1 st1 => ?_
  symm_saturate
  refine call_draw hd1 (by decide) (by decide) fun a S2 a0 a1 hd2 st2 => ?_
  symm_saturate
  refine call_draw hd2 (by decide) (by decide) fun b S3 b0 b1 hd3 st3 => ?_
  refine ⟨l3, ?_⟩
  refine call_draw hd3 (by decide) (by decide) fun r S4 r0 r1 hd4 st4 => ?_
  obtain ⟨x, hx, ha⟩ := at_mem (xs := [D.int (a - 10), .int 1, .int (b - 1)]) r0 (by simpa using r1)
  refine onO_intro ha ?_
  obtain ⟨pc, rfl, c1, c9⟩ : ∃ s : Int, x = .int s ∧ -10 ≤ s ∧ s ≤ 10 := by
    simp only [List.mem_cons, List.not_mem_nil, or_false] at hx
    rcases hx with rfl | rfl | rfl
    · exact ⟨_, rfl, by omega, by omega⟩
    · exact ⟨_, rfl, by omega, by omega⟩
    · exact ⟨_, rfl, by omega, by omega⟩
  have hp : 0 < p.length := by cases p with | nil => exact absurd rfl p0 | cons _ _ => simp
  show callM F_law_draw [.own 0, .int ((p.map sgn).length : Nat)] S4 _
  rw [List.length_map]
  refine call_draw hd4 (by omega) (many_ok (by omega)) fun f S5 f0 f1 hd5 st5 => ?_
  refine ⟨l3, ?_⟩
  exact hk _ _ ⟨⟨p, pc, f⟩, rfl, ⟨p0, by show p.length ≤ 10; omega, c1, c9⟩, p1, f0, f1⟩ hd5 (st5.1.trans (st4.1.trans (st3.1.trans (st2.1.trans (st1.1.trans hl)))))
theorem call_sheet {n : Nat} {m : Int} {S : Sto} {k : DK} (h : Drw S n) (h1 : 1 ≤ m) (h2 : m ≤ 10) (hk : ∀ (s : Sheet) S', s.drawn m → Drw S' n → Stp n S S' → k (encS s) S') : callM F_law_sheet [.own n, .int m] S k :=
  callM_intro h rfl (isSheetD m) (fun S1 hd hl K hK => ⟨m, rfl, hd, hl, h1, h2, hK⟩) (fun d ⟨r, e, _⟩ => by rw [e]; rfl) fun d S' ⟨r, e, a⟩ hd hs => by rw [e]; exact hk r S' a hd hs
def drawnSt (st : Stack) (many m : Int) : Prop := (∀ s ∈ st, s.drawn m) ∧ st ≠ [] ∧ (st.length : Int) ≤ many
def isStackD (many m : Int) (d : D) : Prop := ∃ st : Stack, d = encSt st ∧ drawnSt st many m
def F_law_stack : FSp := fun ds S k => ∃ many m : Int, ds = [.own 0, .int many, .int m] ∧ Drw S 0 ∧ S.length = 1 ∧ 1 ≤ many ∧ many ≤ 4 ∧ 1 ≤ m ∧ m ≤ 10 ∧ ∀ d S', isStackD many m d → Drw S' 0 → S'.length = 1 → k d S'
theorem p_law_stack : ∀ ds S k, F_law_stack ds S k → b_law_stack F_law_draw F_law_sheet (bodyK k) (entry 4 ds) S := by
  rintro _ S k ⟨many, m, rfl, hd, hl, h1, h2, h3, h4, hk⟩
  refine call_draw hd h1 (many_ok (by omega)) fun q S1 q0 q1 hd1 st1 => ?_
  have hl1 : S1.length = 1 := st1.1.trans hl
  obtain ⟨n, rfl⟩ : ∃ n : Nat, q = (n : Int) := ⟨q.toNat, by omega⟩
  refine ⟨⟨by omega, by omega⟩, ?_⟩
  have e : (1 : Int) + (n : Int) = ((1 + n : Nat) : Int) := by omega
  rw [e, rng_map]
  refine lc_inv_map (fun (i : Nat) => D.int (i : Int)) (fun S => Drw S 0 ∧ S.length = 1) (fun y => ∃ s : Sheet, y = encS s ∧ s.drawn m) (List.range (1 + n)) [] S1 (by rw [List.length_range]; exact len_le (by simp; omega)) ⟨hd1, hl1⟩ (fun y hy => nomatch hy) (fun i hi S3 ⟨hd3, hl3⟩ K1 K0 hK => ?_) fun ys S4 ⟨hd4, hl4⟩ hly hys => ?_
  · exact call_sheet hd3 h3 h4 fun s S5 hs hd5 st5 => hK _ _ ⟨s, rfl, hs⟩ ⟨hd5, st5.1.trans hl3⟩
  · obtain ⟨st, rfl, hst⟩ := all_enc (enc := encS) hys
    have hlb : st.length = 1 + n := by simpa using hly
    refine hk _ _ ⟨st, rfl, hst, ?_, by omega⟩ hd4 hl4
    rintro rfl
    simp at hlb
    omega
theorem call_stack {n : Nat} {many m : Int} {S : Sto} {k : DK} (h : Drw S n) (h1 : 1 ≤ many) (h2 : many ≤ 4) (h3 : 1 ≤ m) (h4 : m ≤ 10) (hk : ∀ (st : Stack) S', drawnSt st many m → Drw S' n → Stp n S S' → k (encSt st) S') : callM F_law_stack [.own n, .int many, .int m] S k :=
  callM_intro h rfl (isStackD many m) (fun S1 hd hl K hK => ⟨many, m, rfl, hd, hl, h1, h2, h3, h4, hK⟩) (fun d ⟨r, e, _⟩ => by rw [e]; exact purSt r) fun d S' ⟨r, e, a⟩ hd hs => by rw [e]; exact hk r S' a hd hs
theorem drawnSt.ok {st : Stack} {many m : Int} (h : drawnSt st many m) (hm : many ≤ 1000) : okSt st := ⟨fun s hs => (h.1 s hs).1, by have := h.2.2; omega⟩
end Dat
set_option Elab.async false
set_option linter.all false
set_option maxRecDepth 100000
set_option maxHeartbeats 1000000
set_option exponentiation.threshold 2000
/-! PlF: the law's own looks at stacks. -/
namespace Dat
local macro_rules | `(tactic| symm_saturate) => `(tactic| with_reducible conv => whnf)

def F_law_sign : FSp := F_sign_at
theorem p_law_sign : ∀ ds S k, F_law_sign ds S k → b_law_sign (bodyK k) (entry 6 ds) S := p_sign_at
theorem call_law_sign {s : Sheet} {p b : Int} (h : s.ok) {S : Sto} {k : DK} (hk : k (.str [sgn (sgnAt s p b)]) S) : callP F_law_sign [encS s, .int p, .int b] S k :=
  callP_intro rfl (d := .str [sgn (sgnAt s p b)]) rfl hk fun K hK => ⟨s, p, b, rfl, h, hK⟩
/-- "#" in signs -/
theorem in_shut (l : List Bool) : inD (.str [35]) (.lst (l.map fun b => D.str [sgn b])) = !l.all id := by
  induction l with
  | nil => rfl
  | cons b l ih =>
    simp only [inD, List.map_cons, List.any_cons] at ih ⊢
    rw [ih]
    cases b <;> simp [D.eqv, sgn]
theorem in_ok (l : List Bool) : InOk (.str [35]) (.lst (l.map fun b => D.str [sgn b])) := ⟨rfl, plnAll_map (f := fun b : Bool => D.str [sgn b]) (fun _ => rfl) l, .inl (by simp [D.dep])⟩
def F_law_row : FSp := F_row
theorem p_law_row : ∀ ds S k, F_law_row ds S k → b_law_row F_law_sign (bodyK k) (entry 7 ds) S := by
  rintro _ S k ⟨st, w, b, rfl, hs, hw, hk⟩
  refine ⟨⟨by omega, by omega⟩, ?_⟩
  rw [rng_map]
  refine forT_ind (fun (i : Nat) => D.int (i : Int)) (fun rest env s => s = S ∧ ∃ (done : List Bool) (c d e : Option D), env = [some (encSt st), some (.int (w : Int)), some (.int b), some (encR done), c, d, e] ∧ done.length + rest.length = w ∧ done ++ (rest.map fun (p : Nat) => opn st (p : Int) b) = rowM st w b) ?_ ?_ _ _ S
    ⟨rfl, [], _, _, _, rfl, by simp, rfl⟩
  · rintro _ _ ⟨rfl, done, c, d, e, rfl, _, h⟩
    have h' : done = rowM st w b := by simpa using h
    show k (encR done) _
    rw [h']; exact hk
  · rintro p rest _ S0 ⟨rfl, done, c, d, e, rfl, hl, h⟩ N hN
    simp only [List.length_cons] at hl
    refine lc_map encS (fun s => .str [sgn (sgnAt s (p : Int) b)]) st (len_le (Nat.le_trans hs.2 (by decide))) (fun s hm K1 K0 h1 => call_law_sign (hs.1 s hm) h1) ?_
    have e1 : (st.map fun s => D.str [sgn (sgnAt s (p : Int) b)]) = (st.map fun s => sgnAt s (p : Int) b).map fun b => D.str [sgn b] := by rw [List.map_map]; rfl
    rw [e1]
    have e2 : (st.map fun s => sgnAt s (p : Int) b).all id = opn st (p : Int) b := by simp [opn, List.all_map, Function.comp_def]
    have fin : ∀ q : Bool, opn st (p : Int) b = q → (done.map sgn).length + [sgn q].length ≤ line ∧ N [some (encSt st), some (.int (w : Int)), some (.int b), some (.str (done.map sgn ++ [sgn q])), some (.int (p : Int)), some (.lst ((st.map fun s => sgnAt s (p : Int) b).map fun b => D.str [sgn b])), e] S0 := fun q hq => by
      refine ⟨by rw [List.length_map]; exact len_le (by simp; omega), ?_⟩
      have e3 : done.map sgn ++ [sgn q] = (done ++ [q]).map sgn := by simp
      rw [e3]
      refine hN _ _ ⟨rfl, done ++ [q], _, _, _, rfl, by simp; omega, ?_⟩
      rw [← h, List.map_cons, hq]
      simp
    refine ⟨in_ok _, ?_⟩
    show br (inD (.str [35]) (.lst ((st.map fun s => sgnAt s (p : Int) b).map fun b => D.str [sgn b]))) _ _
    rw [in_shut, e2]
    refine br_intro (fun hq => fin false (by simpa using hq)) fun hq => fin true (by simpa using hq)

/-! ### in how many beats a sheet goes round -/
theorem per_iff {s : Sheet} (h : s.ok) (m : Nat) : (s.pat.length : Int) ∣ s.pace * (m : Int) ↔ per s ∣ m := by
  have h0 := ok_len h
  have g0 : 0 < Nat.gcd s.pat.length s.pace.natAbs := Nat.gcd_pos_of_pos_left _ h0
  have hl : per s * Nat.gcd s.pat.length s.pace.natAbs = s.pat.length := Nat.div_mul_cancel (Nat.gcd_dvd_left _ _)
  obtain ⟨q, hq⟩ := Nat.gcd_dvd_right s.pat.length s.pace.natAbs
  have e1 : (s.pat.length : Int) ∣ s.pace * (m : Int) ↔ s.pat.length ∣ s.pace.natAbs * m := by
    rw [← Int.natCast_dvd_natCast, Int.natCast_mul]
    rcases Int.natAbs_eq s.pace with e | e
    · conv => lhs; rw [e]
    · conv => lhs; rw [e]
      rw [Int.neg_mul, Int.dvd_neg]
  rw [e1]
  have hc : Nat.Coprime (per s) q := by
    have := Nat.coprime_div_gcd_div_gcd g0
    have e2 : s.pace.natAbs / Nat.gcd s.pat.length s.pace.natAbs = q := by
      conv => lhs; lhs; rw [hq]
      exact Nat.mul_div_cancel_left _ g0
    rw [e2] at this
    exact this
  have e3 : s.pace.natAbs * m = Nat.gcd s.pat.length s.pace.natAbs * (q * m) := by
    conv => lhs; lhs; rw [hq]
    rw [Nat.mul_assoc]
  rw [e3]
  conv => lhs; lhs; rw [← hl, Nat.mul_comm]
  rw [Nat.mul_dvd_mul_iff_left g0]
  exact ⟨fun z => hc.dvd_of_dvd_mul_left z, fun z => Nat.dvd_trans z (Nat.dvd_mul_left _ _)⟩
def F_law_beats : FSp := fun ds S k => ∃ s : Sheet, ds = [encS s] ∧ s.ok ∧ k (.int ((per s : Nat) : Int)) S
theorem p_law_beats : ∀ ds S k, F_law_beats ds S k → b_law_beats (bodyK k) (entry 2 ds) S := by
  rintro _ S k ⟨s, rfl, hs, hk⟩
  have h0 := ok_len hs
  have hp := per_pos hs
  refine while_ind (fun e t => t = S ∧ ∃ m : Nat, e = [some (encS s), some (.int (m : Int))] ∧ 1 ≤ m ∧ m ≤ per s) (fun e _ => match e with | [_, some (.int m)] => (per s - m.toNat) | _ => 0) ⟨rfl, 1, rfl, Nat.le_refl _, hp⟩ ?_
  rintro _ _ ⟨rfl, m, rfl, h1, h2⟩ N hN
  have hb := hs.2.2
  refine (show MulOk s.pace (m : Int) ∧ _ from ⟨.inl ⟨by omega, by omega⟩, ?_⟩)
  refine (show 0 < (((s.pat.map sgn).length : Nat) : Int) ∧ _ from ⟨by rw [List.length_map]; omega, ?_⟩)
  refine ne_good (e := D.int) goodInt (by decide) rfl rfl ?_
  rw [List.length_map]
  have key : s.pace * (m : Int) % (s.pat.length : Int) = 0 ↔ per s ∣ m := by
    rw [← per_iff hs m]
    exact ⟨Int.dvd_of_emod_eq_zero, Int.emod_eq_zero_of_dvd⟩
  refine br_intro (fun h => ?_) fun h => ?_
  · have hne : ¬ per s ∣ m := fun z => by
      rw [← key] at z
      rw [z] at h
      simp at h
    have hlt : m < per s := by
      rcases Nat.lt_or_ge m (per s) with z | z
      · exact z
      · exact absurd (by rw [Nat.le_antisymm h2 z]; exact Nat.dvd_refl _) hne
    have e : (m : Int) + 1 = ((m + 1 : Nat) : Int) := by omega
    symm_saturate
    rw [e]
    refine hN _ _ ⟨rfl, m + 1, rfl, by omega, hlt⟩ ?_
    show per s - ((m + 1 : Nat) : Int).toNat < per s - (m : Int).toNat
    omega
  · have hd : per s ∣ m := key.mp (by simpa using h)
    have : m = per s := Nat.le_antisymm h2 (Nat.le_of_dvd h1 hd)
    show k (.int (m : Int)) _
    rw [this]; exact hk
def F_law_whole : FSp := F_whole_round
theorem p_law_whole : ∀ ds S k, F_law_whole ds S k → b_law_whole F_law_beats (bodyK k) (entry 5 ds) S := by
  rintro _ S k ⟨sts, rfl, hs, hk⟩
  refine forT_ind encSt (fun rest env s => s = S ∧ ∃ (done : Nat) (a b c : Option D), env = [some (.lst (sts.map encSt)), some (.int (done : Int)), a, b, c] ∧ done ∣ 2520 ∧ (∀ st ∈ rest, okSt st) ∧ wholeL rest.flatten done = wholes sts) ?_ ?_ sts _ S
    ⟨rfl, 1, _, _, _, rfl, Nat.one_dvd _, hs, rfl⟩
  · rintro _ _ ⟨rfl, done, a, b, c, rfl, _, _, hw⟩
    show k (.int (done : Int)) _
    have : done = wholes sts := hw
    rw [this]; exact hk
  · rintro st rest _ S0 ⟨rfl, done, a, b, c, rfl, hd, ho, hw⟩ N hN
    have hst := ho st (List.mem_cons_self ..)
    refine forT_ind encS (fun rest2 env s => s = S0 ∧ ∃ (done : Nat) (c d : Option D), env = [some (.lst (sts.map encSt)), some (.int (done : Int)), some (encSt st), c, d] ∧ done ∣ 2520 ∧ (∀ s ∈ rest2, s.ok) ∧ wholeL rest.flatten (wholeL rest2 done) = wholes sts) ?_ ?_ st _ S0
      ⟨rfl, done, _, _, rfl, hd, hst.1, by rw [← wholeL_app]; exact hw⟩
    · rintro _ _ ⟨rfl, done, c, d, rfl, hd, _, hw⟩
      exact hN _ _ ⟨rfl, done, _, _, _, rfl, hd, fun s hs => ho s (List.mem_cons_of_mem _ hs), hw⟩
    · rintro s rest2 _ S1 ⟨rfl, done, c, d, rfl, hd, ho2, hw⟩ N2 hN2
      have hsok := ho2 s (List.mem_cons_self ..)
      have hp := per_pos hsok
      have hpd := per_dvd hsok
      have hd0 : 0 < done := Nat.pos_of_dvd_of_pos hd (by decide)
      have hlp : 0 < Nat.lcm done (per s) := Nat.lcm_pos hd0 hp
      refine while_ind (fun e t => t = S1 ∧ ∃ m : Nat, e = [some (.lst (sts.map encSt)), some (.int (m : Int)), some (encSt st), some (encS s), some (.int (done : Int))] ∧ done ∣ m ∧ 0 < m ∧ m ≤ Nat.lcm done (per s)) (fun e _ => match e with | [_, some (.int m), _, _, _] => (Nat.lcm done (per s) - m.toNat) | _ => 0) ⟨rfl, done, rfl, Nat.dvd_refl _, hd0, Nat.le_of_dvd hlp (Nat.dvd_lcm_left _ _)⟩ ?_
      rintro _ _ ⟨rfl, m, rfl, hdm, hm0, hml⟩ N3 hN3
      symm_saturate
      refine callP_intro (by rfl) (d := .int ((per s : Nat) : Int)) (by rfl) ?_ fun K hK => by exact ⟨s, rfl, hsok, hK⟩
      refine ⟨by omega, ?_⟩
      refine ne_good (e := D.int) goodInt (by decide) rfl rfl ?_
      rw [← Int.natCast_emod]
      refine br_intro (fun h => ?_) fun h => ?_
      · have hne : ¬ per s ∣ m := fun z => by
          rw [Nat.mod_eq_zero_of_dvd z] at h
          simp at h
        obtain ⟨t, ht⟩ := hdm
        obtain ⟨u, hu⟩ := Nat.dvd_lcm_left done (per s)
        have hlt : m < Nat.lcm done (per s) := by
          rcases Nat.lt_or_ge m (Nat.lcm done (per s)) with z | z
          · exact z
          · exact absurd (by rw [Nat.le_antisymm hml z]; exact Nat.dvd_lcm_right _ _) hne
        have htu : t + 1 ≤ u := by
          rw [ht, hu] at hlt
          exact Nat.lt_of_mul_lt_mul_left hlt
        have hle : m + done ≤ Nat.lcm done (per s) := by
          rw [ht, hu, ← Nat.mul_succ]
          exact Nat.mul_le_mul_left _ htu
        symm_saturate
        have e : (m : Int) + (done : Int) = ((m + done : Nat) : Int) := by omega
        rw [e]
        refine hN3 _ _ ⟨rfl, m + done, rfl, Nat.dvd_add ⟨t, ht⟩ (Nat.dvd_refl _), by omega, hle⟩ ?_
        show Nat.lcm done (per s) - ((m + done : Nat) : Int).toNat < Nat.lcm done (per s) - (m : Int).toNat
        omega
      · have hd3 : per s ∣ m := by
          have : ((m % per s : Nat) : Int) = 0 := by simpa using h
          exact Nat.dvd_of_mod_eq_zero (by omega)
        have : m = Nat.lcm done (per s) := Nat.le_antisymm hml (Nat.le_of_dvd hm0 (Nat.lcm_dvd hdm hd3))
        subst this
        exact hN2 _ _ ⟨rfl, _, _, _, rfl, Nat.lcm_dvd hd hpd, fun t ht => ho2 t (List.mem_cons_of_mem _ ht), hw⟩
theorem call_law_whole {st : Stack} (h : okSt st) {S : Sto} {k : DK} (hk : k (.int ((whole st : Nat) : Int)) S) : callP F_law_whole [.lst [encSt st]] S k := call_whole h hk
theorem call_law_row {st : Stack} {w : Nat} {b : Int} (h : okSt st) (hw : w ≤ 1000) {S : Sto} {k : DK} (hk : k (encR (rowM st w b)) S) : callP F_law_row [encSt st, .int (w : Int), .int b] S k := call_row h hw hk
@[reducible] def encRs (rs : List (List Bool)) : D := .lst (rs.map encR)
theorem purRs (rs : List (List Bool)) : (encRs rs).pur = true := by simp only [encRs, D.pur]; exact purAll_map (fun _ => rfl) rs
def F_law_rows : FSp := fun ds S k => ∃ (st : Stack) (w : Nat), ds = [encSt st, .int (w : Int)] ∧ okSt st ∧ w ≤ 1000 ∧ k (encRs (rowsOf (rowF st w) (whole st))) S
theorem p_law_rows : ∀ ds S k, F_law_rows ds S k → b_law_rows F_law_whole F_law_row (bodyK k) (entry 3 ds) S := by
  rintro _ S k ⟨st, w, rfl, hs, hw, hk⟩
  have hwl := whole_le hs
  refine ⟨l1, call_law_whole hs ?_⟩
  refine ⟨⟨by omega, by omega⟩, ?_⟩
  rw [rng_map]
  refine lc_map (fun (i : Nat) => D.int (i : Int)) (fun (i : Nat) => encR (rowF st w i)) (List.range (whole st)) (by rw [List.length_range]; exact len_le (by omega)) (fun b hm K1 K0 h1 => call_law_row hs hw h1) ?_
  have hrows : (List.range (whole st)).map (fun (i : Nat) => encR (rowF st w i)) = (rowsOf (rowF st w) (whole st)).map encR := by simp [rowsOf, List.map_map, Function.comp_def]
  rw [hrows]
  exact hk
theorem call_law_rows {st : Stack} {w : Nat} (h : okSt st) (hw : w ≤ 1000) {S : Sto} {k : DK} (hk : k (encRs (rowsOf (rowF st w) (whole st))) S) : callP F_law_rows [encSt st, .int (w : Int)] S k :=
  callP_intro (purC (purSt _) rfl) (d := encRs _) (purRs _) hk fun K hK => ⟨st, w, rfl, h, hw, hK⟩

/-! ### the least round, by the law -/
theorem rot_per {α : Type} {f : Nat → α} {n b : Nat} (hn : IsPer f n) (h0 : 0 < n) (hb : 0 < b) (hd : b ∣ n) : (rowsOf f n).drop b ++ (rowsOf f n).take b = rowsOf f n ↔ IsPer f b := by
  have hbn : b ≤ n := Nat.le_of_dvd h0 hd
  rw [← test_per hn h0 hb hd]
  constructor
  · intro h
    have := congrArg (List.take (n - b)) h
    rw [List.take_left' (by rw [List.length_drop, rows_len])] at this
    exact this
  · intro h
    have hp := (test_per hn h0 hb hd).mp h
    rw [h]
    have e : (rowsOf f n).take b = (rowsOf f n).drop (n - b) := by
      apply List.ext_getElem?
      intro i
      simp only [List.getElem?_drop, List.getElem?_take, rows_get]
      by_cases hi : i < b
      · rw [if_pos hi, if_pos (by omega), if_pos (by omega)]
        obtain ⟨c, rfl⟩ := hd
        obtain ⟨d, rfl⟩ : ∃ d, c = d + 1 := ⟨c - 1, by cases c with | zero => simp at h0 | succ c => rfl⟩
        have e : b * (d + 1) - b = d * b := by rw [Nat.mul_comm, Nat.succ_mul]; omega
        rw [e, Nat.add_comm, hp.mul]
      · rw [if_neg hi, if_neg (by omega)]
    rw [e, List.take_append_drop]
def F_law_least_round : FSp := fun ds S k => ∃ (f : Nat → List Bool) (n : Nat), ds = [encRs (rowsOf f n)] ∧ IsPer f n ∧ 0 < n ∧ n ≤ 50000 ∧ k (.int ((roundF f n : Nat) : Int)) S
theorem p_law_least_round : ∀ ds S k, F_law_least_round ds S k → b_law_least_round (bodyK k) (entry 2 ds) S := by
  rintro _ S k ⟨f, n, rfl, hn, h0, hl, hk⟩
  have hlen : ((rowsOf f n).map encR).length = n := by rw [List.length_map, rows_len]
  symm_saturate
  rw [hlen]
  refine ⟨⟨by omega, by omega, by omega, by omega⟩, ?_⟩
  have e : (n : Int) + 1 = ((n + 1 : Nat) : Int) := by omega
  rw [show (1 : Int) = ((1 : Nat) : Int) from rfl, ← Int.natCast_add, rng_map2]
  have hleast := roundF_least hn h0
  have hrn : roundF f n ≤ n := hleast.2.2 n h0 hn
  refine forT_ind (fun (i : Nat) => D.int (i : Int)) (fun rest env s => s = S ∧ (∃ (c : Option D), env = [some (encRs (rowsOf f n)), c]) ∧ ∃ done, done + rest.length = n ∧ rest = (List.range rest.length).map (fun i => done + 1 + i) ∧ ∀ c, 0 < c → c ≤ done → ¬ IsPer f c) ?_ ?_ _ _ S
    ⟨rfl, ⟨_, rfl⟩, 0, by simp, by simp, fun c h1 h2 => by omega⟩
  · rintro _ _ ⟨rfl, ⟨c, rfl⟩, done, hd, _, h⟩
    exact absurd hleast.2.1 (h _ hleast.1 (by simp at hd; omega))
  · rintro b rest _ S0 ⟨rfl, ⟨c, rfl⟩, done, hd, hr, h⟩ N hN
    simp only [List.length_cons] at hd hr
    rw [List.range_succ_eq_map, List.map_cons, List.cons.injEq] at hr
    obtain ⟨hb, hr⟩ := hr
    simp only [Nat.add_zero] at hb
    subst hb
    symm_saturate
    rw [hlen]
    refine ⟨by omega, ?_⟩
    rw [← Int.natCast_emod]
    refine eq_good (e := D.int) goodInt (by decide) rfl rfl ?_
    have next : ¬ IsPer f (done + 1) → N [some (encRs (rowsOf f n)), some (.int ((done + 1 : Nat) : Int))] S0 := fun hno =>
      hN _ _ ⟨rfl, ⟨_, rfl⟩, done + 1, by omega, by
        conv => lhs; rw [hr]
        rw [List.map_map]
        exact List.map_congr_left fun i _ => by simp only [Function.comp_apply]; omega, fun c h1 h2 => by
        rcases Nat.lt_or_ge c (done + 1) with z | z
        · exact h c h1 (by omega)
        · have : c = done + 1 := by omega
          rw [this]; exact hno⟩
    refine br_intro (fun h1 => ?_) fun h1 => ?_
    · have hz : done + 1 ∣ n := Nat.dvd_of_mod_eq_zero (by have := of_decide_eq_true h1; omega)
      symm_saturate
      rw [cut_from, cut_to, ← List.map_drop, ← List.map_take]
      refine ⟨by rw [List.length_map, List.length_map]; exact len_le (by simp [rows_len]; omega), ?_⟩
      rw [← List.map_append]
      refine eq_good (e := fun l : List (List Bool) => D.lst (l.map encR)) goodR.lst (by decide) rfl rfl ?_
      refine br_intro (fun h2 => ?_) fun h2 => ?_
      · have hp := (rot_per hn h0 (by omega) hz).mp (of_decide_eq_true h2)
        have : done + 1 = roundF f n := Nat.le_antisymm (by
          rcases Nat.lt_or_ge (roundF f n) (done + 1) with z | z
          · exact absurd hleast.2.1 (h _ hleast.1 (by omega))
          · exact z) (hleast.2.2 _ (by omega) hp)
        show k (.int ((done + 1 : Nat) : Int)) _
        rw [this]; exact hk
      · exact next fun hp => by
          have := (rot_per hn h0 (by omega) hz).mpr hp
          exact (of_decide_eq_false h2) this
    · exact next fun hp => by
        -- a period that does not divide is not least
        have hdv := hleast.dvd hn
        have hne : ¬ done + 1 ∣ n := fun z => by
          have := Nat.mod_eq_zero_of_dvd z
          have := of_decide_eq_false h1
          omega
        have hle := hleast.2.2 _ (by omega) hp
        rcases Nat.lt_or_ge (roundF f n) (done + 1) with z | z
        · exact h _ hleast.1 (by omega) hleast.2.1
        · have : roundF f n = done + 1 := by omega
          rw [this] at hdv
          exact hne hdv

/-! ### the first beat, by the law -/
theorem row_at (st : Stack) (w p : Nat) (b : Int) (h : p < w) : atI ((rowM st w b).map sgn) (p : Int) = some (sgn (opn st (p : Int) b)) :=
  atI_nat _ _ _ (by rw [List.getElem?_map]; unfold rowM; rw [List.getElem?_map, List.getElem?_range h]; rfl)
theorem rows_at (f : Nat → List Bool) (n i : Nat) (h : i < n) : atI ((rowsOf f n).map encR) (i : Int) = some (encR (f i)) :=
  atI_nat _ _ _ (by rw [List.getElem?_map, rows_get, if_pos h]; rfl)
theorem nil_all (f : Nat → Bool) (ps : List Nat) : decide ((ps.filter fun p => !f p).map (fun _ => (1 : Int)) = []) = ps.all f := by
  induction ps with
  | nil => rfl
  | cons p ps ih =>
    rw [List.filter_cons, List.all_cons]
    cases h : f p with
    | true => simpa [h] using ih
    | false => simp
def F_law_first_open : FSp := fun ds S k => ∃ (st : Stack) (ps : List Nat) (b : Nat), ds = [encRs (rowsOf (rowF st 8) (whole st)), encP ps, .int (b : Int)] ∧ okSt st ∧ (∀ p ∈ ps, p < 8) ∧ ps.length ≤ 1000 ∧ k (encON (nextM st ps b)) S
theorem p_law_first_open : ∀ ds S k, F_law_first_open ds S k → b_law_first_open (bodyK k) (entry 5 ds) S := by
  rintro _ S k ⟨st, ps, b, rfl, hs, hp, hpl, hk⟩
  have hwl := whole_le hs
  have hw0 := whole_pos hs
  have hlen : ((rowsOf (rowF st 8) (whole st)).map encR).length = whole st := by rw [List.length_map, rows_len]
  symm_saturate
  rw [hlen]
  refine ⟨⟨by omega, by omega⟩, ?_⟩
  rw [rng_map]
  refine forT_ind (fun (i : Nat) => D.int (i : Int)) (fun rest env s => s = S ∧ (∃ (c d : Option D), env = [some (encRs (rowsOf (rowF st 8) (whole st))), some (encP ps), some (.int (b : Int)), c, d]) ∧ (rest.find? fun m => opnA st ps (b + m)).map (b + ·) = nextM st ps b) ?_ ?_ _ _ S
    ⟨rfl, ⟨_, _, rfl⟩, rfl⟩
  · rintro _ _ ⟨rfl, ⟨c, d, rfl⟩, h⟩
    show k .non _
    have h' : none = nextM st ps b := h
    rw [← h'] at hk; exact hk
  · rintro m rest _ S0 ⟨rfl, ⟨c, d, rfl⟩, h⟩ N hN
    refine lc_pure (fun (p : Nat) => D.int (p : Int)) (fun p => !opn st (p : Int) ((b + m : Nat) : Int)) (fun _ => .int 1) ps [] (len_le (by simp; omega)) (fun p hm K1 K0 h1 h2 => ?_) ?_
    · symm_saturate
      rw [hlen]
      refine ⟨by omega, ?_⟩
      rw [← Int.natCast_add, ← Int.natCast_emod]
      refine onO_intro (rows_at _ _ _ (Nat.mod_lt _ hw0)) ?_
      have e1 : rowF st 8 ((b + m) % whole st) = rowM st 8 ((b + m : Nat) : Int) := rowM_mod st hs 8 (b + m)
      rw [e1]
      refine onO_intro (row_at st 8 p _ (hp p hm)) ?_
      refine eq_good (e := D.str) (b := [35]) goodStr (by decide) rfl rfl ?_
      have e2 : decide ([sgn (opn st (p : Int) ((b + m : Nat) : Int))] = [35]) = !opn st (p : Int) ((b + m : Nat) : Int) := by cases opn st (p : Int) ((b + m : Nat) : Int) <;> rfl
      rw [e2]
      exact br_intro h1 h2
    · symm_saturate
      rw [List.nil_append]
      refine ⟨l0, ?_⟩
      have e3 : ((ps.filter fun (p : Nat) => !opn st (p : Int) ((b + m : Nat) : Int)).map fun (_ : Nat) => D.int 1) = ((ps.filter fun (p : Nat) => !opn st (p : Int) ((b + m : Nat) : Int)).map (fun (_ : Nat) => (1 : Int))).map D.int := by rw [List.map_map]; rfl
      rw [e3]
      refine eq_good (e := fun l : List Int => D.lst (l.map D.int)) (b := []) goodInt.lst (by decide) rfl rfl ?_
      have e4 : decide ((ps.filter fun (p : Nat) => !opn st (p : Int) ((b + m : Nat) : Int)).map (fun (_ : Nat) => (1 : Int)) = []) = opnA st ps (b + m) := by
        exact nil_all _ ps
      rw [e4]
      rw [List.find?_cons] at h
      refine br_intro (fun h1 => ?_) fun h1 => ?_
      · rw [h1] at h
        show k (.int ((b : Int) + (m : Int))) _
        have h' : some (b + m) = nextM st ps b := h
        rw [← h'] at hk; rw [← Int.natCast_add]; exact hk
      · rw [h1] at h
        exact hN _ _ ⟨rfl, ⟨_, _, rfl⟩, h⟩

/-! ### calls -/
theorem call_draws {ns : List Int} {c : Nat} (hl : ns.length ≤ 63) (hc : c < 64) {S : Sto} {k : List D → Sto → Prop} (hk : ∀ i j, okD i j → k [.int i, .int j] S) : callN F_law_draws [.scr ns, .int (c : Int)] S k :=
  ⟨rfl, ns, c, rfl, hc, hl, rfl, fun i j h => ⟨rfl, hk i j h⟩⟩
theorem drw_push {S : Sto} {i j : Int} (h : okD i j) : Drw (S ++ [.lst [.int i, .int j]]) S.length := ⟨i, j, by simp, h⟩
theorem call_round {st : Stack} {w : Nat} (h : okSt st) (hw : w ≤ 1000) {S : Sto} {k : DK} (hk : k (.int ((roundM st w : Nat) : Int)) S) : callP F_round_of [encSt st, .int (w : Int)] S k :=
  callP_intro (purC (purSt _) rfl) (d := .int _) rfl hk fun K hK => ⟨st, w, rfl, h, hw, hK⟩
theorem call_least {f : Nat → List Bool} {n : Nat} (h : IsPer f n) (h0 : 0 < n) (h1 : n ≤ 50000) {S : Sto} {k : DK} (hk : k (.int ((roundF f n : Nat) : Int)) S) : callP F_law_least_round [encRs (rowsOf f n)] S k :=
  callP_intro (purC (purRs _) rfl) (d := .int _) rfl hk fun K hK => ⟨f, n, rfl, h, h0, h1, hK⟩
theorem call_often {st : Stack} {pl : Int} {a b : Nat} (h : okSt st) (hab : a ≤ b) (hb : b < 2 ^ 63) {S : Sto} {k : DK} (hk : k (.int ((cnt (opnF st pl) a (b - a) : Nat) : Int)) S) : callP F_how_often [encSt st, .int pl, .int (a : Int), .int (b : Int)] S k :=
  callP_intro (purC (purSt _) rfl) (d := .int _) rfl hk fun K hK => ⟨st, pl, a, b, rfl, h, hab, hb, hK⟩
theorem purON (o : Option Nat) : (encON o).pur = true := by cases o <;> rfl
theorem call_next {st : Stack} {ps : List Nat} {b : Nat} (h : okSt st) (hp : ps.length ≤ 1000) {S : Sto} {k : DK} (hk : k (encON (nextM st ps b)) S) : callP F_next_open [encSt st, encP ps, .int (b : Int)] S k :=
  callP_intro (purC (purSt _) (purC (purP _) rfl)) (d := encON _) (purON _) hk fun K hK => ⟨st, ps, b, rfl, h, hp, hK⟩
theorem call_first {st : Stack} {ps : List Nat} {b : Nat} (h : okSt st) (hp : ∀ p ∈ ps, p < 8) (hl : ps.length ≤ 1000) {S : Sto} {k : DK} (hk : k (encON (nextM st ps b)) S) : callP F_law_first_open [encRs (rowsOf (rowF st 8) (whole st)), encP ps, .int (b : Int)] S k :=
  callP_intro (purC (purRs _) (purC (purP _) rfl)) (d := encON _) (purON _) hk fun K hK => ⟨st, ps, b, rfl, h, hp, hl, hK⟩
/-- the k of a law runs over at most 8 -/
theorem turns (l : Nat) : ∃ m : Nat, m ≤ 8 ∧ (if (if (l : Int) < 8 then (l : Int) else 8) > 1 then (if (l : Int) < 8 then (l : Int) else 8) else 1) = (m : Int) :=
  ⟨(if (if (l : Int) < 8 then (l : Int) else 8) > 1 then (if (l : Int) < 8 then (l : Int) else 8) else 1).toNat, by repeat' split
                                                                                                                    all_goals omega, by repeat' split
                                                                                                                                        all_goals omega⟩
theorem repL_image {α β : Type} (f : α → β) (k : Nat) (l : List α) : repL k (l.map f) = (repL k l).map f := by
  unfold repL
  induction k with
  | zero => rfl
  | succ k ih => rw [List.replicate_succ, List.replicate_succ, List.flatten_cons, List.flatten_cons, List.map_append, ih]
theorem repL_size {α : Type} (k : Nat) (l : List α) : (repL k l).length = k * l.length := by
  unfold repL
  simp
theorem next_none {st : Stack} (h : okSt st) (ps : List Nat) (b : Nat) : nextM st ps b = none ↔ ∀ u, opnA st ps u = false := by
  have := nextM_spec st h ps b
  cases hn : nextM st ps b with
  | none => rw [hn] at this; exact ⟨fun _ => this, fun _ => rfl⟩
  | some t =>
    rw [hn] at this
    refine ⟨fun z => (by cases z), fun z => ?_⟩
    have h2 : opnA st ps t = true := this.2.1
    rw [z t] at h2
    exact absurd h2 Bool.false_ne_true
end Dat
set_option Elab.async false
set_option linter.all false
set_option maxRecDepth 100000
set_option maxHeartbeats 1000000
set_option exponentiation.threshold 2000
/-! PlH: what shuts, covers, cover. -/
namespace Dat
local macro_rules | `(tactic| symm_saturate) => `(tactic| with_reducible conv => whnf)
theorem callO_intro {F : FSp} {ds xs : List D} {S : Sto} {k : DK} (hp : D.purAll ds = true) (hx : D.purAll xs = true) (hk : k (.lst xs) S) (h : ∀ K : DK, K (.own 0) [.lst xs] → F ds [] K) : callP F ds S k :=
  ⟨hp, h _ (onO_intro (a := .lst xs) (by simp [thaw, hx]) hk)⟩
def numb {α : Type} : Nat → List α → List (Nat × α)
  | _, [] => []
  | i, a :: l => (i, a) :: numb (i + 1) l
theorem enumD_map {α : Type} (f : α → D) : ∀ (l : List α) (i : Nat), enumD i (l.map f) = (numb i l).map fun q => D.tup [.int (q.1 : Int), f q.2]
  | [], _ => rfl
  | _ :: l, i => by simp only [List.map_cons, enumD, numb]; rw [enumD_map f l (i + 1)]
theorem numb_get {α : Type} : ∀ (l : List α) (i j : Nat), (numb i l)[j]? = l[j]?.map fun a => (i + j, a)
  | [], _, _ => by simp [numb]
  | _ :: _, _, 0 => by simp [numb]
  | _ :: l, i, j + 1 => by
    simp only [numb, List.getElem?_cons_succ]
    rw [numb_get l (i + 1) j]
    have : i + 1 + j = i + (j + 1) := by omega
    rw [this]
theorem numb_mem {α : Type} {l : List α} {q : Nat × α} (h : q ∈ numb 0 l) : l[q.1]? = some q.2 := by
  obtain ⟨j, hj⟩ := List.mem_iff_getElem?.mp h
  rw [numb_get] at hj
  cases hl : l[j]? with
  | none => rw [hl] at hj; cases hj
  | some a => rw [hl] at hj; simp at hj; subst hj; exact hl
theorem mem_numb {α : Type} {l : List α} {j : Nat} {a : α} (h : l[j]? = some a) : (j, a) ∈ numb 0 l := List.mem_iff_getElem?.mpr ⟨j, by rw [numb_get, h]; simp⟩
theorem numb_len {α : Type} : ∀ (l : List α) (i : Nat), (numb i l).length = l.length
  | [], _ => rfl
  | _ :: l, i => by simp [numb, numb_len l (i + 1)]

abbrev Cls := List (Nat × Nat)
@[reducible] def encC (c : Nat × Nat) : D := .tup [.int (c.1 : Int), .int (c.2 : Int)]
@[reducible] def encCs (cs : Cls) : D := .lst (cs.map encC)
@[reducible] def encCt (cs : Cls) : D := .tup (cs.map encC)
theorem goodC : GoodE encC 1 := by
  have h := (goodInt.tup).comp (f := fun c : Nat × Nat => [(c.1 : Int), (c.2 : Int)]) fun a b h => by
    simp only [List.cons.injEq, and_true] at h
    exact Prod.ext (by omega) (by omega)
  exact h
theorem purCl (cs : Cls) : D.purAll (cs.map encC) = true := purAll_map (fun _ => rfl) cs
/-- "#" at some of the places, at the rest r -/
def shutM (ps : List Nat) (s : Sheet) (r : Nat) : Bool := !(ps.all fun p => sgnAt s (p : Int) (r : Int))
def shutOf (ps : List Nat) (q : Nat × Sheet) : Cls := ((List.range (per q.2)).filter (shutM ps q.2)).map fun r => (q.1, r)
def shuttingM (st : Stack) (ps : List Nat) : Cls := (numb 0 st).flatMap (shutOf ps)
theorem shutOf_len (ps : List Nat) (q : Nat × Sheet) (h : q.2.ok) : (shutOf ps q).length ≤ 10 := by
  unfold shutOf
  rw [List.length_map]
  refine Nat.le_trans (List.length_filter_le _ _) ?_
  rw [List.length_range]
  exact Nat.le_trans rnd_le h.2.1
theorem flat_len {α β : Type} (f : α → List β) (n : Nat) : ∀ l : List α, (∀ a ∈ l, (f a).length ≤ n) → (l.flatMap f).length ≤ n * l.length
  | [], _ => by simp
  | a :: l, h => by
    rw [List.flatMap_cons, List.length_append, List.length_cons, Nat.mul_succ]
    have h1 := h a (List.mem_cons_self ..)
    have h2 := flat_len f n l fun b hb => h b (List.mem_cons_of_mem _ hb)
    omega
theorem numb_ok {st : Stack} (h : okSt st) : ∀ q ∈ numb 0 st, q.2.ok := fun q hq => h.1 _ (List.mem_iff_getElem?.mpr ⟨_, numb_mem hq⟩)
theorem shutting_len {st : Stack} (h : okSt st) (ps : List Nat) : (shuttingM st ps).length ≤ 10000 := by
  have := flat_len (shutOf ps) 10 (numb 0 st) fun q hq => shutOf_len ps q (numb_ok h q hq)
  rw [numb_len] at this
  have := h.2
  unfold shuttingM
  omega
def F_shutting : FSp := fun ds S k => ∃ (st : Stack) (ps : List Nat), ds = [encSt st, encP ps] ∧ S = [] ∧ okSt st ∧ ps.length ≤ 1000 ∧ k (.own 0) [.lst ((shuttingM st ps).map encC)]
theorem call_goes {s : Sheet} (h : s.ok) {S : Sto} {k : DK} (hk : k (.int ((per s : Nat) : Int)) S) : callP F_goes_round [.int ((s.pat.length : Nat) : Int), .int s.pace] S k :=
  callP_intro rfl (d := .int ((per s : Nat) : Int)) rfl hk fun K hK => ⟨s.pat.length, s.pace, rfl, ok_len h, by have := h.2.1; omega, hK⟩
theorem call_sign {s : Sheet} {p b : Int} (h : s.ok) {S : Sto} {k : DK} (hk : k (.str [sgn (sgnAt s p b)]) S) : callP F_sign_at [encS s, .int p, .int b] S k :=
  callP_intro rfl (d := .str [sgn (sgnAt s p b)]) rfl hk fun K hK => ⟨s, p, b, rfl, h, hK⟩
theorem p_shutting : ∀ ds S k, F_shutting ds S k → b_shutting F_goes_round F_sign_at (bodyK k) (entry 7 ds) S := by
  rintro _ _ k ⟨st, ps, rfl, rfl, hs, hp, hk⟩
  have htot := shutting_len hs ps
  refine ⟨l0, ?_⟩
  symm_saturate
  rw [enumD_map]
  refine forT_ind (fun q : Nat × Sheet => D.tup [.int (q.1 : Int), encS q.2]) (fun rest env s => ∃ (done : Cls) (a b c d : Option D), s = [.lst (done.map encC)] ∧ env = [some (encSt st), some (encP ps), some (.own 0), a, b, c, d] ∧ (∀ q ∈ rest, q.2.ok) ∧ done ++ rest.flatMap (shutOf ps) = shuttingM st ps) ?_ ?_ (numb 0 st) _ _
    ⟨[], _, _, _, _, rfl, rfl, numb_ok hs, rfl⟩
  · rintro _ _ ⟨done, a, b, c, d, rfl, rfl, _, h⟩
    have h' : done = shuttingM st ps := by simpa using h
    show k (.own 0) _
    rw [h']; exact hk
  · rintro ⟨n, s⟩ rest _ _ ⟨done, a, b, c, d, rfl, rfl, ho, h⟩ N hN
    have hsok : s.ok := ho _ (List.mem_cons_self ..)
    refine ⟨rfl, ?_⟩
    refine (show callP F_goes_round [.int (((s.pat.map sgn).length : Nat) : Int), .int s.pace] _ _ from ?_)
    rw [List.length_map]
    refine call_goes hsok ?_
    have hper : per s ≤ 10 := Nat.le_trans rnd_le hsok.2.1
    refine ⟨⟨by omega, by omega⟩, ?_⟩
    rw [rng_map]
    refine forT_ind (fun (i : Nat) => D.int (i : Int)) (fun rest2 env s0 => ∃ (done : Cls) (c d : Option D), s0 = [.lst (done.map encC)] ∧ env = [some (encSt st), some (encP ps), some (.own 0), some (.int (n : Int)), some (encS s), c, d] ∧ done ++ ((rest2.filter (shutM ps s)).map fun r => (n, r)) ++ rest.flatMap (shutOf ps) = shuttingM st ps) ?_ ?_ (List.range (per s)) _ _
      ⟨done, _, _, rfl, rfl, by rw [List.append_assoc]; exact h⟩
    · rintro _ _ ⟨done, c, d, rfl, rfl, h⟩
      exact hN _ _ ⟨done, _, _, _, _, rfl, rfl, fun q hq => ho q (List.mem_cons_of_mem _ hq), by simpa using h⟩
    · rintro r rest2 _ _ ⟨done, c, d, rfl, rfl, h⟩ N2 hN2
      refine lc_map (fun (p : Nat) => D.int (p : Int)) (fun (p : Nat) => .str [sgn (sgnAt s (p : Int) (r : Int))]) ps (len_le (by omega)) (fun p hm K1 K0 h1 => call_sign hsok h1) ?_
      have e1 : (ps.map fun (p : Nat) => D.str [sgn (sgnAt s (p : Int) (r : Int))]) = (ps.map fun (p : Nat) => sgnAt s (p : Int) (r : Int)).map fun b => D.str [sgn b] := by rw [List.map_map]; rfl
      rw [e1]
      refine ⟨in_ok _, ?_⟩
      show br (inD (.str [35]) (.lst ((ps.map fun (p : Nat) => sgnAt s (p : Int) (r : Int)).map fun b => D.str [sgn b]))) _ _
      rw [in_shut]
      have e2 : (!(ps.map fun (p : Nat) => sgnAt s (p : Int) (r : Int)).all id) = shutM ps s r := by simp [shutM, List.all_map, Function.comp_def]
      rw [e2]
      refine br_intro (fun hq => ?_) fun hq => ?_
      · refine ⟨l2, ?_⟩
        symm_saturate
        have hlen : done.length < 100000 := by
          have := congrArg List.length h
          simp only [List.length_append] at this
          omega
        refine ⟨by rw [List.length_map]; exact Nat.lt_of_lt_of_le hlen (by decide), ?_⟩
        have e3 : done.map encC ++ [.tup [.int (n : Int), .int (r : Int)]] = (done ++ [(n, r)]).map encC := by simp
        show N2 _ [.lst (done.map encC ++ [.tup [.int (n : Int), .int (r : Int)]])]
        rw [e3]
        refine hN2 _ _ ⟨done ++ [(n, r)], _, _, rfl, rfl, ?_⟩
        rw [← h, List.filter_cons, if_pos hq]
        simp
      · refine hN2 _ _ ⟨done, _, _, rfl, rfl, ?_⟩
        rw [← h, List.filter_cons, if_neg (by rw [hq]; exact Bool.false_ne_true)]
theorem call_shutting {st : Stack} {ps : List Nat} (h : okSt st) (hp : ps.length ≤ 1000) {S : Sto} {k : DK} (hk : k (encCs (shuttingM st ps)) S) : callP F_shutting [encSt st, encP ps] S k :=
  callO_intro (purC (purSt _) (purC (purP _) rfl)) (purCl _) hk fun K hK => ⟨st, ps, rfl, rfl, h, hp, hK⟩

/-! ### covers -/
def perAt (st : Stack) (n : Nat) : Nat := ((st[n]?).map per).getD 1
def hit (st : Stack) (b : Nat) (c : Nat × Nat) : Bool := decide (b % perAt st c.1 = c.2)
def coversM (st : Stack) (cs : Cls) : Bool := (List.range (whole st)).all fun b => cs.any (hit st b)
def okC (st : Stack) (cs : Cls) : Prop := (∀ c ∈ cs, c.1 < st.length) ∧ cs.length ≤ 20000
def F_covers : FSp := fun ds S k => ∃ (st : Stack) (cs : Cls) (x : D), ds = [encSt st, x] ∧ itemsD x = some (cs.map encC) ∧ okSt st ∧ okC st cs ∧ k (.bl (coversM st cs)) S
theorem perAt_eq {st : Stack} {n : Nat} {s : Sheet} (h : st[n]? = some s) : perAt st n = per s := by simp [perAt, h]
theorem p_covers : ∀ ds S k, F_covers ds S k → b_covers F_goes_round F_whole_round (bodyK k) (entry 7 ds) S := by
  rintro _ S k ⟨st, cs, x, rfl, hx, hs, hc, hk⟩
  have hwl := whole_le hs
  refine lc_map encS (fun s => .int ((per s : Nat) : Int)) st (len_le (Nat.le_trans hs.2 (by decide))) (fun s hm K1 K0 h1 => ?_) ?_
  · refine (show callP F_goes_round [.int (((s.pat.map sgn).length : Nat) : Int), .int s.pace] S _ from ?_)
    rw [List.length_map]
    exact call_goes (hs.1 s hm) h1
  refine ⟨l1, call_whole hs ?_⟩
  refine ⟨⟨by omega, by omega⟩, ?_⟩
  rw [rng_map]
  refine forT_ind (fun (i : Nat) => D.int (i : Int)) (fun rest env s => s = S ∧ (∃ (c d e f : Option D), env = [some (encSt st), some x, some (.lst (st.map fun s => .int ((per s : Nat) : Int))), c, d, e, f]) ∧ (rest.all fun b => cs.any (hit st b)) = coversM st cs) ?_ ?_ (List.range (whole st)) _ S ⟨rfl, ⟨_, _, _, _, rfl⟩, rfl⟩
  · rintro _ _ ⟨rfl, ⟨c, d, e, f, rfl⟩, h⟩
    show k (.bl true) _
    have h' : true = coversM st cs := h
    rw [h']; exact hk
  · rintro b rest _ _ ⟨rfl, ⟨c, d, e, f, rfl⟩, h⟩ N hN
    refine onO_intro hx ?_
    refine lc_map encC (fun c => .bl (hit st b c)) cs (len_le (Nat.le_trans hc.2 (by decide))) (fun c hm K1 K0 h1 => ?_) ?_
    · have hlt := hc.1 c hm
      have hs1 : st[c.1]? = some st[c.1] := List.getElem?_eq_getElem hlt
      have hp := per_pos (hs.1 _ (List.getElem_mem hlt))
      refine ⟨rfl, ?_⟩
      symm_saturate
      refine onO_intro (a := .int ((per st[c.1] : Nat) : Int)) (atI_nat _ _ _ (by rw [List.getElem?_map, hs1]; rfl)) ?_
      refine ⟨by omega, ?_⟩
      rw [← Int.natCast_emod]
      refine eq_good (e := D.int) goodInt (by decide) rfl rfl ?_
      have e1 : decide (((b % per st[c.1] : Nat) : Int) = ((c.2 : Nat) : Int)) = hit st b c := by
        unfold hit
        rw [perAt_eq hs1]
        exact decide_eq_decide.mpr ⟨fun h => by omega, fun h => by omega⟩
      rw [e1]
      exact h1
    · refine onO_intro (blsD_map _ cs) ?_
      rw [List.any_map]
      have e2 : cs.any (id ∘ hit st b) = cs.any (hit st b) := rfl
      rw [e2]
      rw [List.all_cons] at h
      show br (!cs.any (hit st b)) _ _
      cases hq : cs.any (hit st b) with
      | true =>
        rw [hq] at h
        exact hN _ _ ⟨rfl, ⟨_, _, _, _, rfl⟩, h⟩
      | false =>
        rw [hq] at h
        show k (.bl false) _
        have h' : false = coversM st cs := h
        rw [h']; exact hk
theorem call_covers {st : Stack} {cs : Cls} (h : okSt st) (hc : okC st cs) {S : Sto} {k : DK} (hk : k (.bl (coversM st cs)) S) : callP F_covers [encSt st, encCs cs] S k :=
  callP_intro (purC (purSt _) (purC (by simp only [encCs, D.pur]; exact purCl cs) rfl)) (d := .bl _) rfl hk fun K hK => ⟨st, cs, _, rfl, rfl, h, hc, hK⟩
theorem call_coversT {st : Stack} {cs : Cls} (h : okSt st) (hc : okC st cs) {S : Sto} {k : DK} (hk : k (.bl (coversM st cs)) S) : callP F_covers [encSt st, encCt cs] S k :=
  callP_intro (purC (purSt _) (purC (by simp only [encCt, D.pur]; exact purCl cs) rfl)) (d := .bl _) rfl hk fun K hK => ⟨st, cs, _, rfl, rfl, h, hc, hK⟩

/-! ### cover -/
def stepC (st : Stack) (found : Cls) (one : Nat × Nat) : Cls := if coversM st (found.filter fun c => !decide (c = one)) then found.filter fun c => !decide (c = one) else found
def pruneM (st : Stack) (cs : Cls) : Cls := cs.foldl (stepC st) cs
def coverM (st : Stack) (ps : List Nat) : Option Cls := match nextM st ps 0 with | some _ => none | none => some (pruneM st (shuttingM st ps))
@[reducible] def encOC : Option Cls → D
  | none => .non
  | some cs => encCt cs
def F_cover : FSp := fun ds S k => ∃ (st : Stack) (ps : List Nat), ds = [encSt st, encP ps] ∧ okSt st ∧ ps.length ≤ 1000 ∧ k (encOC (coverM st ps)) S
theorem shutting_okC {st : Stack} (h : okSt st) (ps : List Nat) : okC st (shuttingM st ps) := by
  refine ⟨fun c hc => ?_, Nat.le_trans (shutting_len h ps) (by decide)⟩
  obtain ⟨q, hq, hc⟩ := List.mem_flatMap.mp hc
  unfold shutOf at hc
  obtain ⟨r, _, rfl⟩ := List.mem_map.mp hc
  exact (List.getElem?_eq_some_iff.mp (numb_mem hq)).1
theorem filter_okC {st : Stack} {cs : Cls} (h : okC st cs) (p : Nat × Nat → Bool) : okC st (cs.filter p) := ⟨fun c hc => h.1 c (List.mem_filter.mp hc).1, Nat.le_trans (List.length_filter_le _ _) h.2⟩
theorem p_cover : ∀ ds S k, F_cover ds S k → b_cover F_next_open F_shutting F_covers (bodyK k) (entry 6 ds) S := by
  rintro _ S k ⟨st, ps, rfl, hs, hp, hk⟩
  refine call_next (b := 0) hs hp ?_
  cases hn : nextM st ps 0 with
  | some t =>
    have : coverM st ps = none := by unfold coverM; rw [hn]
    rw [this] at hk
    exact hk
  | none =>
    have : coverM st ps = some (pruneM st (shuttingM st ps)) := by unfold coverM; rw [hn]
    rw [this] at hk
    refine (show callP F_shutting [encSt st, encP ps] S _ from call_shutting hs hp ?_)
    have ok0 := shutting_okC hs ps
    refine forT_ind encC (fun rest env s => s = S ∧ ∃ (found : Cls) (c d e : Option D), env = [some (encSt st), some (encP ps), some (encCs found), c, d, e] ∧ okC st found ∧ rest.foldl (stepC st) found = pruneM st (shuttingM st ps)) ?_ ?_ (shuttingM st ps) _ S ⟨rfl, shuttingM st ps, _, _, _, rfl, ok0, rfl⟩
    · rintro _ _ ⟨rfl, found, c, d, e, rfl, _, h⟩
      have h' : found = pruneM st (shuttingM st ps) := h
      rw [h']
      exact hk
    · rintro one rest _ _ ⟨rfl, found, c, d, e, rfl, hf, h⟩ N hN
      refine lc_pure encC (fun c => !decide (c = one)) encC found [] (len_le (Nat.le_trans (by simpa using hf.2) (by decide))) (fun c hm K1 K0 h1 h2 => ?_) ?_
      · refine ne_good (e := encC) goodC (by decide) rfl rfl ?_
        exact br_intro h1 h2
      rw [List.nil_append]
      symm_saturate
      refine call_covers hs (filter_okC hf _) ?_
      rw [List.foldl_cons] at h
      unfold stepC at h
      refine br_intro (fun hq => ?_) fun hq => ?_
      · rw [hq] at h
        exact hN _ _ ⟨rfl, _, _, _, _, rfl, filter_okC hf _, h⟩
      · rw [hq] at h
        exact hN _ _ ⟨rfl, _, _, _, _, rfl, hf, h⟩
theorem purOC (o : Option Cls) : (encOC o).pur = true := by
  cases o with
  | none => rfl
  | some cs => simp only [encOC, encCt, D.pur]; exact purCl cs
theorem call_cover {st : Stack} {ps : List Nat} (h : okSt st) (hp : ps.length ≤ 1000) {S : Sto} {k : DK} (hk : k (encOC (coverM st ps)) S) : callP F_cover [encSt st, encP ps] S k :=
  callP_intro (purC (purSt _) (purC (purP _) rfl)) (d := encOC _) (purOC _) hk fun K hK => ⟨st, ps, rfl, h, hp, hK⟩
end Dat
set_option Elab.async false
set_option linter.all false
set_option maxRecDepth 100000
set_option maxHeartbeats 1000000
/-! MaA: counting by remainders. -/
namespace Dat
theorem pigeon {α : Type} [DecidableEq α] : ∀ (l d : List α), l.Nodup → (∀ x ∈ l, x ∈ d) → l.length ≤ d.length
  | [], _, _, _ => Nat.zero_le _
  | x :: l, d, hn, hs => by
    have hn' := List.nodup_cons.mp hn
    have hx : x ∈ d := hs x (List.mem_cons_self ..)
    have ih := pigeon l (d.erase x) hn'.2 fun y hy => (List.mem_erase_of_ne (fun (e : y = x) => hn'.1 (by rw [← e]; exact hy))).mpr (hs y (List.mem_cons_of_mem _ hy))
    rw [List.length_erase_of_mem hx] at ih
    have := List.length_pos_of_mem hx
    simp only [List.length_cons]
    omega
theorem perm_of {α : Type} [DecidableEq α] {l d : List α} (hn : l.Nodup) (hd : d.Nodup) (hs : ∀ x ∈ l, x ∈ d) (hl : d.length ≤ l.length) : l.Perm d := by
  refine (List.perm_ext_iff_of_nodup hn hd).mpr fun a => ⟨hs a, fun ha => ?_⟩
  refine Classical.byContradiction fun hna => ?_
  have := pigeon (a :: l) d (List.nodup_cons.mpr ⟨hna, hn⟩) fun x hx => by
    rcases List.mem_cons.mp hx with e | e
    · rw [e]; exact ha
    · exact hs x e
  simp at this
  omega
theorem nodup_map {α β : Type} {f : α → β} {l : List α} (hn : l.Nodup) (hf : ∀ a ∈ l, ∀ b ∈ l, f a = f b → a = b) : (l.map f).Nodup := by
  induction l with
  | nil => exact List.nodup_nil
  | cons a l ih =>
    have hn' := List.nodup_cons.mp hn
    rw [List.map_cons]
    refine List.nodup_cons.mpr ⟨fun h => ?_, ih hn'.2 fun x hx y hy => hf x (List.mem_cons_of_mem _ hx) y (List.mem_cons_of_mem _ hy)⟩
    obtain ⟨b, hb, e⟩ := List.mem_map.mp h
    exact hn'.1 (hf b (List.mem_cons_of_mem _ hb) a (List.mem_cons_self ..) e ▸ hb)
theorem flt_map {α β : Type} (f : α → β) (p : β → Bool) (l : List α) : ((l.map f).filter p).length = (l.filter fun a => p (f a)).length := by
  rw [List.filter_map, List.length_map]; rfl
theorem flt_perm {α : Type} {l d : List α} (h : l.Perm d) (p : α → Bool) : (l.filter p).length = (d.filter p).length := (h.filter p).length_eq
def prodL (a : List Nat) (b : List Nat) : List (Nat × Nat) := a.flatMap fun x => b.map fun y => (x, y)
theorem prod_len (a b : List Nat) : (prodL a b).length = a.length * b.length := by
  induction a with
  | nil => simp [prodL]
  | cons x a ih =>
    unfold prodL at ih ⊢
    rw [List.flatMap_cons, List.length_append, ih, List.length_map, List.length_cons, Nat.succ_mul]
    omega
theorem prod_mem {a b : List Nat} {x y : Nat} : (x, y) ∈ prodL a b ↔ x ∈ a ∧ y ∈ b := by
  unfold prodL
  simp only [List.mem_flatMap, List.mem_map, Prod.mk.injEq]
  exact ⟨fun ⟨c, hc, d, hd, e1, e2⟩ => ⟨e1 ▸ hc, e2 ▸ hd⟩, fun ⟨h1, h2⟩ => ⟨x, h1, y, h2, rfl, rfl⟩⟩
theorem prod_nodup {a b : List Nat} (ha : a.Nodup) (hb : b.Nodup) : (prodL a b).Nodup := by
  induction a with
  | nil => exact List.nodup_nil
  | cons x a ih =>
    have h := List.nodup_cons.mp ha
    have e : prodL (x :: a) b = (b.map fun y => (x, y)) ++ prodL a b := by simp [prodL]
    rw [e]
    refine List.nodup_append.mpr ⟨nodup_map hb fun p _ q _ e => by simpa using e, ih h.2, fun p hp q hq e => ?_⟩
    obtain ⟨y, _, rfl⟩ := List.mem_map.mp hp
    subst e
    exact h.1 (prod_mem.mp hq).1
theorem prod_flt (f g : Nat → Bool) (a b : List Nat) : ((prodL a b).filter fun q => f q.1 && g q.2).length = (a.filter f).length * (b.filter g).length := by
  induction a with
  | nil => simp [prodL]
  | cons x a ih =>
    have e : prodL (x :: a) b = (b.map fun y => (x, y)) ++ prodL a b := by simp [prodL]
    rw [e, List.filter_append, List.length_append, ih, flt_map]
    cases h : f x with
    | true =>
      rw [List.filter_cons, if_pos h, List.length_cons, Nat.succ_mul]
      have e2 : (b.filter fun y => f x && g y) = b.filter g := List.filter_congr fun y _ => by rw [h, Bool.true_and]
      show (b.filter fun y => f x && g y).length + _ = _
      rw [e2]
      omega
    | false =>
      rw [List.filter_cons, if_neg (by rw [h]; exact Bool.false_ne_true)]
      have e2 : (b.filter fun y => f x && g y) = [] := List.filter_eq_nil_iff.mpr fun y _ => by rw [h, Bool.false_and]; exact Bool.false_ne_true
      show (b.filter fun y => f x && g y).length + _ = _
      rw [e2, List.length_nil, Nat.zero_add]
theorem dvd_of_mod {m i j : Nat} (hle : j ≤ i) (h : i % m = j % m) : m ∣ i - j := by
  have e1 := Nat.mod_add_div i m
  have e2 := Nat.mod_add_div j m
  have e3 : m * (i / m) - m * (j / m) = i - j := by omega
  rw [← Nat.mul_sub] at e3
  exact ⟨_, e3.symm⟩
theorem mod_inj {m n i j : Nat} (hc : Nat.Coprime m n) (hi : i < m * n) (hj : j < m * n) (h1 : i % m = j % m) (h2 : i % n = j % n) : i = j := by
  have aux : ∀ i j : Nat, j ≤ i → i < m * n → i % m = j % m → i % n = j % n → i = j := fun i j hle hi h1 h2 => by
    have d1 : m ∣ i - j := dvd_of_mod hle h1
    have d2 : n ∣ i - j := dvd_of_mod hle h2
    have d := Nat.Coprime.mul_dvd_of_dvd_of_dvd hc d1 d2
    rcases Nat.eq_zero_or_pos (i - j) with z | z
    · omega
    · have := Nat.le_of_dvd z d
      omega
  rcases Nat.le_total j i with h | h
  · exact aux i j h hi h1 h2
  · exact (aux j i h hj h1.symm h2.symm).symm
/-- two rounds without a common divisor: every pair of remainders once -/
theorem crt_perm {m n : Nat} (hm : 0 < m) (hn : 0 < n) (hc : Nat.Coprime m n) : ((List.range (m * n)).map fun i => (i % m, i % n)).Perm (prodL (List.range m) (List.range n)) := by
  refine perm_of (nodup_map List.nodup_range fun i hi j hj e => ?_) (prod_nodup List.nodup_range List.nodup_range) (fun x hx => ?_) (by rw [prod_len, List.length_map, List.length_range, List.length_range, List.length_range]; exact Nat.le_refl _)
  · simp only [Prod.mk.injEq] at e
    exact mod_inj hc (List.mem_range.mp hi) (List.mem_range.mp hj) e.1 e.2
  · obtain ⟨i, _, rfl⟩ := List.mem_map.mp hx
    exact prod_mem.mpr ⟨List.mem_range.mpr (Nat.mod_lt _ hm), List.mem_range.mpr (Nat.mod_lt _ hn)⟩
theorem per_mod {α : Type} {f : Nat → α} {n : Nat} (h : IsPer f n) (i : Nat) : f (i % n) = f i := by
  have := h.mul (i / n) (i % n)
  rw [Nat.mul_comm, Nat.mod_add_div] at this
  exact this.symm
theorem cnt_crt {f g : Nat → Bool} {m n : Nat} (hm : 0 < m) (hn : 0 < n) (hc : Nat.Coprime m n) (hf : IsPer f m) (hg : IsPer g n) : cnt (fun t => f t && g t) 0 (m * n) = cnt f 0 m * cnt g 0 n := by
  have h := flt_perm (crt_perm hm hn hc) fun q => f q.1 && g q.2
  rw [prod_flt, flt_map] at h
  unfold cnt
  simp only [Nat.zero_add]
  rw [← h]
  congr 1
  refine List.filter_congr fun i _ => ?_
  show (f i && g i) = (f (i % m) && g (i % n))
  rw [per_mod hf, per_mod hg]
def prodN : List Nat → Nat
  | [] => 1
  | a :: l => a * prodN l
theorem prodN_pos : ∀ {l : List Nat}, (∀ a ∈ l, 0 < a) → 0 < prodN l
  | [], _ => Nat.one_pos
  | a :: l, h => Nat.mul_pos (h a (List.mem_cons_self ..)) (prodN_pos fun b hb => h b (List.mem_cons_of_mem _ hb))
theorem prodN_cop {a : Nat} : ∀ {l : List Nat}, (∀ b ∈ l, Nat.Coprime a b) → Nat.Coprime a (prodN l)
  | [], _ => Nat.coprime_one_right a
  | b :: l, h => Nat.Coprime.mul_right (h b (List.mem_cons_self ..)) (prodN_cop fun c hc => h c (List.mem_cons_of_mem _ hc))
theorem prodN_zero : ∀ {l : List Nat}, prodN l = 0 ↔ 0 ∈ l
  | [] => by simp [prodN]
  | a :: l => by
    rw [prodN, Nat.mul_eq_zero, prodN_zero, List.mem_cons]
    exact or_congr ⟨Eq.symm, Eq.symm⟩ Iff.rfl
theorem per_all {α : Type} (G : α → Nat → Bool) (L : α → Nat) : ∀ (st : List α), (∀ s ∈ st, IsPer (G s) (L s)) → IsPer (fun t => st.all fun s => G s t) (prodN (st.map L))
  | [], _ => fun _ => rfl
  | s :: st, h => fun t => by
    simp only [List.map_cons, prodN, List.all_cons]
    have h1 : G s (t + L s * prodN (st.map L)) = G s t := by rw [Nat.mul_comm]; exact (h s (List.mem_cons_self ..)).mul _ t
    have h2 := (per_all G L st fun x hx => h x (List.mem_cons_of_mem _ hx)).mul (L s) t
    rw [h1]
    congr 1
/-- rounds without a common divisor: the counts' product -/
theorem cnt_all {α : Type} (G : α → Nat → Bool) (L : α → Nat) : ∀ (st : List α), (∀ s ∈ st, IsPer (G s) (L s)) → (∀ s ∈ st, 0 < L s) → (st.map L).Pairwise Nat.Coprime → cnt (fun t => st.all fun s => G s t) 0 (prodN (st.map L)) = prodN (st.map fun s => cnt (G s) 0 (L s))
  | [], _, _, _ => by simp [prodN, cnt, List.range_succ]
  | s :: st, h, hp, hc => by
    rw [List.map_cons, List.pairwise_cons] at hc
    have hpos : 0 < prodN (st.map L) := prodN_pos fun a ha => by
      obtain ⟨x, hx, rfl⟩ := List.mem_map.mp ha
      exact hp x (List.mem_cons_of_mem _ hx)
    have ih := cnt_all G L st (fun x hx => h x (List.mem_cons_of_mem _ hx)) (fun x hx => hp x (List.mem_cons_of_mem _ hx)) hc.2
    have hall := per_all G L st fun x hx => h x (List.mem_cons_of_mem _ hx)
    have := cnt_crt (hp s (List.mem_cons_self ..)) hpos (prodN_cop hc.1) (h s (List.mem_cons_self ..)) hall
    rw [ih] at this
    exact this
theorem cnt_zero {f : Nat → Bool} {n : Nat} : cnt f 0 n = 0 ↔ ∀ t, t < n → f t = false := by
  unfold cnt
  rw [List.length_eq_zero_iff, List.filter_eq_nil_iff]
  simp
theorem cnt_zero_per {f : Nat → Bool} {n : Nat} (h : IsPer f n) (hn : 0 < n) : cnt f 0 n = 0 ↔ ∀ t, f t = false := by
  rw [cnt_zero]
  exact ⟨fun z t => by rw [← per_mod h]; exact z _ (Nat.mod_lt _ hn), fun z t _ => z t⟩
end Dat
set_option Elab.async false
set_option linter.all false
set_option maxRecDepth 100000
set_option maxHeartbeats 4000000
set_option exponentiation.threshold 2000
/-! PlI: the law k04. -/
namespace Dat
local macro_rules | `(tactic| symm_saturate) => `(tactic| with_reducible conv => whnf)
/-! ### sheets whose pace has no common divisor with their length -/
def cop (s : Sheet) : Prop := Nat.gcd s.pat.length s.pace.natAbs = 1
theorem cop_per {s : Sheet} (h : cop s) : per s = s.pat.length := by
  unfold per rnd
  rw [show Nat.gcd s.pat.length s.pace.natAbs = 1 from h, Nat.div_one]
theorem per_len (s : Sheet) : per s ∣ s.pat.length := Nat.div_dvd_of_dvd (Nat.gcd_dvd_left _ _)
theorem sgn_isPer (s : Sheet) (h : s.ok) (pl : Int) : IsPer (fun t : Nat => sgnAt s pl (t : Int)) s.pat.length := fun t => by
  show sgnAt s pl ((t + s.pat.length : Nat) : Int) = _
  rw [Int.natCast_add]
  exact sgnAt_per s h pl _ _ (per_len s)
theorem sgns_isPer (s : Sheet) (h : s.ok) (ps : List Nat) : IsPer (fun t : Nat => ps.all fun p => sgnAt s (p : Int) (t : Int)) s.pat.length := fun t => by
  show (ps.all fun p => sgnAt s (p : Int) ((t + s.pat.length : Nat) : Int)) = ps.all fun p => sgnAt s (p : Int) (t : Int)
  congr 1
  funext p
  rw [Int.natCast_add]
  exact sgnAt_per s h (p : Int) _ _ (per_len s)
def ixS (s : Sheet) (pl : Int) (t : Nat) : Nat := ((s.first + pl + s.pace * (t : Int)) % s.pat.length).toNat
theorem ix_perm (s : Sheet) (h : s.ok) (hc : cop s) (pl : Int) : ((List.range s.pat.length).map (ixS s pl)).Perm (List.range s.pat.length) := by
  have h0 := ok_len h
  refine perm_of (nodup_map List.nodup_range fun i hi j hj e => ?_) List.nodup_range (fun x hx => ?_) (by simp)
  · have hi := List.mem_range.mp hi
    have hj := List.mem_range.mp hj
    have e0 : (s.first + pl + s.pace * (i : Int)) % s.pat.length = (s.first + pl + s.pace * (j : Int)) % s.pat.length := by
      have a1 : 0 ≤ (s.first + pl + s.pace * (i : Int)) % s.pat.length := Int.emod_nonneg _ (by omega)
      have a2 : 0 ≤ (s.first + pl + s.pace * (j : Int)) % s.pat.length := Int.emod_nonneg _ (by omega)
      unfold ixS at e
      omega
    have e1 := Int.emod_emod_of_dvd
    have d : (s.pat.length : Int) ∣ s.pace * ((i : Int) - (j : Int)) := by
      have := Int.dvd_of_emod_eq_zero (Int.emod_eq_emod_iff_emod_sub_eq_zero.mp e0)
      have e2 : s.first + pl + s.pace * (i : Int) - (s.first + pl + s.pace * (j : Int)) = s.pace * ((i : Int) - (j : Int)) := by rw [Int.mul_sub]; omega
      rw [e2] at this
      exact this
    have d2 : s.pat.length ∣ s.pace.natAbs * ((i : Int) - (j : Int)).natAbs := by
      have := Int.natAbs_dvd_natAbs.mpr d
      rw [Int.natAbs_mul, Int.natAbs_natCast] at this
      exact this
    have d3 : s.pat.length ∣ ((i : Int) - (j : Int)).natAbs := Nat.Coprime.dvd_of_dvd_mul_left hc d2
    rcases Nat.eq_zero_or_pos ((i : Int) - (j : Int)).natAbs with z | z
    · omega
    · have := Nat.le_of_dvd z d3
      omega
  · obtain ⟨t, _, rfl⟩ := List.mem_map.mp hx
    unfold ixS
    have a2 := Int.emod_lt_of_pos (s.first + pl + s.pace * (t : Int)) (by omega : (0 : Int) < s.pat.length)
    have a1 : 0 ≤ (s.first + pl + s.pace * (t : Int)) % s.pat.length := Int.emod_nonneg _ (by omega)
    exact List.mem_range.mpr (by omega)
theorem range_getD (l : List Bool) : (List.range l.length).map (fun i => l.getD i false) = l := by
  apply List.ext_getElem?
  intro i
  rw [List.getElem?_map]
  by_cases h : i < l.length
  · rw [List.getElem?_range h, List.getElem?_eq_getElem h]
    simp [List.getD_eq_getElem?_getD, List.getElem?_eq_getElem h]
  · rw [List.getElem?_eq_none (by simpa using h), List.getElem?_eq_none (by omega)]; rfl
theorem cnt_pat (s : Sheet) (h : s.ok) (hc : cop s) (pl : Int) : cnt (fun t => sgnAt s pl (t : Int)) 0 s.pat.length = (s.pat.filter id).length := by
  have h1 := flt_perm (ix_perm s h hc pl) fun i => s.pat.getD i false
  rw [flt_map] at h1
  unfold cnt
  simp only [Nat.zero_add]
  have h2 : ((List.range s.pat.length).filter fun t => sgnAt s pl ((t : Nat) : Int)).length = ((List.range s.pat.length).filter fun t => s.pat.getD (ixS s pl t) false).length := rfl
  rw [h2, h1]
  have h3 := flt_map (fun i => s.pat.getD i false) id (List.range s.pat.length)
  rw [range_getD] at h3
  exact h3.symm
theorem dots (l : List Bool) : ((l.map sgn).filter fun d => d == 46).length = (l.filter id).length := by
  rw [flt_map]
  congr 1
  refine List.filter_congr fun b _ => ?_
  cases b <;> rfl

/-! ### the whole stack -/
structure St4 (st : Stack) : Prop where
  ok : okSt st
  cop : ∀ s ∈ st, cop s
  pw : (st.map fun s => s.pat.length).Pairwise Nat.Coprime
def prodW (st : Stack) : Nat := prodN (st.map fun s => s.pat.length)
theorem St4.pos {st : Stack} (h : St4 st) : 0 < prodW st := prodN_pos fun a ha => by
  obtain ⟨s, hs, rfl⟩ := List.mem_map.mp ha
  exact ok_len (h.ok.1 s hs)
theorem St4.cnt {st : Stack} (h : St4 st) (pl : Int) : cnt (opnF st pl) 0 (prodW st) = prodN (st.map fun s => (s.pat.filter id).length) := by
  have := cnt_all (fun s (t : Nat) => sgnAt s pl (t : Int)) (fun s => s.pat.length) st (fun s hs => sgn_isPer s (h.ok.1 s hs) pl) (fun s hs => ok_len (h.ok.1 s hs)) h.pw
  have e : (st.map fun s => Dat.cnt (fun (t : Nat) => sgnAt s pl (t : Int)) 0 s.pat.length) = st.map fun s => (s.pat.filter id).length := List.map_congr_left fun s hs => cnt_pat s (h.ok.1 s hs) (h.cop s hs) pl
  rw [e] at this
  exact this
theorem St4.per {st : Stack} (h : St4 st) (pl : Int) : IsPer (opnF st pl) (prodW st) := per_all (fun s (t : Nat) => sgnAt s pl (t : Int)) (fun s => s.pat.length) st fun s hs => sgn_isPer s (h.ok.1 s hs) pl
def goodS4 (ps : List Nat) (s : Sheet) : Nat := Dat.cnt (fun t : Nat => ps.all fun p => sgnAt s (p : Int) (t : Int)) 0 s.pat.length
theorem all_swap {α β : Type} (f : α → β → Bool) (as : List α) (bs : List β) : (as.all fun a => bs.all fun b => f a b) = bs.all fun b => as.all fun a => f a b := by
  rw [Bool.eq_iff_iff]
  simp only [List.all_eq_true]
  exact ⟨fun h b hb a ha => h a ha b hb, fun h a ha b hb => h b hb a ha⟩
/-- no beat at which all places are open: some sheet has none by itself -/
theorem St4.none {st : Stack} (h : St4 st) (ps : List Nat) : (∀ u, opnA st ps u = false) ↔ 0 ∈ st.map (goodS4 ps) := by
  have e : (fun t : Nat => opnA st ps t) = fun (t : Nat) => st.all fun (s : Sheet) => ps.all fun (p : Nat) => sgnAt s (p : Int) (t : Int) := by
    funext t
    exact all_swap (fun (p : Nat) (s : Sheet) => sgnAt s (p : Int) (t : Int)) ps st
  have hp := per_all (fun (s : Sheet) (t : Nat) => ps.all fun (p : Nat) => sgnAt s (p : Int) (t : Int)) (fun s => s.pat.length) st fun s hs => sgns_isPer s (h.ok.1 s hs) ps
  have hc := cnt_all (fun (s : Sheet) (t : Nat) => ps.all fun (p : Nat) => sgnAt s (p : Int) (t : Int)) (fun s => s.pat.length) st (fun s hs => sgns_isPer s (h.ok.1 s hs) ps) (fun s hs => ok_len (h.ok.1 s hs)) h.pw
  rw [← e] at hp hc
  rw [← cnt_zero_per hp h.pos, hc]
  exact prodN_zero

/-! ### the law's own words -/
def F_law_of : FSp := fun ds S k => ∃ x : D, ds = [.own 0, x] ∧ Drw S 0 ∧ S.length = 1 ∧
  ((∃ xs : List D, x = .lst xs ∧ xs ≠ [] ∧ xs.length ≤ 1000 ∧ ∀ d S', d ∈ xs → Drw S' 0 → S'.length = 1 → k d S') ∨ (∃ xs : List Nat, x = .str xs ∧ xs ≠ [] ∧ xs.length ≤ 1000 ∧ ∀ d S', d ∈ xs → Drw S' 0 → S'.length = 1 → k (.str [d]) S'))
theorem p_law_of : ∀ ds S k, F_law_of ds S k → b_law_of F_law_draw (bodyK k) (entry 2 ds) S := by
  rintro _ S k ⟨x, rfl, hd, hl, ⟨xs, rfl, hx, hn, hk⟩ | ⟨xs, rfl, hx, hn, hk⟩⟩
  · have h0 : 0 < xs.length := List.length_pos_iff.mpr hx
    refine call_draw hd (by omega) (many_ok (by omega)) fun r S1 r0 r1 hd1 st1 => ?_
    obtain ⟨x, hm, ha⟩ := at_mem (xs := xs) r0 r1
    refine onO_intro ha ?_
    exact hk _ _ hm hd1 (st1.1.trans hl)
  · have h0 : 0 < xs.length := List.length_pos_iff.mpr hx
    refine call_draw hd (by omega) (many_ok (by omega)) fun r S1 r0 r1 hd1 st1 => ?_
    obtain ⟨x, hm, ha⟩ := at_mem (xs := xs) r0 r1
    refine onO_intro ha ?_
    exact hk _ _ hm hd1 (st1.1.trans hl)
theorem call_of {n : Nat} {xs : List D} {S : Sto} {k : DK} (h : Drw S n) (hx : xs ≠ []) (hn : xs.length ≤ 1000) (hp : ∀ d ∈ xs, d.pur = true) (hk : ∀ d S', d ∈ xs → Drw S' n → Stp n S S' → k d S') : callM F_law_of [.own n, .lst xs] S k :=
  callM_intro h (purC (by simp only [D.pur]; exact purAll_mem hp) rfl) (fun d => d ∈ xs) (fun S1 hd hl K hK => ⟨_, rfl, hd, hl, .inl ⟨xs, rfl, hx, hn, hK⟩⟩) hp fun d S' hm hd hs => hk d S' hm hd hs
theorem call_ofS {n : Nat} {xs : List Nat} {S : Sto} {k : DK} (h : Drw S n) (hx : xs ≠ []) (hn : xs.length ≤ 1000) (hk : ∀ d S', d ∈ xs → Drw S' n → Stp n S S' → k (.str [d]) S') : callM F_law_of [.own n, .str xs] S k :=
  callM_intro h (purC rfl rfl) (fun d => ∃ c ∈ xs, d = .str [c]) (fun S1 hd hl K hK => ⟨_, rfl, hd, hl, .inr ⟨xs, rfl, hx, hn, fun d S' hm h1 h2 => hK _ _ ⟨d, hm, rfl⟩ h1 h2⟩⟩) (fun x hx => by obtain ⟨c, _, rfl⟩ := hx; rfl) fun d S' hm hd hs => by
    obtain ⟨c, hc, rfl⟩ := hm
    exact hk c S' hc hd hs
def F_law_product : FSp := fun ds S k => ∃ ns : List Nat, ds = [.lst (ns.map fun (n : Nat) => .int (n : Int))] ∧ (∀ n ∈ ns, n ≤ 10) ∧ k (.int ((prodN ns : Nat) : Int)) S
theorem p_law_product : ∀ ds S k, F_law_product ds S k → b_law_product (bodyK k) (entry 3 ds) S := by
  rintro _ S k ⟨ns, rfl, hn, hk⟩
  refine forT_ind (fun (n : Nat) => D.int (n : Int)) (fun rest env s => s = S ∧ ∃ (done : Nat) (c : Option D), env = [some (.lst (ns.map fun (n : Nat) => .int (n : Int))), some (.int (done : Int)), c] ∧ (∀ n ∈ rest, n ≤ 10) ∧ done * prodN rest = prodN ns) ?_ ?_ ns _ S ⟨rfl, 1, _, rfl, hn, Nat.one_mul _⟩
  · rintro _ _ ⟨rfl, done, c, rfl, _, h⟩
    have h' : done = prodN ns := by simpa [prodN] using h
    show k (.int (done : Int)) _
    rw [h']; exact hk
  · rintro n rest _ _ ⟨rfl, done, c, rfl, hr, h⟩ N hN
    have := hr n (List.mem_cons_self ..)
    refine ⟨.inr (.inl ⟨by omega, by omega⟩), ?_⟩
    rw [← Int.natCast_mul]
    exact hN _ _ ⟨rfl, done * n, _, rfl, fun m hm => hr m (List.mem_cons_of_mem _ hm), by rw [← h, prodN, Nat.mul_assoc]⟩
theorem call_product {ns : List Nat} (h : ∀ n ∈ ns, n ≤ 10) {S : Sto} {k : DK} (hk : k (.int ((prodN ns : Nat) : Int)) S) : callP F_law_product [.lst (ns.map fun (n : Nat) => .int (n : Int))] S k :=
  callP_intro (purC (by simp only [D.pur]; exact purAll_map (fun _ => rfl) ns) rfl) (d := .int _) rfl hk fun K hK => ⟨ns, rfl, h, hK⟩
theorem Drw.set {S : Sto} {n m : Nat} {mo : MO} (h : Drw S n) (hne : m ≠ n) : Drw (S.set m mo) n := by
  obtain ⟨i, j, h, ho⟩ := h
  exact ⟨i, j, by rw [List.getElem?_set_ne hne]; exact h, ho⟩
theorem Drw.push {S : Sto} {n : Nat} {mo : MO} (h : Drw S n) : Drw (S ++ [mo]) n := by
  have := h.lt
  obtain ⟨i, j, h, ho⟩ := h
  exact ⟨i, j, by rw [List.getElem?_append_left this]; exact h, ho⟩

/-! ### the law -/
def F_law_k04 : FSp := fun ds S k => ∃ ns : List Int, ds = [.scr ns] ∧ ns.length ≤ 63 ∧ ∀ S', k (.bl true) S'
theorem turns10 (l : Nat) : ∃ m : Nat, m ≤ 10 ∧ (if (if (l : Int) < 10 then (l : Int) else 10) > 1 then (if (l : Int) < 10 then (l : Int) else 10) else 1) = (m : Int) :=
  ⟨(if (if (l : Int) < 10 then (l : Int) else 10) > 1 then (if (l : Int) < 10 then (l : Int) else 10) else 1).toNat, by repeat' split
                                                                                                                        all_goals omega, by repeat' split
                                                                                                                                            all_goals omega⟩
/-- the stack while it is drawn: lengths of those that are done -/
structure B4 (st : Stack) (done : List Nat) : Prop where
  ok : ∀ s ∈ st, s.ok ∧ cop s
  sub : (st.map fun s => s.pat.length).Sublist done
theorem B4.fin {st : Stack} (h : B4 st [3, 4, 5, 7]) : St4 st := by
  have hp : ([3, 4, 5, 7] : List Nat).Pairwise Nat.Coprime := by decide
  have hl := h.sub.length_le
  simp only [List.length_map, List.length_cons, List.length_nil] at hl
  exact ⟨⟨fun s hs => (h.ok s hs).1, by omega⟩, fun s hs => (h.ok s hs).2, hp.sublist h.sub⟩
theorem gcd_ok {L : Nat} {p : Int} (hL : L = 3 ∨ L = 4 ∨ L = 5 ∨ L = 7) (hp : p = 1 ∨ p = -1 ∨ p = (L : Int) + 1 ∨ p = 1 - (L : Int)) : Nat.gcd L p.natAbs = 1 ∧ -10 ≤ p ∧ p ≤ 10 := by
  rcases hL with rfl | rfl | rfl | rfl <;> rcases hp with rfl | rfl | rfl | rfl <;> decide
theorem eq_good2 {α : Type} [DecidableEq α] {e : α → D} {n : Nat} (h : GoodE e n) (hn : n ≤ 64 := by decide) {a b : α} {x y : D} {S : Sto} {k : DK} (ha : res S x = e a) (hb : res S y = e b) (hk : k (.bl (decide (a = b))) S) : oEq x y S k := by
  unfold oEq
  rw [ha, hb, h.eqv]
  exact ⟨⟨h.pln a, h.pln b, .inl (Nat.le_trans (h.dep a) hn)⟩, hk⟩
theorem res_at {S : Sto} {q : Nat} {xs : List D} (h : S[q]? = some (.lst xs)) : res S (.own q) = .lst xs := by simp [res, h]
theorem prodN_le : ∀ (l : List Nat), (∀ a ∈ l, a ≤ 10) → prodN l ≤ 10 ^ l.length
  | [], _ => Nat.le_refl _
  | a :: l, h => by
    rw [prodN, List.length_cons, Nat.pow_succ, Nat.mul_comm]
    exact Nat.mul_le_mul (prodN_le l fun b hb => h b (List.mem_cons_of_mem _ hb)) (h a (List.mem_cons_self ..))
theorem isNon_ON (o : Option Nat) : isNon (encON o) = o.isNone := by cases o <;> rfl
theorem isNon_OC (o : Option Cls) : isNon (encOC o) = o.isNone := by cases o <;> rfl
theorem in_nat (z : Nat) (l : List Nat) : inD (.int (z : Int)) (.lst (l.map fun (i : Nat) => D.int (i : Int))) = decide (z ∈ l) := by
  induction l with
  | nil => rfl
  | cons a l ih =>
    simp only [inD, List.map_cons, List.any_cons] at ih ⊢
    rw [ih]
    by_cases h : z = a
    · subst h; simp [D.eqv]
    · have : ¬ ((a : Int) = (z : Int)) := by omega
      simp [D.eqv, h, this]
theorem in_nat_ok (z : Nat) (l : List Nat) : InOk (.int (z : Int)) (.lst (l.map fun (i : Nat) => D.int (i : Int))) := ⟨rfl, plnAll_map (f := fun i : Nat => D.int (i : Int)) (fun _ => rfl) l, .inl (by simp [D.dep])⟩
@[reducible] def b_k04_add : DTS := sSeq (sSet 5 (dSl (dOp oMul (dCallM F_law_pattern (aCons (dVar 2) (aCons (dC (.int 10)) (aNil)))) (dC (.int 10))) (pNo) (pSo (dVar 4))))
    (sSeq (sSet 6 (dCallM F_law_of (aCons (dVar 2) (aCons (dNew (nLst (aCons (dC (.int 1)) (aCons (dUn uNeg (dC (.int 1))) (aCons (dIf (tBl (dOp oLt (dVar 4) (dC (.int 10)))) (dOp oAdd (dVar 4) (dC (.int 1))) (dC (.int 1))) (aCons (dOp oSub (dC (.int 1)) (dVar 4)) (aNil))))))) (aNil)))))
    (sDrop (dApp (dVar 3) (dTup (aCons (dVar 5) (aCons (dVar 6) (aCons (dCallM F_law_draw (aCons (dVar 2) (aCons (dVar 4) (aNil)))) (aNil))))))))
theorem k04_add {E : DEnds} {s : Sto} {n q L : Nat} {st : Stack} {a0 a1 a5 a6 : Option D} {r : Env} (hne : q ≠ n) (hd : Drw s n) (hst : s[q]? = some (.lst (st.map encS))) (hL : L = 3 ∨ L = 4 ∨ L = 5 ∨ L = 7) (hlen : st.length ≤ 1000)
    (h : ∀ (sh : Sheet) s' b5 b6, sh.ok → cop sh → sh.pat.length = L → Drw s' n → s'[q]? = some (.lst ((st ++ [sh]).map encS)) → E.nx (a0 :: a1 :: some (.own n) :: some (.own q) :: some (.int (L : Int)) :: b5 :: b6 :: r) s') :
    b_k04_add E (a0 :: a1 :: some (.own n) :: some (.own q) :: some (.int (L : Int)) :: a5 :: a6 :: r) s := by
  have hL7 : 3 ≤ L ∧ L ≤ 7 := by omega
  refine call_pattern hd (by decide) (by decide) fun p S1 hp0 hp1 hd1 st1 => ?_
  refine ⟨⟨by decide, by decide, by rw [List.length_map]; omega⟩, ?_⟩
  symm_saturate
  rw [cut_to, repL_image, ← List.map_take]
  have hpl : ((repL (10 : Int).toNat p).take L).length = L := by
    have : 0 < p.length := List.length_pos_iff.mpr hp0
    rw [List.length_take, repL_size]
    show min L (10 * p.length) = L
    omega
  generalize (repL (10 : Int).toNat p).take L = pat at hpl ⊢
  symm_saturate
  refine br_eq (c := true) (decide_eq_true (by omega)) ?_
  symm_saturate
  refine ⟨l4, ?_⟩
  symm_saturate
  refine call_of hd1 (by simp) (by simp) (fun d hd => ?_) fun d S2 hm hd2 st2 => ?_
  · simp only [List.mem_cons, List.not_mem_nil, or_false] at hd
    rcases hd with rfl | rfl | rfl | rfl <;> rfl
  obtain ⟨pc, rfl, hpc⟩ : ∃ pc : Int, d = .int pc ∧ (pc = 1 ∨ pc = -1 ∨ pc = (L : Int) + 1 ∨ pc = 1 - (L : Int)) := by
    simp only [List.mem_cons, List.not_mem_nil, or_false] at hm
    rcases hm with rfl | rfl | rfl | rfl
    · exact ⟨_, rfl, .inl rfl⟩
    · exact ⟨_, rfl, .inr (.inl rfl)⟩
    · exact ⟨_, rfl, .inr (.inr (.inl rfl))⟩
    · exact ⟨_, rfl, .inr (.inr (.inr rfl))⟩
  obtain ⟨g1, g2, g3⟩ := gcd_ok hL hpc
  have hst2 : S2[q]? = some (.lst (st.map encS)) := by rw [st2.2 q hne, st1.2 q hne]; exact hst
  symm_saturate
  rw [hst2]
  refine call_draw hd2 (by omega) (many_ok (by omega)) fun f S3 f0 f1 hd3 st3 => ?_
  have hst3 : S3[q]? = some (.lst (st.map encS)) := by rw [st3.2 q hne]; exact hst2
  refine ⟨l3, ?_⟩
  symm_saturate
  rw [hst3]
  refine ⟨by rw [List.length_map]; exact Nat.lt_of_le_of_lt hlen (by decide), ?_⟩
  have e : st.map encS ++ [D.tup [.str (pat.map sgn), .int pc, .int f]] = (st ++ [(⟨pat, pc, f⟩ : Sheet)]).map encS := by simp [encS]
  rw [e]
  refine h ⟨pat, pc, f⟩ _ _ _ ⟨fun z => ?_, by rw [hpl]; omega, g2, g3⟩ (by unfold cop; rw [hpl]; exact g1) hpl (hd3.set hne) (List.getElem?_set_self (List.getElem?_eq_some_iff.mp hst3).1)
  have z' : pat = [] := z
  rw [z'] at hpl
  simp at hpl
  omega
theorem p_law_k04 : ∀ ds S k, F_law_k04 ds S k → b_law_k04 F_law_draws F_law_draw F_law_pattern F_law_of F_law_product F_how_often F_next_open F_law_sign F_cover (bodyK k) (entry 18 ds) S := by
  rintro _ S k ⟨ns, rfl, hl, hk⟩
  symm_saturate
  obtain ⟨m, hm, em⟩ := turns10 ns.length
  rw [em]
  refine ⟨⟨by omega, by omega⟩, ?_⟩
  rw [rng_map]
  refine forT_ind (fun (i : Nat) => D.int (i : Int)) (fun rest env _ => (∀ x ∈ rest, x < 10) ∧ ∃ (a1 a2 a3 a4 a5 a6 a7 a8 a9 a10 a11 a12 a13 a14 a15 a16 a17 : Option D), env = [some (.scr ns), a1, a2, a3, a4, a5, a6, a7, a8, a9, a10, a11, a12, a13, a14, a15, a16, a17]) ?_ ?_ _ _ S
    ⟨fun x hx => by have := List.mem_range.mp hx; omega, _, _, _, _, _, _, _, _, _, _, _, _, _, _, _, _, _, rfl⟩
  · intro _ S _
    exact hk S
  rintro c rest _ S0 ⟨hc, a1, a2, a3, a4, a5, a6, a7, a8, a9, a10, a11, a12, a13, a14, a15, a16, a17, rfl⟩ N hN
  have hc8 := hc c (List.mem_cons_self ..)
  refine call_draws hl (by omega) fun i j hij => ?_
  have hd0 := drw_push (S := S0) hij
  generalize (S0 ++ [MO.lst [.int i, .int j]]) = S1 at hd0 ⊢
  generalize S0.length = n at hd0 ⊢
  refine ⟨l0, ?_⟩
  have hne : S1.length ≠ n := Nat.ne_of_gt hd0.lt
  have hst0 : (S1 ++ [MO.lst []])[S1.length]? = some (.lst ([].map encS)) := by simp
  have hd1 : Drw (S1 ++ [MO.lst []]) n := hd0.push
  symm_saturate
  generalize (S1 ++ [MO.lst []]) = S2 at hd1 hst0 ⊢
  generalize S1.length = q at hne hst0 ⊢
  refine ⟨l4, ?_⟩
  refine forT_ind (fun (i : Nat) => D.int (i : Int)) (fun rest env s => ∃ (st : Stack) (done : List Nat) (a4 a5 a6 : Option D), Drw s n ∧ s[q]? = some (.lst (st.map encS)) ∧ done ++ rest = [3, 4, 5, 7] ∧ B4 st done ∧ env = [some (.scr ns), some (.int (c : Int)), some (.own n), some (.own q), a4, a5, a6, a7, a8, a9, a10, a11, a12, a13, a14, a15, a16, a17]) ?_ ?_ [3, 4, 5, 7] _ S2
    ⟨[], [], _, _, _, hd1, hst0, rfl, ⟨(fun s hs => nomatch hs), List.nil_sublist _⟩, rfl⟩
  rotate_left
  · rintro L rest _ S3 ⟨st, done, a4, a5, a6, hd3, hst3, hdone, hb, rfl⟩ N1 hN1
    have hL : L = 3 ∨ L = 4 ∨ L = 5 ∨ L = 7 := by
      have : L ∈ ([3, 4, 5, 7] : List Nat) := by rw [← hdone]; simp
      simpa using this
    have hskip : ∀ (e4 : Option D) (a5 a6 : Option D) s, e4 = some (.int (L : Int)) → Drw s n → s[q]? = some (.lst (st.map encS)) → N1 [some (.scr ns), some (.int (c : Int)), some (.own n), some (.own q), e4, a5, a6, a7, a8, a9, a10, a11, a12, a13, a14, a15, a16, a17] s := fun e4 a5 a6 s _ h1 h2 => hN1 _ _ ⟨st, done ++ [L], _, _, _, h1, h2, by rw [List.append_assoc]; exact hdone, ⟨hb.ok, hb.sub.trans (List.sublist_append_left ..)⟩, rfl⟩
    refine call_draw hd3 (by decide) (by decide) fun r S4 r0 r1 hd4 st4 => ?_
    have hst4 : S4[q]? = some (.lst (st.map encS)) := by rw [st4.2 q hne]; exact hst3
    have add : ∀ {E : DEnds} {s4 : Sto} (r : Env) , Drw s4 n → s4[q]? = some (.lst (st.map encS)) → E.nx = N1 → r = [a7, a8, a9, a10, a11, a12, a13, a14, a15, a16, a17] → b_k04_add E (some (.scr ns) :: some (.int (c : Int)) :: some (.own n) :: some (.own q) :: some (.int (L : Int)) :: a5 :: a6 :: r) s4 := by
      rintro E s4 r h1 h2 h3 rfl
      have hlen : st.length ≤ 1000 := by
        have := hb.sub.length_le
        have e4 := congrArg List.length hdone
        simp only [List.length_map, List.length_append, List.length_cons, List.length_nil] at this e4
        omega
      refine k04_add hne h1 h2 hL hlen fun sh s5 b5 b6 ho hcp hpl hd5 hst5 => ?_
      rw [h3]
      exact hN1 _ _ ⟨st ++ [sh], done ++ [L], _, _, _, hd5, hst5, by rw [List.append_assoc]; exact hdone, ⟨fun x hx => by
        rcases List.mem_append.mp hx with z | z
        · exact hb.ok x z
        · simp at z; subst z; exact ⟨ho, hcp⟩, by rw [List.map_append]; exact hb.sub.append (by simp [hpl])⟩, rfl⟩
    refine br_intro (fun _ => add _ hd4 hst4 rfl rfl) fun _ => ?_
    refine eq_good (e := D.int) goodInt (by decide) rfl rfl ?_
    refine br_intro (fun _ => ?_) fun _ => hskip _ _ _ _ rfl hd4 hst4
    refine ⟨l0, ?_⟩
    refine eq_good2 (e := fun l : Stack => D.lst (l.map encS)) (b := []) goodS.lst (by decide) (res_at hst4) rfl ?_
    exact br_intro (fun _ => add _ hd4 hst4 rfl rfl) fun _ => hskip _ _ _ _ rfl hd4 hst4
  rintro _ S3 ⟨st, done, a4, a5, a6, hd3, hst3, hdone, hb, rfl⟩
  rw [List.append_nil] at hdone
  subst hdone
  have h4 := hb.fin
  have hs := h4.ok
  have hwl := whole_le hs
  have hw0 := whole_pos hs
  symm_saturate
  rw [res_at hst3]
  symm_saturate
  have hL10 : ∀ n ∈ st.map (fun s => s.pat.length), n ≤ 10 := fun n hn => by
    obtain ⟨s, hs', rfl⟩ := List.mem_map.mp hn
    exact (hs.1 s hs').2.1
  have hst4 : st.length ≤ 4 := by
    have := hb.sub.length_le
    simpa using this
  have hpow : ∀ l : List Nat, (∀ n ∈ l, n ≤ 10) → l.length = st.length → prodN l ≤ 10000 := fun l h e => by
    refine Nat.le_trans (prodN_le l h) ?_
    rw [e]
    exact Nat.le_trans (Nat.pow_le_pow_right (by decide) hst4) (by decide)
  have hW : prodW st ≤ 10000 := hpow _ hL10 (by simp)
  refine lc_map encS (fun s => .int ((s.pat.length : Nat) : Int)) st (len_le (by omega)) (fun s hm K1 K0 h1 => ?_) ?_
  · refine (show K1 (.int (((s.pat.map sgn).length : Nat) : Int)) S3 from ?_)
    rw [List.length_map]; exact h1
  have e1 : (st.map fun s => D.int ((s.pat.length : Nat) : Int)) = (st.map fun s => s.pat.length).map fun (n : Nat) => D.int (n : Int) := by rw [List.map_map]; rfl
  rw [e1]
  refine call_product hL10 ?_
  symm_saturate
  refine call_draw hd3 (by decide) (by decide) fun pl S4 pl0 pl8 hd4 _ => ?_
  symm_saturate
  refine ⟨⟨by decide, by decide, by decide⟩, ?_⟩
  refine call_draw hd4 (by decide) (by decide) fun fi S5 fi0 fi1 hd5 _ => ?_
  have fi1' : fi < 10 ^ 15 := fi1
  symm_saturate
  refine call_draw hd5 (by decide) (by decide) fun ti S6 ti0 ti1 hd6 _ => ?_
  obtain ⟨pl, rfl⟩ := Int.eq_ofNat_of_zero_le pl0
  obtain ⟨fi, rfl⟩ := Int.eq_ofNat_of_zero_le fi0
  obtain ⟨ti, rfl⟩ := Int.eq_ofNat_of_zero_le ti0
  have et : (1 : Int) + (ti : Int) = ((1 + ti : Nat) : Int) := by omega
  symm_saturate
  rw [et]
  symm_saturate
  have hD10 : ∀ n ∈ st.map (fun s => (s.pat.filter id).length), n ≤ 10 := fun n hn => by
    obtain ⟨s, hs', rfl⟩ := List.mem_map.mp hn
    exact Nat.le_trans (List.length_filter_le _ _) (hs.1 s hs').2.1
  refine lc_map encS (fun s => .int (((s.pat.filter id).length : Nat) : Int)) st (len_le (by omega)) (fun s hm K1 K0 h1 => ?_) ?_
  · refine (show K1 (.int ((((s.pat.map sgn).filter fun d => d == 46).length : Nat) : Int)) S6 from ?_)
    rw [dots]; exact h1
  have e2 : (st.map fun s => D.int (((s.pat.filter id).length : Nat) : Int)) = (st.map fun s => (s.pat.filter id).length).map fun (n : Nat) => D.int (n : Int) := by rw [List.map_map]; rfl
  rw [e2]
  refine call_product hD10 ?_
  have hD : prodN (st.map fun s => (s.pat.filter id).length) ≤ 10000 := hpow _ hD10 (by simp)
  refine ⟨.inr (.inl ⟨by omega, by omega⟩), ?_⟩
  symm_saturate
  have hWe : prodN (st.map fun s => s.pat.length) = prodW st := rfl
  rw [hWe]
  refine ⟨.inr (.inl ⟨by omega, by omega⟩), ?_⟩
  rw [← Int.natCast_mul, ← Int.natCast_mul]
  symm_saturate
  rw [← Int.natCast_add]
  have hTW : (1 + ti) * prodW st ≤ 1001 * 10000 := Nat.mul_le_mul (by omega) hW
  refine call_often (a := fi) (b := fi + (1 + ti) * prodW st) hs (by omega) (by omega) ?_
  have hcnt : cnt (opnF st (pl : Int)) fi (fi + (1 + ti) * prodW st - fi) = (1 + ti) * prodN (st.map fun s => (s.pat.filter id).length) := by
    rw [Nat.add_sub_cancel_left, cnt_rounds (h4.per (pl : Int)), h4.cnt]
  rw [hcnt]
  refine ne_good (e := D.int) goodInt (by decide) rfl rfl ?_
  rw [decide_eq_true rfl]
  refine br_f ?_
  refine ⟨l1, ?_⟩
  refine call_next (ps := [pl]) (b := fi) hs (by simp) ?_
  symm_saturate
  rw [isNon_ON]
  refine eq_good (e := D.int) (b := 0) goodInt (by decide) rfl rfl ?_
  refine ne_good (e := D.bl) goodBl (by decide) rfl rfl ?_
  have hdue : (nextM st [pl] fi).isNone = decide ((((1 + ti) * prodN (st.map fun s => (s.pat.filter id).length) : Nat) : Int) = 0) := by
    rw [Bool.eq_iff_iff, Option.isNone_iff_eq_none, next_none hs, decide_eq_true_eq]
    have e : (∀ u, opnA st [pl] u = false) ↔ ∀ u, opnF st (pl : Int) u = false := by
      refine forall_congr' fun u => ?_
      simp [opnA, opnF]
    rw [e, ← cnt_zero_per (h4.per (pl : Int)) h4.pos, h4.cnt]
    constructor
    · intro z; rw [z]; simp
    · intro z
      have z' : (1 + ti) * prodN (st.map fun s => (s.pat.filter id).length) = 0 := by omega
      rcases Nat.mul_eq_zero.mp z' with q | q
      · omega
      · exact q
  rw [decide_eq_true hdue]
  refine br_f ?_
  symm_saturate
  refine ⟨⟨by decide, by decide⟩, ?_⟩
  rw [show (8 : Int) = ((8 : Nat) : Int) from rfl, rng_map]
  refine lc_inv (fun (i : Nat) => D.int (i : Int)) (fun S => Drw S n) (fun y => ∃ p : Nat, y = .int (p : Int) ∧ p < 8) (List.range 8) [] S6 (len_le (by simp)) hd6 (fun y hy => nomatch hy) (fun p hp S13 hd13 K1 K0 h1 h0 => ?_) fun ys S14 hd14 hly hys => ?_
  · symm_saturate
    refine call_draw hd13 (by decide) (by decide) fun z S15 z0 z1 hd15 _ => ?_
    refine eq_good (e := D.int) goodInt (by decide) rfl rfl ?_
    exact br_intro (fun _ => h1 _ _ ⟨p, rfl, List.mem_range.mp hp⟩ hd15) fun _ => h0 _ hd15
  obtain ⟨ps, rfl, hps⟩ := all_enc (enc := fun (i : Nat) => D.int (i : Int)) (Q := fun p => p < 8) hys
  have hpl : ps.length ≤ 8 := by simpa using hly
  refine ⟨l0, ?_⟩
  have hg0 : (S14 ++ [MO.lst []])[S14.length]? = some (.lst (([] : List Nat).map fun (i : Nat) => D.int (i : Int))) := by simp
  symm_saturate
  generalize (S14 ++ [MO.lst []]) = S15 at hg0 ⊢
  generalize S14.length = g at hg0 ⊢
  symm_saturate
  refine forT_ind encS (fun rest env s => ∃ (gl : List Nat) (a14 a15 : Option D), s[g]? = some (.lst (gl.map fun (i : Nat) => D.int (i : Int))) ∧ (∀ x ∈ rest, x.ok) ∧ gl ++ rest.map (goodS4 ps) = st.map (goodS4 ps) ∧ env = [some (.scr ns), some (.int (c : Int)), some (.own n), some (encSt st), a4, a5, a6, some (.int ((prodW st : Nat) : Int)), some (.int (pl : Int)), some (.int (fi : Int)), some (.int ((1 + ti : Nat) : Int)), some (.int (((1 + ti) * prodN (st.map fun s => (s.pat.filter id).length) : Nat) : Int)), some (encP ps), some (.own g), a14, a15, a16, a17]) ?_ ?_ st _ S15
    ⟨[], _, _, hg0, hs.1, rfl, rfl⟩
  rotate_left
  · rintro s rest _ S16 ⟨gl, a14, a15, hg, ho, hgl, rfl⟩ N2 hN2
    have hsok := ho s (List.mem_cons_self ..)
    have hLs := hsok.2.1
    refine (show (-2 ^ 62 ≤ (((s.pat.map sgn).length : Nat) : Int) ∧ (((s.pat.map sgn).length : Nat) : Int) < 2 ^ 62) ∧ _ from ?_)
    rw [List.length_map]
    refine ⟨⟨by omega, by omega⟩, ?_⟩
    rw [rng_map]
    refine lc_pure (fun (i : Nat) => D.int (i : Int)) (fun t => ps.all fun p => sgnAt s (p : Int) (t : Int)) (fun (i : Nat) => D.int (i : Int)) (List.range s.pat.length) [] (len_le (by simp; omega)) (fun t _ K1 K0 h1 h2 => ?_) ?_
    · refine lc_map (fun (p : Nat) => D.int (p : Int)) (fun (p : Nat) => .str [sgn (sgnAt s (p : Int) (t : Int))]) ps (len_le (by omega)) (fun p hm K1 K0 h1 => call_law_sign hsok h1) ?_
      have e3 : (ps.map fun (p : Nat) => D.str [sgn (sgnAt s (p : Int) (t : Int))]) = (ps.map fun (p : Nat) => sgnAt s (p : Int) (t : Int)).map fun b => D.str [sgn b] := by rw [List.map_map]; rfl
      rw [e3]
      refine ⟨in_ok _, ?_⟩
      show br (!inD (.str [35]) (.lst ((ps.map fun (p : Nat) => sgnAt s (p : Int) (t : Int)).map fun b => D.str [sgn b]))) _ _
      rw [in_shut, Bool.not_not]
      have e4 : (ps.map fun (p : Nat) => sgnAt s (p : Int) (t : Int)).all id = ps.all fun p => sgnAt s (p : Int) (t : Int) := by simp [List.all_map, Function.comp_def]
      rw [e4]
      exact br_intro h1 h2
    rw [List.nil_append]
    have hlen : (((List.range s.pat.length).filter fun (t : Nat) => ps.all fun p => sgnAt s (p : Int) (t : Int)).map fun (i : Nat) => D.int (i : Int)).length = goodS4 ps s := by
      unfold goodS4 Dat.cnt
      rw [List.length_map]
      simp only [Nat.zero_add]
    generalize (((List.range s.pat.length).filter fun (t : Nat) => ps.all fun p => sgnAt s (p : Int) (t : Int)).map fun (i : Nat) => D.int (i : Int)) = beats at hlen ⊢
    symm_saturate
    rw [hg]
    symm_saturate
    rw [hg]
    symm_saturate
    have hgn : gl.length ≤ 4 := by
      have := congrArg List.length hgl
      simp only [List.length_append, List.length_map] at this
      omega
    refine ⟨by rw [List.length_map]; exact Nat.lt_of_le_of_lt hgn (by decide), ?_⟩
    have e5 : (gl.map fun (i : Nat) => D.int (i : Int)) ++ [D.int ((beats.length : Nat) : Int)] = (gl ++ [goodS4 ps s]).map fun (i : Nat) => D.int (i : Int) := by rw [hlen]; simp
    rw [e5]
    refine hN2 _ _ ⟨gl ++ [goodS4 ps s], _, _, List.getElem?_set_self (List.getElem?_eq_some_iff.mp hg).1, fun x hx => ho x (List.mem_cons_of_mem _ hx), by rw [← hgl, List.append_assoc]; rfl, rfl⟩
  rintro _ S16 ⟨gl, a14, a15, hg, _, hgl, rfl⟩
  have hgl' : gl = st.map (goodS4 ps) := by simpa using hgl
  subst hgl'
  have hnone : (nextM st ps fi).isNone = decide (0 ∈ st.map (goodS4 ps)) := by
    rw [Bool.eq_iff_iff, Option.isNone_iff_eq_none, next_none hs, decide_eq_true_eq]
    exact h4.none ps
  have hcov : (coverM st ps).isNone = !decide (0 ∈ st.map (goodS4 ps)) := by
    have h0 : (nextM st ps 0).isNone = decide (0 ∈ st.map (goodS4 ps)) := by
      rw [Bool.eq_iff_iff, Option.isNone_iff_eq_none, next_none hs, decide_eq_true_eq]
      exact h4.none ps
    rw [← h0]
    unfold coverM
    cases nextM st ps 0 <;> rfl
  refine call_next (ps := ps) (b := fi) hs (by omega) ?_
  symm_saturate
  rw [isNon_ON]
  refine ⟨by rw [res_at hg]; exact in_nat_ok 0 _, ?_⟩
  rw [res_at hg, show (0 : Int) = ((0 : Nat) : Int) from rfl, in_nat, hnone]
  refine ne_good (e := D.bl) goodBl (by decide) rfl rfl ?_
  rw [decide_eq_true rfl]
  refine br_f ?_
  refine call_cover (ps := ps) hs (by omega) ?_
  symm_saturate
  rw [isNon_OC]
  refine ⟨by rw [res_at hg]; exact in_nat_ok 0 _, ?_⟩
  rw [res_at hg, in_nat, hcov]
  refine ne_good (e := D.bl) goodBl (by decide) rfl rfl ?_
  rw [decide_eq_true rfl]
  refine br_f ?_
  exact hN _ _ ⟨fun x hx => hc x (List.mem_cons_of_mem _ hx), _, _, _, _, _, _, _, _, _, _, _, _, _, _, _, _, _, rfl⟩
end Dat
set_option Elab.async false
set_option linter.all false
set_option maxRecDepth 100000
set_option maxHeartbeats 1000000
set_option exponentiation.threshold 2000
/-! PlL: is_cover, of anything. -/
namespace Dat
local macro_rules | `(tactic| symm_saturate) => `(tactic| with_reducible conv => whnf)
mutual
theorem pln_pur : ∀ {d : D}, d.pln = true → d.pur = true
  | .non, _ => rfl
  | .bl _, _ => rfl
  | .int _, _ => rfl
  | .str _, _ => rfl
  | .lst xs, h => by simp only [D.pln] at h; simp only [D.pur]; exact plnAll_pur h
  | .tup xs, h => by simp only [D.pln] at h; simp only [D.pur]; exact plnAll_pur h
  | .own _, h => by simp [D.pln] at h
  | .scr _, h => by simp [D.pln] at h
theorem plnAll_pur : ∀ {ds : List D}, D.plnAll ds = true → D.purAll ds = true
  | [], _ => rfl
  | d :: ds, h => by
    simp only [D.plnAll, Bool.and_eq_true] at h
    simp only [D.purAll, Bool.and_eq_true]
    exact ⟨pln_pur h.1, plnAll_pur h.2⟩
end
theorem pln_res {d : D} {S : Sto} (h : d.pln = true) : res S d = d := by cases d <;> first | rfl | (simp [D.pln] at h)
theorem pln_kind {d : D} (h : d.pln = true) : kindly d = true := by cases d <;> first | rfl | (simp [D.pln] at h)
theorem plnAll_mem : ∀ {ds : List D}, D.plnAll ds = true → ∀ d ∈ ds, d.pln = true
  | d :: ds, h, e, he => by
    simp only [D.plnAll, Bool.and_eq_true] at h
    rcases List.mem_cons.mp he with z | z
    · rw [z]; exact h.1
    · exact plnAll_mem h.2 e z
theorem lc_mapD {g : DTG} {tt : DTT} {te : DTE} {env : Env} {S : Sto} {k : List D → Sto → Prop} (r : D → D) (xs : List D) (hl : xs.length ≤ line)
    (h : ∀ x ∈ xs, ∀ (K1 : DK) (K0 : Sto → Prop), K1 (r x) S → g x env S fun env2 S1 => tt env2 S1 fun b S2 => br b (te env2 S2 K1) (K0 S2))
    (hk : k (xs.map r) S) : lcT g tt te env xs [] S k := by
  have := lc_map (g := g) (tt := tt) (te := te) (env := env) (S := S) (k := k) id r xs hl h hk
  rwa [List.map_id] at this
/-! ### is_between -/
def btwD (lo hi : Int) : D → Bool
  | .int i => decide (lo ≤ i) && decide (i ≤ hi)
  | _ => false
def F_is_between : FSp := fun ds S k => ∃ (d : D) (lo hi : Int), ds = [d, .int lo, .int hi] ∧ d.pln = true ∧ k (.bl (btwD lo hi d)) S
theorem p_is_between : ∀ ds S k, F_is_between ds S k → b_is_between (bodyK k) (entry 3 ds) S := by
  rintro _ S k ⟨d, lo, hi, rfl, hd, hk⟩
  have hkd := pln_kind hd
  cases d with
  | own n => cases hkd
  | scr n => cases hkd
  | int i =>
    refine ⟨rfl, ?_⟩
    refine ⟨rfl, ?_⟩
    refine br_intro (b := decide (lo ≤ i)) (fun h => ?_) fun h => ?_
    · show k (.bl (decide (i ≤ hi))) S
      simp only [btwD, h, Bool.true_and] at hk
      exact hk
    · simp only [btwD, h, Bool.false_and] at hk
      first
        | exact hk
        | (show k (.bl (decide (lo ≤ i))) S; rw [h]; exact hk)
  | bl b => exact ⟨rfl, rfl, hk⟩
  | non => exact ⟨rfl, hk⟩
  | str s => exact ⟨rfl, hk⟩
  | tup s => exact ⟨rfl, hk⟩
  | lst s => exact ⟨rfl, hk⟩
theorem call_between {d : D} {lo hi : Int} (h : d.pln = true) {S : Sto} {k : DK} (hk : k (.bl (btwD lo hi d)) S) : callP F_is_between [d, .int lo, .int hi] S k :=
  callP_intro (purC (pln_pur h) rfl) (d := .bl _) rfl hk fun K hK => ⟨d, lo, hi, rfl, h, hK⟩
/-! ### is_class -/
def isCls : D → Bool
  | .tup xs => decide (xs.length = 2) && xs.all (btwD 0 99)
  | _ => false
def F_is_class : FSp := fun ds S k => ∃ (d : D), ds = [d] ∧ d.pln = true ∧ k (.bl (isCls d)) S
theorem p_is_class : ∀ ds S k, F_is_class ds S k → b_is_class F_is_between (bodyK k) (entry 2 ds) S := by
  rintro _ S k ⟨d, rfl, hd, hk⟩
  have hkd := pln_kind hd
  cases d with
  | own n => cases hkd
  | scr n => cases hkd
  | tup xs =>
    refine ⟨rfl, ?_⟩
    refine eq_good (e := D.int) (b := 2) goodInt (by decide) rfl rfl ?_
    refine br_intro (fun h => ?_) fun h => ?_
    · have hl : xs.length = 2 := by have := of_decide_eq_true h; omega
      have hp : D.plnAll xs = true := by simpa [D.pln] using hd
      have hm : xs = xs.map id := by simp
      rw [hm]
      refine lc_map id (fun d => .bl (btwD 0 99 d)) xs (len_le (by omega)) (fun d hdm K1 K0 h1 => call_between (plnAll_mem hp d hdm) h1) ?_
      refine onO_intro (blsD_map _ xs) ?_
      rw [List.all_map]
      have e : isCls (.tup xs) = xs.all (btwD 0 99) := by simp [isCls, hl]
      rw [e] at hk
      exact hk
    · have hl : ¬ xs.length = 2 := by have := of_decide_eq_false h; omega
      have e : isCls (.tup xs) = false := by simp [isCls, hl]
      rw [e] at hk
      rw [h]
      exact hk
  | int i => exact ⟨rfl, hk⟩
  | bl b => exact ⟨rfl, hk⟩
  | non => exact ⟨rfl, hk⟩
  | str s => exact ⟨rfl, hk⟩
  | lst s => exact ⟨rfl, hk⟩
theorem call_class {d : D} (h : d.pln = true) {S : Sto} {k : DK} (hk : k (.bl (isCls d)) S) : callP F_is_class [d] S k :=
  callP_intro (purC (pln_pur h) rfl) (d := .bl _) rfl hk fun K hK => ⟨d, rfl, h, hK⟩
theorem btw_int {lo hi : Int} {d : D} (h : btwD lo hi d = true) : ∃ i, d = .int i ∧ lo ≤ i ∧ i ≤ hi := by
  cases d with
  | int i => simp only [btwD, Bool.and_eq_true, decide_eq_true_eq] at h; exact ⟨i, rfl, h.1, h.2⟩
  | _ => simp [btwD] at h
theorem isCls_enc {d : D} (h : isCls d = true) : ∃ c : Nat × Nat, d = encC c := by
  cases d with
  | tup xs =>
    simp only [isCls, Bool.and_eq_true, decide_eq_true_eq] at h
    obtain ⟨hl, ha⟩ := h
    match xs, hl with
    | [x, y], _ =>
      simp only [List.all_cons, List.all_nil, Bool.and_true, Bool.and_eq_true] at ha
      obtain ⟨i, rfl, i0, _⟩ := btw_int ha.1
      obtain ⟨j, rfl, j0, _⟩ := btw_int ha.2
      obtain ⟨i, rfl⟩ := Int.eq_ofNat_of_zero_le i0
      obtain ⟨j, rfl⟩ := Int.eq_ofNat_of_zero_le j0
      exact ⟨(i, j), rfl⟩
  | _ => simp [isCls] at h
/-! ### rises -/
def ltC (a b : Nat × Nat) : Bool := decide (a.1 < b.1) || (decide (a.1 = b.1) && decide (a.2 < b.2))
def risesM (cs : Cls) : Bool := (cs.zip (cs.drop 1)).all fun q => ltC q.1 q.2
theorem lex_ltC (a b : Nat × Nat) : lexLt [(a.1 : Int), (a.2 : Int)] [(b.1 : Int), (b.2 : Int)] = ltC a b := by
  unfold ltC
  simp only [lexLt]
  rcases Nat.lt_trichotomy a.1 b.1 with h | h | h
  · have h1 : (a.1 : Int) < (b.1 : Int) := by omega
    have h2 : ¬ (a.1 : Int) = (b.1 : Int) := by omega
    have h3 : ¬ a.1 = b.1 := by omega
    simp [h, h1, h2, h3]
  · have h1 : (a.1 : Int) = (b.1 : Int) := by omega
    rcases Nat.lt_trichotomy a.2 b.2 with g | g | g
    · have g1 : (a.2 : Int) < (b.2 : Int) := by omega
      have g2 : ¬ (a.2 : Int) = (b.2 : Int) := by omega
      simp [h, g, g1, g2]
    · simp [h, g]
    · have g1 : ¬ (a.2 : Int) < (b.2 : Int) := by omega
      have g2 : ¬ (a.2 : Int) = (b.2 : Int) := by omega
      have g3 : ¬ a.2 < b.2 := by omega
      simp [h, g1, g2, g3]
  · have h1 : ¬ (a.1 : Int) < (b.1 : Int) := by omega
    have h2 : ¬ (a.1 : Int) = (b.1 : Int) := by omega
    have h3 : ¬ a.1 = b.1 := by omega
    have h4 : ¬ a.1 < b.1 := by omega
    simp [h1, h2, h3, h4]
def F_rises : FSp := fun ds S k => ∃ (cs : Cls) (x : D), ds = [x] ∧ (x = encCt cs ∨ x = encCs cs) ∧ cs.length ≤ 20000 ∧ k (.bl (risesM cs)) S
theorem zip_map {α : Type} (f : α → D) : ∀ a b : List α, zipD (a.map f) (b.map f) = (a.zip b).map fun q => D.tup [f q.1, f q.2]
  | [], _ => by simp [zipD]
  | _ :: _, [] => by simp [zipD]
  | x :: a, y :: b => by
    have := zip_map f a b
    simp only [zipD, List.map_cons, List.zipWith_cons_cons, List.zip_cons_cons] at this ⊢
    rw [this]
theorem p_rises : ∀ ds S k, F_rises ds S k → b_rises (bodyK k) (entry 3 ds) S := by
  rintro _ S k ⟨cs, x, rfl, rfl | rfl, hl, hk⟩
  · symm_saturate
    rw [show cut (cs.map encC) (some 1) none = (cs.map encC).drop 1 from cut_from _ 1, ← List.map_drop]
    symm_saturate
    rw [zip_map]
    refine lc_map (fun q : (Nat × Nat) × (Nat × Nat) => D.tup [encC q.1, encC q.2]) (fun q => .bl (ltC q.1 q.2)) (cs.zip (cs.drop 1)) (len_le (by simp; omega)) (fun q _ K1 K0 h1 => ?_) ?_
    · refine ⟨rfl, ?_⟩
      refine (show K1 (.bl (lexLt [(q.1.1 : Int), (q.1.2 : Int)] [(q.2.1 : Int), (q.2.2 : Int)])) S from ?_)
      rw [lex_ltC]; exact h1
    · refine onO_intro (blsD_map _ _) ?_
      rw [List.all_map]
      exact hk
  · symm_saturate
    rw [show cut (cs.map encC) (some 1) none = (cs.map encC).drop 1 from cut_from _ 1, ← List.map_drop]
    symm_saturate
    rw [zip_map]
    refine lc_map (fun q : (Nat × Nat) × (Nat × Nat) => D.tup [encC q.1, encC q.2]) (fun q => .bl (ltC q.1 q.2)) (cs.zip (cs.drop 1)) (len_le (by simp; omega)) (fun q _ K1 K0 h1 => ?_) ?_
    · refine ⟨rfl, ?_⟩
      refine (show K1 (.bl (lexLt [(q.1.1 : Int), (q.1.2 : Int)] [(q.2.1 : Int), (q.2.2 : Int)])) S from ?_)
      rw [lex_ltC]; exact h1
    · refine onO_intro (blsD_map _ _) ?_
      rw [List.all_map]
      exact hk
theorem call_rises {cs : Cls} (h : cs.length ≤ 20000) {S : Sto} {k : DK} (hk : k (.bl (risesM cs)) S) : callP F_rises [encCt cs] S k :=
  callP_intro (purC (by simp only [D.pur]; exact purCl cs) rfl) (d := .bl _) rfl hk fun K hK => ⟨cs, _, rfl, .inl rfl, h, hK⟩
theorem call_risesL {cs : Cls} (h : cs.length ≤ 20000) {S : Sto} {k : DK} (hk : k (.bl (risesM cs)) S) : callP F_rises [encCs cs] S k :=
  callP_intro (purC (by simp only [D.pur]; exact purCl cs) rfl) (d := .bl _) rfl hk fun K hK => ⟨cs, _, rfl, .inr rfl, h, hK⟩

/-! ### is_cover -/
theorem in_cls (c : Nat × Nat) (l : Cls) : inD (encC c) (encCs l) = decide (c ∈ l) := by
  induction l with
  | nil => rfl
  | cons a l ih =>
    simp only [inD, List.map_cons, List.any_cons] at ih ⊢
    rw [ih, goodC.eqv]
    by_cases h : c = a
    · subst h; simp
    · have : ¬ a = c := fun z => h z.symm
      simp [h, this]
theorem in_cls_ok {d : D} (h : d.pln = true) (l : Cls) : InOk d (encCs l) := ⟨h, plnAll_map (f := encC) (fun _ => rfl) l, .inr (by
  have := depAll_map (f := encC) (n := 1) (fun _ => by simp [encC, D.dep, D.depAll]) l
  exact Nat.le_trans this (by decide))⟩
def clsIn (l : Cls) (d : D) : Bool := isCls d && inD d (encCs l)
theorem cls_all {l : Cls} : ∀ {xs : List D}, xs.all (clsIn l) = true → ∃ cs : Cls, xs = cs.map encC ∧ ∀ c ∈ cs, c ∈ l
  | [], _ => ⟨[], rfl, fun c h => nomatch h⟩
  | x :: xs, h => by
    simp only [List.all_cons, Bool.and_eq_true] at h
    obtain ⟨cs, rfl, hcs⟩ := cls_all h.2
    have h1 := h.1
    simp only [clsIn, Bool.and_eq_true] at h1
    obtain ⟨c, rfl⟩ := isCls_enc h1.1
    rw [in_cls, decide_eq_true_eq] at h1
    refine ⟨c :: cs, rfl, fun y hy => ?_⟩
    rcases List.mem_cons.mp hy with z | z
    · rw [z]; exact h1.2
    · exact hcs y z
/-- what is_cover answers of a thing -/
inductive CovD (st : Stack) (ps : List Nat) : D → Bool → Prop where
  | no (d : D) (h : ∀ xs, d = .tup xs → xs.all (clsIn (shuttingM st ps)) = false) : CovD st ps d false
  | cs (cs : Cls) (h : ∀ c ∈ cs, c ∈ shuttingM st ps) (h2 : (cs.map encC).all (clsIn (shuttingM st ps)) = true) : CovD st ps (encCt cs) (risesM cs && coversM st cs)
def F_is_cover : FSp := fun ds S k => ∃ (st : Stack) (ps : List Nat) (d : D), ds = [encSt st, encP ps, d] ∧ okSt st ∧ ps.length ≤ 1000 ∧ d.pln = true ∧ (∀ xs, d = .tup xs → xs.length ≤ 20000) ∧ ∀ b, CovD st ps d b → k (.bl b) S
theorem p_is_cover : ∀ ds S k, F_is_cover ds S k → b_is_cover F_shutting F_is_class F_rises F_covers (bodyK k) (entry 5 ds) S := by
  rintro _ S k ⟨st, ps, d, rfl, hs, hp, hd, hlen, hk⟩
  have hkd := pln_kind hd
  refine call_shutting hs hp ?_
  have no : (∀ xs, d = .tup xs → xs.all (clsIn (shuttingM st ps)) = false) → k (.bl false) S := fun h => hk false (.no d h)
  cases d with
  | own n => cases hkd
  | scr n => cases hkd
  | int i => exact ⟨rfl, no fun xs h => by cases h⟩
  | bl b => exact ⟨rfl, no fun xs h => by cases h⟩
  | non => exact ⟨rfl, no fun xs h => by cases h⟩
  | str s => exact ⟨rfl, no fun xs h => by cases h⟩
  | lst s => exact ⟨rfl, no fun xs h => by cases h⟩
  | tup xs =>
    have hl := hlen xs rfl
    have hpl : D.plnAll xs = true := by simpa [D.pln] using hd
    refine ⟨rfl, ?_⟩
    rw [show ([Cl.tuple].any fun c => isC c (res S (D.tup xs))) = true from rfl]
    symm_saturate
    refine lc_mapD (fun d => .bl (clsIn (shuttingM st ps) d)) xs (len_le (by omega)) (fun d hdm K1 K0 h1 => ?_) ?_
    · have hdp := plnAll_mem hpl d hdm
      refine call_class hdp ?_
      refine br_intro (b := isCls d) (fun h => ?_) fun h => ?_
      · refine ⟨in_cls_ok hdp _, ?_⟩
        have e : clsIn (shuttingM st ps) d = inD d (encCs (shuttingM st ps)) := by simp [clsIn, h]
        rw [e] at h1
        exact h1
      · have e : clsIn (shuttingM st ps) d = false := by simp [clsIn, h]
        rw [e] at h1
        rw [h]
        exact h1
    · refine onO_intro (blsD_map _ xs) ?_
      rw [List.all_map]
      have e : xs.all (id ∘ clsIn (shuttingM st ps)) = xs.all (clsIn (shuttingM st ps)) := rfl
      rw [e]
      cases hq : xs.all (clsIn (shuttingM st ps)) with
      | false =>
        symm_saturate
        rw [Bool.not_false]
        symm_saturate
        refine no fun ys hy => ?_
        cases hy; exact hq
      | true =>
        obtain ⟨cs, rfl, hcs⟩ := cls_all hq
        have hok : okC st cs := ⟨fun c hc => (shutting_okC hs ps).1 c (hcs c hc), by simpa using hl⟩
        have fin := hk _ (.cs cs hcs hq)
        symm_saturate
        rw [Bool.not_true]
        symm_saturate
        refine call_rises (cs := cs) (by simpa using hl) ?_
        refine br_intro (b := risesM cs) (fun h => ?_) fun h => ?_
        · rw [h, Bool.true_and] at fin
          exact call_coversT hs hok fin
        · rw [h, Bool.false_and] at fin
          rw [h]
          exact fin
theorem call_is_cover {st : Stack} {ps : List Nat} {d : D} (h : okSt st) (hp : ps.length ≤ 1000) (hd : d.pln = true) (hl : ∀ xs, d = .tup xs → xs.length ≤ 20000) {S : Sto} {k : DK} (hk : ∀ b, CovD st ps d b → k (.bl b) S) : callP F_is_cover [encSt st, encP ps, d] S k := by
  refine ⟨purC (purSt _) (purC (purP _) (purC (pln_pur hd) rfl)), st, ps, d, rfl, h, hp, hd, hl, fun b hb => ?_⟩
  exact onO_intro (thaw_pur rfl) (hk b hb)
end Dat
set_option Elab.async false
set_option linter.all false
set_option maxRecDepth 100000
set_option maxHeartbeats 4000000
set_option exponentiation.threshold 2000
/-! PlM: what covers, in plain. -/
namespace Dat
local macro_rules | `(tactic| symm_saturate) => `(tactic| with_reducible conv => whnf)
/-! ### the classes in their order -/
theorem shut_mem {st : Stack} {ps : List Nat} {c : Nat × Nat} : c ∈ shuttingM st ps ↔ ∃ s, st[c.1]? = some s ∧ c.2 < per s ∧ shutM ps s c.2 = true := by
  unfold shuttingM
  rw [List.mem_flatMap]
  constructor
  · rintro ⟨q, hq, hc⟩
    unfold shutOf at hc
    obtain ⟨r, hr, rfl⟩ := List.mem_map.mp hc
    obtain ⟨h1, h2⟩ := List.mem_filter.mp hr
    exact ⟨q.2, numb_mem hq, List.mem_range.mp h1, h2⟩
  · rintro ⟨s, hs, h1, h2⟩
    refine ⟨(c.1, s), mem_numb hs, ?_⟩
    unfold shutOf
    exact List.mem_map.mpr ⟨c.2, List.mem_filter.mpr ⟨List.mem_range.mpr h1, h2⟩, rfl⟩
theorem ltC_iff (a b : Nat × Nat) : ltC a b = true ↔ a.1 < b.1 ∨ (a.1 = b.1 ∧ a.2 < b.2) := by simp [ltC]
theorem shut_rise (ps : List Nat) : ∀ (st : Stack) (i : Nat), ((numb i st).flatMap (shutOf ps)).Pairwise (fun a b => ltC a b = true) ∧ ∀ c ∈ (numb i st).flatMap (shutOf ps), i ≤ c.1
  | [], _ => ⟨List.Pairwise.nil, fun c h => nomatch h⟩
  | s :: st, i => by
    obtain ⟨h1, h2⟩ := shut_rise ps st (i + 1)
    simp only [numb, List.flatMap_cons]
    have hown : ∀ c ∈ shutOf ps (i, s), c.1 = i := fun c hc => by
      unfold shutOf at hc
      obtain ⟨r, _, rfl⟩ := List.mem_map.mp hc
      rfl
    refine ⟨List.pairwise_append.mpr ⟨?_, h1, fun a ha b hb => ?_⟩, fun c hc => ?_⟩
    · unfold shutOf
      rw [List.pairwise_map]
      have hr : (List.range (per s)).Pairwise (· < ·) := List.pairwise_lt_range
      exact List.Pairwise.imp (R := fun x y : Nat => x < y) (fun {a b} h => (ltC_iff (i, a) (i, b)).mpr (.inr ⟨rfl, h⟩)) (hr.filter _)
    · have e1 := hown a ha
      have e2 := h2 b hb
      exact (ltC_iff _ _).mpr (.inl (by omega))
    · rcases List.mem_append.mp hc with z | z
      · exact Nat.le_of_eq (hown c z).symm
      · exact Nat.le_trans (Nat.le_succ _) (h2 c z)
theorem rises_of : ∀ {cs : Cls}, cs.Pairwise (fun a b => ltC a b = true) → risesM cs = true
  | [], _ => rfl
  | [a], _ => rfl
  | a :: b :: l, h => by
    have h1 := List.pairwise_cons.mp h
    have ih := rises_of h1.2
    have hab := h1.1 b (List.mem_cons_self ..)
    unfold risesM at ih ⊢
    simp only [List.drop_succ_cons, List.drop_zero, List.zip_cons_cons, List.all_cons] at ih ⊢
    rw [hab, Bool.true_and]
    cases l with
    | nil => rfl
    | cons c l => simpa using ih
theorem shutting_rises (st : Stack) (ps : List Nat) {cs : Cls} (h : cs.Sublist (shuttingM st ps)) : risesM cs = true := rises_of ((shut_rise ps st 0).1.sublist h)
/-! ### hits -/
theorem sgn_mod (s : Sheet) (h : s.ok) (p : Int) (b : Nat) : sgnAt s p ((b % per s : Nat) : Int) = sgnAt s p (b : Int) := by
  have e : (b : Int) = ((b % per s : Nat) : Int) + ((per s * (b / per s) : Nat) : Int) := by
    rw [← Int.natCast_add]
    exact congrArg Int.ofNat (Nat.mod_add_div b (per s)).symm
  rw [e, sgnAt_per s h p _ _ (Nat.dvd_mul_right _ _)]
theorem hit_shut (st : Stack) (h : okSt st) (ps : List Nat) (b : Nat) : (shuttingM st ps).any (hit st b) = !opnA st ps b := by
  rw [Bool.eq_iff_iff, List.any_eq_true]
  have e : (!opnA st ps b) = true ↔ ∃ s ∈ st, ∃ p ∈ ps, sgnAt s (p : Int) (b : Int) = false := by
    simp only [Bool.not_eq_true', opnA, List.all_eq_false, opn]
    constructor
    · rintro ⟨p, hp, hs⟩
      have hs' : (st.all fun s => sgnAt s (p : Int) (b : Int)) = false := by simpa using hs
      obtain ⟨s, hm, hx⟩ := List.all_eq_false.mp hs'
      exact ⟨s, hm, p, hp, by simpa using hx⟩
    · rintro ⟨s, hm, p, hp, hx⟩
      refine ⟨p, hp, ?_⟩
      have : (st.all fun s => sgnAt s (p : Int) (b : Int)) = false := List.all_eq_false.mpr ⟨s, hm, by simp [hx]⟩
      simp [this]
  rw [e]
  constructor
  · rintro ⟨c, hc, hh⟩
    obtain ⟨s, hs, h1, h2⟩ := shut_mem.mp hc
    have hsm : s ∈ st := List.mem_iff_getElem?.mpr ⟨_, hs⟩
    have hh' : b % per s = c.2 := by
      have := of_decide_eq_true hh
      rwa [perAt_eq hs] at this
    rw [← hh'] at h2
    simp only [shutM, Bool.not_eq_true', List.all_eq_false] at h2
    obtain ⟨p, hp, hx⟩ := h2
    rw [sgn_mod s (h.1 s hsm)] at hx
    exact ⟨s, hsm, p, hp, by simpa using hx⟩
  · rintro ⟨s, hm, p, hp, hx⟩
    obtain ⟨n, hn⟩ := List.mem_iff_getElem?.mp hm
    have hpos := per_pos (h.1 s hm)
    refine ⟨(n, b % per s), shut_mem.mpr ⟨s, hn, Nat.mod_lt _ hpos, ?_⟩, ?_⟩
    · simp only [shutM, Bool.not_eq_true', List.all_eq_false]
      refine ⟨p, hp, ?_⟩
      rw [sgn_mod s (h.1 s hm), hx]
      exact Bool.false_ne_true
    · unfold hit
      rw [perAt_eq hn]
      exact decide_eq_true rfl
theorem opnA_mod (st : Stack) (h : okSt st) (ps : List Nat) (t : Nat) : opnA st ps (t % whole st) = opnA st ps t := by
  unfold opnA
  exact all_congr2 fun p _ => opn_mod st h (p : Int) t
where all_congr2 {f g : Nat → Bool} : ∀ {l : List Nat}, (∀ a ∈ l, f a = g a) → l.all f = l.all g
  | [], _ => rfl
  | a :: l, h => by rw [List.all_cons, List.all_cons, h a (List.mem_cons_self ..), all_congr2 fun b hb => h b (List.mem_cons_of_mem _ hb)]
theorem covers_iff {st : Stack} (h : okSt st) {cs : Cls} (hc : ∀ c ∈ cs, c.1 < st.length) : coversM st cs = true ↔ ∀ b, cs.any (hit st b) = true := by
  have hw0 := whole_pos h
  unfold coversM
  rw [List.all_eq_true]
  constructor
  · intro z b
    have := z (b % whole st) (List.mem_range.mpr (Nat.mod_lt _ hw0))
    rw [List.any_eq_true] at this ⊢
    obtain ⟨c, hm, hh⟩ := this
    refine ⟨c, hm, ?_⟩
    have hlt := hc c hm
    have hs : st[c.1]? = some st[c.1] := List.getElem?_eq_getElem hlt
    unfold hit at hh ⊢
    rw [perAt_eq hs] at hh ⊢
    have hd : per st[c.1] ∣ whole st := wholeL_per st 1 _ (List.getElem_mem _)
    rw [Nat.mod_mod_of_dvd _ hd] at hh
    exact hh
  · intro z b _
    exact z b
theorem covers_shut {st : Stack} (h : okSt st) (ps : List Nat) : coversM st (shuttingM st ps) = true ↔ ∀ u, opnA st ps u = false := by
  rw [covers_iff h (shutting_okC h ps).1]
  refine forall_congr' fun b => ?_
  rw [hit_shut st h, Bool.not_eq_true']
/-! ### pruning -/
theorem prune_keeps (st : Stack) (cs0 : Cls) : ∀ (rest found : Cls), found.Sublist cs0 → coversM st found = true → (rest.foldl (stepC st) found).Sublist cs0 ∧ coversM st (rest.foldl (stepC st) found) = true
  | [], found, h1, h2 => ⟨h1, h2⟩
  | one :: rest, found, h1, h2 => by
    rw [List.foldl_cons]
    unfold stepC
    split
    · rename_i hq
      exact prune_keeps st cs0 rest _ (List.Sublist.trans List.filter_sublist h1) hq
    · exact prune_keeps st cs0 rest found h1 h2
theorem prune_cov {st : Stack} {cs : Cls} (h : coversM st cs = true) : (pruneM st cs).Sublist cs ∧ coversM st (pruneM st cs) = true := prune_keeps st cs cs cs (List.Sublist.refl _) h
/-! ### is_cover of classes -/
theorem encC_inj : ∀ {a b : Cls}, a.map encC = b.map encC → a = b
  | [], [], _ => rfl
  | [], _ :: _, h => by simp at h
  | _ :: _, [], h => by simp at h
  | x :: a, y :: b, h => by
    simp only [List.map_cons, List.cons.injEq, D.tup.injEq, D.int.injEq, and_true] at h
    obtain ⟨⟨h1, h2⟩, h3⟩ := h
    have e : x = y := Prod.ext (by omega) (by omega)
    rw [e, encC_inj h3]
theorem cls_in {l cs : Cls} (h : ∀ c ∈ cs, c ∈ l ∧ c.1 ≤ 99 ∧ c.2 ≤ 99) : (cs.map encC).all (clsIn l) = true := by
  rw [List.all_eq_true]
  intro d hd
  obtain ⟨c, hc, rfl⟩ := List.mem_map.mp hd
  obtain ⟨h1, h2, h3⟩ := h c hc
  unfold clsIn
  rw [in_cls, decide_eq_true h1, Bool.and_true]
  have a1 : (0 : Int) ≤ (c.1 : Int) := by omega
  have a2 : (c.1 : Int) ≤ 99 := by omega
  have a3 : (0 : Int) ≤ (c.2 : Int) := by omega
  have a4 : (c.2 : Int) ≤ 99 := by omega
  simp [isCls, btwD, a2, a4]
theorem cov_cls {st : Stack} {ps : List Nat} {cs : Cls} {b : Bool} (h : ∀ c ∈ cs, c ∈ shuttingM st ps ∧ c.1 ≤ 99 ∧ c.2 ≤ 99) (hb : CovD st ps (encCt cs) b) : b = (risesM cs && coversM st cs) := by
  have hall := cls_in (fun c hc => h c hc)
  generalize hd : encCt cs = d at hb
  cases hb with
  | no _ hn =>
    have := hn _ hd.symm
    rw [this] at hall
    cases hall
  | cs cs' h1 h2 =>
    have : cs = cs' := encC_inj (by injection hd)
    rw [this]
theorem shut_small {st : Stack} (h : okSt st) (hl : st.length ≤ 90) {ps : List Nat} {c : Nat × Nat} (hc : c ∈ shuttingM st ps) : c.1 ≤ 99 ∧ c.2 ≤ 99 := by
  obtain ⟨s, hs, h1, _⟩ := shut_mem.mp hc
  have h2 := (List.getElem?_eq_some_iff.mp hs).1
  have hm : s ∈ st := List.mem_iff_getElem?.mpr ⟨_, hs⟩
  have h3 : per s ≤ 10 := Nat.le_trans rnd_le (h.1 s hm).2.1
  omega
theorem shut_more {st : Stack} {ps ps' : List Nat} (h : ∀ p ∈ ps, p ∈ ps') {c : Nat × Nat} (hc : c ∈ shuttingM st ps) : c ∈ shuttingM st ps' := by
  obtain ⟨s, h1, h2, h3⟩ := shut_mem.mp hc
  refine shut_mem.mpr ⟨s, h1, h2, ?_⟩
  simp only [shutM, Bool.not_eq_true', List.all_eq_false] at h3 ⊢
  obtain ⟨p, hp, hx⟩ := h3
  exact ⟨p, h p hp, hx⟩
theorem shut_wider {st : Stack} {x : Sheet} {ps : List Nat} {c : Nat × Nat} (hc : c ∈ shuttingM st ps) : c ∈ shuttingM (st ++ [x]) ps := by
  obtain ⟨s, h1, h2, h3⟩ := shut_mem.mp hc
  exact shut_mem.mpr ⟨s, by rw [List.getElem?_append_left (List.getElem?_eq_some_iff.mp h1).1]; exact h1, h2, h3⟩
theorem covers_wider {st : Stack} (h : okSt st) {x : Sheet} (h' : okSt (st ++ [x])) {cs : Cls} (hc : ∀ c ∈ cs, c.1 < st.length) (hv : coversM st cs = true) : coversM (st ++ [x]) cs = true := by
  rw [covers_iff h' fun c hm => by rw [List.length_append]; exact Nat.lt_of_lt_of_le (hc c hm) (Nat.le_add_right _ _)]
  intro b
  have := (covers_iff h hc).mp hv b
  rw [List.any_eq_true] at this ⊢
  obtain ⟨c, hm, hh⟩ := this
  refine ⟨c, hm, ?_⟩
  unfold hit at hh ⊢
  have : perAt (st ++ [x]) c.1 = perAt st c.1 := by
    unfold perAt
    rw [List.getElem?_append_left (hc c hm)]
  rw [this]; exact hh
theorem nil_any {α : Type} (f : α → Bool) (l : List α) : decide ((l.filter f).map (fun _ => (1 : Int)) = []) = !l.any f := by
  induction l with
  | nil => rfl
  | cons a l ih =>
    rw [List.filter_cons, List.any_cons]
    cases h : f a with
    | true => simp
    | false => simpa [h] using ih

/-! ### the law's own classes -/
theorem call_law_beats {s : Sheet} (h : s.ok) {S : Sto} {k : DK} (hk : k (.int ((per s : Nat) : Int)) S) : callP F_law_beats [encS s] S k :=
  callP_intro rfl (d := .int ((per s : Nat) : Int)) rfl hk fun K hK => ⟨s, rfl, h, hK⟩
def F_law_classes : FSp := F_shutting
theorem p_law_classes : ∀ ds S k, F_law_classes ds S k → b_law_classes F_law_beats F_law_sign (bodyK k) (entry 7 ds) S := by
  rintro _ _ k ⟨st, ps, rfl, rfl, hs, hp, hk⟩
  have htot := shutting_len hs ps
  refine ⟨l0, ?_⟩
  symm_saturate
  rw [enumD_map]
  refine forT_ind (fun q : Nat × Sheet => D.tup [.int (q.1 : Int), encS q.2]) (fun rest env s => ∃ (done : Cls) (a b c d : Option D), s = [.lst (done.map encC)] ∧ env = [some (encSt st), some (encP ps), some (.own 0), a, b, c, d] ∧ (∀ q ∈ rest, q.2.ok) ∧ done ++ rest.flatMap (shutOf ps) = shuttingM st ps) ?_ ?_ (numb 0 st) _ _
    ⟨[], _, _, _, _, rfl, rfl, numb_ok hs, rfl⟩
  · rintro _ _ ⟨done, a, b, c, d, rfl, rfl, _, h⟩
    have h' : done = shuttingM st ps := by simpa using h
    show k (.own 0) _
    rw [h']; exact hk
  · rintro ⟨n, s⟩ rest _ _ ⟨done, a, b, c, d, rfl, rfl, ho, h⟩ N hN
    have hsok : s.ok := ho _ (List.mem_cons_self ..)
    refine ⟨rfl, ?_⟩
    refine (show callP F_law_beats [encS s] _ _ from ?_)
    refine call_law_beats hsok ?_
    have hper : per s ≤ 10 := Nat.le_trans rnd_le hsok.2.1
    refine ⟨⟨by omega, by omega⟩, ?_⟩
    rw [rng_map]
    refine forT_ind (fun (i : Nat) => D.int (i : Int)) (fun rest2 env s0 => ∃ (done : Cls) (c d : Option D), s0 = [.lst (done.map encC)] ∧ env = [some (encSt st), some (encP ps), some (.own 0), some (.int (n : Int)), some (encS s), c, d] ∧ done ++ ((rest2.filter (shutM ps s)).map fun r => (n, r)) ++ rest.flatMap (shutOf ps) = shuttingM st ps) ?_ ?_ (List.range (per s)) _ _
      ⟨done, _, _, rfl, rfl, by rw [List.append_assoc]; exact h⟩
    · rintro _ _ ⟨done, c, d, rfl, rfl, h⟩
      exact hN _ _ ⟨done, _, _, _, _, rfl, rfl, fun q hq => ho q (List.mem_cons_of_mem _ hq), by simpa using h⟩
    · rintro r rest2 _ _ ⟨done, c, d, rfl, rfl, h⟩ N2 hN2
      refine lc_map (fun (p : Nat) => D.int (p : Int)) (fun (p : Nat) => .str [sgn (sgnAt s (p : Int) (r : Int))]) ps (len_le (by omega)) (fun p hm K1 K0 h1 => call_law_sign hsok h1) ?_
      have e1 : (ps.map fun (p : Nat) => D.str [sgn (sgnAt s (p : Int) (r : Int))]) = (ps.map fun (p : Nat) => sgnAt s (p : Int) (r : Int)).map fun b => D.str [sgn b] := by rw [List.map_map]; rfl
      rw [e1]
      refine ⟨in_ok _, ?_⟩
      show br (inD (.str [35]) (.lst ((ps.map fun (p : Nat) => sgnAt s (p : Int) (r : Int)).map fun b => D.str [sgn b]))) _ _
      rw [in_shut]
      have e2 : (!(ps.map fun (p : Nat) => sgnAt s (p : Int) (r : Int)).all id) = shutM ps s r := by simp [shutM, List.all_map, Function.comp_def]
      rw [e2]
      refine br_intro (fun hq => ?_) fun hq => ?_
      · refine ⟨l2, ?_⟩
        symm_saturate
        have hlen : done.length < 100000 := by
          have := congrArg List.length h
          simp only [List.length_append] at this
          omega
        refine ⟨by rw [List.length_map]; exact Nat.lt_of_lt_of_le hlen (by decide), ?_⟩
        have e3 : done.map encC ++ [.tup [.int (n : Int), .int (r : Int)]] = (done ++ [(n, r)]).map encC := by simp
        show N2 _ [.lst (done.map encC ++ [.tup [.int (n : Int), .int (r : Int)]])]
        rw [e3]
        refine hN2 _ _ ⟨done ++ [(n, r)], _, _, rfl, rfl, ?_⟩
        rw [← h, List.filter_cons, if_pos hq]
        simp
      · refine hN2 _ _ ⟨done, _, _, rfl, rfl, ?_⟩
        rw [← h, List.filter_cons, if_neg (by rw [hq]; exact Bool.false_ne_true)]
theorem call_law_classes {st : Stack} {ps : List Nat} (h : okSt st) (hp : ps.length ≤ 1000) {S : Sto} {k : DK} (hk : k (encCs (shuttingM st ps)) S) : callP F_law_classes [encSt st, encP ps] S k :=
  callO_intro (purC (purSt _) (purC (purP _) rfl)) (purCl _) hk fun K hK => ⟨st, ps, rfl, rfl, h, hp, hK⟩
theorem pln_cls (cs : Cls) : (encCt cs).pln = true := by simp only [encCt, D.pln]; exact plnAll_map (f := encC) (fun _ => rfl) cs
/-- sorted places -/
theorem ms_nat {ms : List Int} {ns : List Nat} (hs : ms.Pairwise (· < ·)) (hm : ∀ i, i ∈ ms ↔ i ∈ ns.map fun (n : Nat) => (n : Int)) : ∃ ps : List Nat, ms = ps.map (fun (n : Nat) => (n : Int)) ∧ (∀ p, p ∈ ps ↔ p ∈ ns) ∧ ps.length ≤ ns.length := by
  have h0 : ∀ i ∈ ms, (0 : Int) ≤ i := fun i hi => by
    obtain ⟨n, _, rfl⟩ := List.mem_map.mp ((hm i).mp hi)
    omega
  have e : ms = (ms.map Int.toNat).map (fun (n : Nat) => (n : Int)) := by
    rw [List.map_map]
    conv => lhs; rw [← List.map_id ms]
    refine List.map_congr_left fun i hi => ?_
    have := h0 i hi
    show i = ((i.toNat : Nat) : Int)
    omega
  refine ⟨ms.map Int.toNat, e, fun p => ?_, ?_⟩
  · constructor
    · intro hp
      obtain ⟨i, hi, rfl⟩ := List.mem_map.mp hp
      obtain ⟨n, hn, rfl⟩ := List.mem_map.mp ((hm i).mp hi)
      exact hn
    · intro hp
      exact List.mem_map.mpr ⟨(p : Int), (hm _).mpr (List.mem_map.mpr ⟨p, hp, rfl⟩), rfl⟩
  · rw [List.length_map]
    have hn : ms.Nodup := hs.imp fun {a b} h e => by rw [e] at h; exact Int.lt_irrefl _ h
    have := pigeon ms (ns.map fun (n : Nat) => (n : Int)) hn fun x hx => (hm x).mp hx
    rwa [List.length_map] at this
theorem ints_map (ns : List Nat) : intsD (ns.map fun (n : Nat) => D.int (n : Int)) = some (ns.map fun (n : Nat) => (n : Int)) := by
  induction ns with
  | nil => rfl
  | cons n ns ih => simp only [List.map_cons, intsD, ih, Option.map_some]
end Dat
set_option Elab.async false
set_option linter.all false
set_option maxRecDepth 100000
set_option maxHeartbeats 2000000
set_option exponentiation.threshold 2000
/-! PlO: drawn things. -/
namespace Dat
local macro_rules | `(tactic| symm_saturate) => `(tactic| with_reducible conv => whnf)
mutual
def D.fit (m : Nat) : D → Bool
  | .own _ => false
  | .scr _ => false
  | .str s => decide (s.length ≤ m) && s.all fun c => decide (c < 128)
  | .lst xs => decide (xs.length ≤ m) && D.fitAll m xs
  | .tup xs => decide (xs.length ≤ m) && D.fitAll m xs
  | _ => true
def D.fitAll (m : Nat) : List D → Bool
  | [] => true
  | x :: xs => D.fit m x && D.fitAll m xs
end
mutual
theorem fit_pln {m : Nat} : ∀ {d : D}, d.fit m = true → d.pln = true
  | .non, _ => rfl
  | .bl _, _ => rfl
  | .int _, _ => rfl
  | .str _, _ => rfl
  | .lst xs, h => by simp only [D.fit, Bool.and_eq_true] at h; simp only [D.pln]; exact fitAll_pln h.2
  | .tup xs, h => by simp only [D.fit, Bool.and_eq_true] at h; simp only [D.pln]; exact fitAll_pln h.2
  | .own _, h => by simp [D.fit] at h
  | .scr _, h => by simp [D.fit] at h
theorem fitAll_pln {m : Nat} : ∀ {ds : List D}, D.fitAll m ds = true → D.plnAll ds = true
  | [], _ => rfl
  | d :: ds, h => by
    simp only [D.fitAll, Bool.and_eq_true] at h
    simp only [D.plnAll, Bool.and_eq_true]
    exact ⟨fit_pln h.1, fitAll_pln h.2⟩
end
mutual
theorem fit_mono {m n : Nat} (hmn : m ≤ n) : ∀ {d : D}, d.fit m = true → d.fit n = true
  | .non, _ => rfl
  | .bl _, _ => rfl
  | .int _, _ => rfl
  | .str _, h => by simp only [D.fit, Bool.and_eq_true, decide_eq_true_eq] at h ⊢; exact ⟨Nat.le_trans h.1 hmn, h.2⟩
  | .lst xs, h => by simp only [D.fit, Bool.and_eq_true, decide_eq_true_eq] at h ⊢; exact ⟨Nat.le_trans h.1 hmn, fitAll_mono hmn h.2⟩
  | .tup xs, h => by simp only [D.fit, Bool.and_eq_true, decide_eq_true_eq] at h ⊢; exact ⟨Nat.le_trans h.1 hmn, fitAll_mono hmn h.2⟩
  | .own _, h => by simp [D.fit] at h
  | .scr _, h => by simp [D.fit] at h
theorem fitAll_mono {m n : Nat} (hmn : m ≤ n) : ∀ {ds : List D}, D.fitAll m ds = true → D.fitAll n ds = true
  | [], _ => rfl
  | d :: ds, h => by
    simp only [D.fitAll, Bool.and_eq_true] at h ⊢
    exact ⟨fit_mono hmn h.1, fitAll_mono hmn h.2⟩
end
theorem fitAll_iff {m : Nat} : ∀ {ds : List D}, D.fitAll m ds = true ↔ ∀ d ∈ ds, d.fit m = true
  | [] => ⟨(fun _ d h => nomatch h), fun _ => rfl⟩
  | d :: ds => by
    simp only [D.fitAll, Bool.and_eq_true, fitAll_iff (ds := ds), List.mem_cons, forall_eq_or_imp]
theorem fit_seq {m : Nat} {xs : List D} : (D.lst xs).fit m = true ↔ xs.length ≤ m ∧ ∀ d ∈ xs, d.fit m = true := by
  simp only [D.fit, Bool.and_eq_true, decide_eq_true_eq, fitAll_iff]
theorem fit_tup {m : Nat} {xs : List D} : (D.tup xs).fit m = true ↔ xs.length ≤ m ∧ ∀ d ∈ xs, d.fit m = true := by
  simp only [D.fit, Bool.and_eq_true, decide_eq_true_eq, fitAll_iff]
def F_law_thing (n : Nat) : FSp := fun ds S k => ∃ d : Nat, ds = [.own 0, .int (d : Int)] ∧ d ≤ n ∧ Drw S 0 ∧ S.length = 1 ∧ ∀ x S', x.fit 20 = true → Drw S' 0 → S'.length = 1 → k x S'
def F_law_thingS : Nat → FSp
  | 0 => fun _ _ _ => False
  | n + 1 => F_law_thing n
theorem call_thing {n m d : Nat} {S : Sto} {k : DK} (h : Drw S m) (hd : d ≤ n) (hk : ∀ x S', x.fit 20 = true → Drw S' m → Stp m S S' → k x S') : callM (F_law_thing n) [.own m, .int (d : Int)] S k :=
  callM_intro h rfl (fun x => x.fit 20 = true) (fun S1 hdr hl K hK => ⟨d, rfl, hd, hdr, hl, hK⟩) (fun x hx => pln_pur (fit_pln hx)) fun x S' hx hd' hs => hk x S' hx hd' hs
theorem p_law_thing (n : Nat) : ∀ ds S k, F_law_thing n ds S k → b_law_thing F_law_draw F_law_of (F_law_thingS n) (bodyK k) (entry 6 ds) S := by
  rintro _ S k ⟨d, rfl, hdn, hd, hl, hk⟩
  refine call_draw hd (by decide) (by decide) fun way S1 w0 w1 hd1 st1 => ?_
  have hl1 : S1.length = 1 := st1.1.trans hl
  have leaf : ∀ {E : DEnds} {e2 : Env} , (∀ x S', x.fit 20 = true → Drw S' 0 → S'.length = 1 → E.rt x S') → sSeq (sSet 3 (dNew (nLst (aCons (dC (.int 0)) (aCons (dC (.int 1)) (aCons (dUn uNeg (dC (.int 1))) (aCons (dC (.bl true)) (aCons (dC (.bl false)) (aCons (dC .non) (aCons (dC (.str [])) (aCons (dC (.str [46, 35])) (aCons (dC (.str [63])) (aCons (dC (.str [35])) (aCons (dOp oPow (dC (.int 10)) (dC (.int 39))) (aCons (dC (.str [111])) (aCons (dC (.int 10)) (aCons (dC (.int 11)) (aCons (dUn uNeg (dC (.int 11))) (aCons (dTup (aCons (dC (.str [46])) (aCons (dC (.int 0)) (aCons (dC (.int 0)) (aNil))))) (aNil))))))))))))))))))))
    (sRet (dCallM F_law_of (aCons (dVar 0) (aCons (dOp oAdd (dVar 3) (dNew (nLst (aCons (dTup (aNil)) (aCons (dNew (nLst (aNil))) (aCons (dTup (aCons (dC (.int 0)) (aCons (dC (.int 0)) (aNil)))) (aCons (dTup (aCons (dC (.int 0)) (aCons (dC (.int 0)) (aCons (dC (.str [46])) (aNil))))) (aCons (dTup (aCons (dC (.str [35, 46])) (aCons (dC (.int 3)) (aCons (dC (.int 1)) (aNil))))) (aCons (dTup (aCons (dTup (aCons (dC (.str [46])) (aCons (dC (.int 0)) (aCons (dC (.int 0)) (aNil))))) (aNil))) (aCons (dC (.str [46, 35, 35, 46, 35, 35, 46, 35, 35, 46, 35])) (aNil))))))))))) (aNil))))) E [some (.own 0), some (.int (d : Int)), some (.int way), none, none, none] S1 := by
    intro E e2 hE
    refine ⟨⟨by decide, by decide, by decide⟩, ?_⟩
    refine ⟨l3, ?_⟩
    refine ⟨len_le (by simp), ?_⟩
    symm_saturate
    refine ⟨l0, ?_⟩
    refine ⟨l0, ?_⟩
    refine ⟨l2, ?_⟩
    refine ⟨l3, ?_⟩
    refine ⟨l3, ?_⟩
    refine ⟨l3, ?_⟩
    refine ⟨l1, ?_⟩
    refine ⟨len_le (by simp), ?_⟩
    refine ⟨len_le (by simp), ?_⟩
    have hall : D.fitAll 20 ([D.int 0, .int 1, .int (-1), .bl true, .bl false, .non, .str [], .str [46, 35], .str [63], .str [35], .int (10 ^ (39 : Int).toNat), .str [111], .int 10, .int 11, .int (-11), .tup [.str [46], .int 0, .int 0]] ++ [.tup [], .lst [], .tup [.int 0, .int 0], .tup [.int 0, .int 0, .str [46]], .tup [.str [35, 46], .int 3, .int 1], .tup [.tup [.str [46], .int 0, .int 0]], .str [46, 35, 35, 46, 35, 35, 46, 35, 35, 46, 35]]) = true := by decide +kernel
    have hm := fitAll_iff.mp hall
    refine call_of hd1 (by simp) (by simp) (fun x hx => pln_pur (fit_pln (hm x hx))) fun x S2 hx hd2 st2 => ?_
    exact hE _ _ (hm x hx) hd2 (st2.1.trans hl1)
  refine br_intro (fun _ => leaf (e2 := []) hk) fun hw => ?_
  refine eq_good (e := D.int) (b := 0) goodInt (by decide) rfl rfl ?_
  refine br_intro (fun _ => leaf (e2 := []) hk) fun h0 => ?_
  have hd0 : 0 < d := by have := of_decide_eq_false h0; omega
  have hw6 : 6 ≤ way := by have := of_decide_eq_false hw; omega
  obtain ⟨n, rfl⟩ : ∃ n', n = n' + 1 := ⟨n - 1, by omega⟩
  symm_saturate
  refine call_draw hd1 (by decide) (by decide) fun q S2 q0 q1 hd2 st2 => ?_
  have hl2 : S2.length = 1 := st2.1.trans hl1
  obtain ⟨q, rfl⟩ := Int.eq_ofNat_of_zero_le q0
  refine ⟨⟨by omega, by omega⟩, ?_⟩
  rw [rng_map]
  refine lc_inv_map (fun (i : Nat) => D.int (i : Int)) (fun S => Drw S 0 ∧ S.length = 1) (fun y => y.fit 20 = true) (List.range q) [] S2 (by rw [List.length_range]; exact len_le (by simp; omega)) ⟨hd2, hl2⟩ (fun y hy => nomatch hy) (fun i hi S3 ⟨hd3, hl3⟩ K1 K0 hK => ?_) fun ys S4 ⟨hd4, hl4⟩ hly hys => ?_
  · symm_saturate
    have e : (d : Int) - 1 = ((d - 1 : Nat) : Int) := by omega
    rw [e]
    exact call_thing (n := n) hd3 (by omega) fun x S5 hx hd5 st5 => hK _ _ hx ⟨hd5, st5.1.trans hl3⟩
  · symm_saturate
    refine ⟨l3, ?_⟩
    have hq : ys.length ≤ 20 := by simp at hly; omega
    obtain ⟨x, hx, ha⟩ := at_mem (xs := [D.lst ys, .tup ys, .tup ys]) (r := way - 6) (by omega) (by simp; omega)
    refine onO_intro ha ?_
    refine hk _ _ ?_ hd4 hl4
    simp only [List.mem_cons, List.not_mem_nil, or_false] at hx
    rcases hx with rfl | rfl | rfl
    · exact fit_seq.mpr ⟨hq, hys⟩
    · exact fit_tup.mpr ⟨hq, hys⟩
    · exact fit_tup.mpr ⟨hq, hys⟩
end Dat
set_option Elab.async false
set_option linter.all false
set_option maxRecDepth 100000
set_option maxHeartbeats 4000000
set_option exponentiation.threshold 2000
/-! PlP: things otherwise. -/
namespace Dat
local macro_rules | `(tactic| symm_saturate) => `(tactic| with_reducible conv => whnf)
def goodQ (m : Nat) (d : D) : Prop := ∃ xs : List D, (d = .lst xs ∨ d = .tup xs) ∧ xs.length ≤ m ∧ ∀ x ∈ xs, x.fit m = true
theorem goodQ_pur {m : Nat} {d : D} (h : goodQ m d) : d.pur = true := by
  obtain ⟨xs, e, h1, h2⟩ := h
  have : D.purAll xs = true := plnAll_pur (fitAll_pln (fitAll_iff.mpr h2))
  rcases e with rfl | rfl <;> (simp only [D.pur]; exact this)
theorem callM_introT {F : FSp} {n : Nat} {rest : List D} {S : Sto} {k : DK} (h : Drw S n) (hp : D.purAll rest = true) (P : D → Prop)
    (hF : ∀ S1, Drw S1 0 → S1.length = 1 → ∀ K : DK, (∀ d S' d', thawM S' d = some d' → P d' → Drw S' 0 → K d S') → F (.own 0 :: rest) S1 K) (hk : ∀ d S', P d → Drw S' n → Stp n S S' → k d S') : callM F (.own n :: rest) S k := by
  obtain ⟨i, j, hS, ho⟩ := h
  refine ⟨hp, onO_intro hS ⟨rfl, ?_⟩⟩
  refine hF _ ⟨i, j, rfl, ho⟩ rfl _ fun d S' d' ht pd hd => ?_
  obtain ⟨i', j', h', ho'⟩ := hd
  refine onO_intro h' ⟨rfl, onO_intro ht (hk d' _ pd ⟨i', j', ?_, ho'⟩ ⟨by simp, fun m hm => ?_⟩)⟩
  · exact List.getElem?_set_self (List.getElem?_eq_some_iff.mp hS).1
  · exact List.getElem?_set_ne (Ne.symm hm)
def F_law_otherwise (n : Nat) : FSp := fun ds S k => ∃ (th : D) (d m : Nat) (xs : List D), ds = [.own 0, th, .int (d : Int)] ∧ d ≤ n ∧ (th = .lst xs ∨ th = .tup xs) ∧ xs.length ≤ m ∧ (∀ x ∈ xs, x.fit m = true) ∧ 20 ≤ m ∧ m ≤ 500 ∧ Drw S 0 ∧ S.length = 1 ∧ ∀ y S' y', thawM S' y = some y' → goodQ (m + 1) y' → Drw S' 0 → k y S'
def F_law_otherwiseS : Nat → FSp
  | 0 => fun _ _ _ => False
  | n + 1 => F_law_otherwise n
theorem call_otherwise {n q d m : Nat} {th : D} {S : Sto} {k : DK} (h : Drw S q) (hd : d ≤ n) (hq : goodQ m th) (h1 : 20 ≤ m) (h2 : m ≤ 500) (hk : ∀ x S', goodQ (m + 1) x → Drw S' q → Stp q S S' → k x S') : callM (F_law_otherwise n) [.own q, th, .int (d : Int)] S k := by
  have hp := goodQ_pur hq
  obtain ⟨xs, e, h3, h4⟩ := hq
  exact callM_introT h (purC hp rfl) (goodQ (m + 1)) (fun S1 hdr hl K hK => ⟨th, d, m, xs, rfl, hd, e, h3, h4, h1, h2, hdr, hl, hK⟩) hk
theorem cpy_seq {a b : Option D} {r : Env} {th : D} {xs : List D} {S : Sto} {k : List D → Sto → Prop} (h : th = .lst xs ∨ th = .tup xs) (hk : k xs S) : nCpy (dVar 1) (a :: some th :: r) S k := by
  rcases h with rfl | rfl <;> exact hk
theorem kind_seq {th : D} {xs : List D} {S : Sto} (h : th = .lst xs ∨ th = .tup xs) : kindly (res S th) = true := by rcases h with rfl | rfl <;> rfl
theorem eq_nil {S : Sto} {q : Nat} {xs : List D} {k : DK} (h : S[q]? = some (.lst xs)) (hp : D.plnAll xs = true) (hk : k (.bl xs.isEmpty) S) : oEq (.own q) (.lst []) S k := by
  unfold oEq
  rw [res_at h]
  refine ⟨⟨by simpa [D.pln] using hp, rfl, .inr (by simp [D.dep, D.depAll])⟩, ?_⟩
  have : (D.lst xs).eqv (res S (.lst [])) = xs.isEmpty := by cases xs <;> rfl
  rw [this]; exact hk
theorem at_own {S : Sto} {q : Nat} {xs : List D} {i : Int} {x : D} {k : DK} (h : S[q]? = some (.lst xs)) (ha : atI xs i = some x) (hk : k x S) : oIdx (.own q) (.int i) S k := by
  unfold oIdx
  rw [res_at h]
  exact onO_intro ha hk
theorem tup_own {S : Sto} {q : Nat} {xs : List D} {k : DK} (h : S[q]? = some (.lst xs)) (hk : k (.tup xs) S) : cTup [.own q] S k := by
  unfold cTup
  dsimp only
  rw [res_at h]
  exact hk
theorem ix_nat {n s : Nat} (h : s < n) : ixN n (s : Int) = some s := by
  unfold ixN
  have h2 : (s : Int) < n := by omega
  rw [if_pos (by omega), if_pos h2]; rfl
@[reducible] def b_ow_way (F_law_thing F_law_draw F_law_of : FSp) : DTS :=
    (sSeq (sSet 5 (dCallM F_law_draw (aCons (dVar 0) (aCons (dC (.int 8)) (aNil)))))
    (sSeq (sIf (tBl (dOp oEq (dVar 5) (dC (.int 0)))) (sDrop (dPopI (dVar 3) (dVar 4))) (sIf (tBl (dOp oEq (dVar 5) (dC (.int 1)))) (sDrop (dIns (dVar 3) (dVar 4) (dOp oIdx (dVar 3) (dVar 4)))) (sIf (tBl (dOp oEq (dVar 5) (dC (.int 2)))) (sSlSet (dVar 3) (dVar 4) (dOp oAdd (dVar 4) (dC (.int 2))) (dRev (dSl (dVar 3) (pSo (dVar 4)) (pSo (dOp oAdd (dVar 4) (dC (.int 2))))))) (sIf (tBl (dOp oEq (dVar 5) (dC (.int 3)))) (sStore (dVar 3) (dVar 4) (dCallM F_law_thing (aCons (dVar 0) (aCons (dC (.int 2)) (aNil))))) (sIf (tAnd (tBl (dOp oEq (dVar 5) (dC (.int 4)))) (tTru (dIsa (dOp oIdx (dVar 3) (dVar 4)) [.str]))) (sSeq (sSet 6 (dOp oIdx (dVar 3) (dVar 4)))
    (sStore (dVar 3) (dVar 4) (dCallM F_law_of (aCons (dVar 0) (aCons (dNew (nLst (aCons (dOp oAdd (dVar 6) (dC (.str [97]))) (aCons (dSl (dVar 6) (pSo (dC (.int 1))) (pNo)) (aCons (dUpper (dVar 6)) (aCons (dC (.str [])) (aCons (dC .non) (aCons (dC (.str [46, 35])) (aCons (dC (.str [46])) (aNil)))))))))) (aNil)))))) (sIf (tAnd (tBl (dOp oLt (dVar 5) (dC (.int 6)))) (tTru (dIsa (dOp oIdx (dVar 3) (dVar 4)) [.int]))) (sSeq (sSet 7 (dOp oIdx (dVar 3) (dVar 4)))
    (sStore (dVar 3) (dVar 4) (dCallM F_law_of (aCons (dVar 0) (aCons (dNew (nLst (aCons (dOp oAddN (dVar 7) (dC (.int 1))) (aCons (dOp oSubN (dVar 7) (dC (.int 1))) (aCons (dOp oSubN (dC (.int 0)) (dVar 7)) (aCons (dC (.bl true)) (aCons (dC (.bl false)) (aCons (dC .non) (aCons (dCB cMin2 (aCons (dOp oMulN (dC (.int 1000)) (dVar 7)) (aCons (dOp oPow (dC (.int 10)) (dC (.int 39))) (aNil)))) (aNil)))))))))) (aNil)))))) (sIf (tAnd (tBl (dOp oEq (dVar 5) (dC (.int 6)))) (tTru (dIsa (dOp oIdx (dVar 3) (dVar 4)) [.tuple]))) (sStore (dVar 3) (dVar 4) (dNew (nCpy (dOp oIdx (dVar 3) (dVar 4))))) (sRet (dIf (tTru (dIsa (dVar 1) [.list])) (dCB cTup (aCons (dVar 3) aNil)) (dVar 3))))))))))
    (sRet (dIf (tTru (dIsa (dVar 1) [.list])) (dVar 3) (dCB cTup (aCons (dVar 3) aNil))))))
@[reducible] def b_ow_int (F_law_of : FSp) : DTS :=
    (sIf (tAnd (tBl (dOp oLt (dVar 5) (dC (.int 6)))) (tTru (dIsa (dOp oIdx (dVar 3) (dVar 4)) [.int]))) (sSeq (sSet 7 (dOp oIdx (dVar 3) (dVar 4)))
    (sStore (dVar 3) (dVar 4) (dCallM F_law_of (aCons (dVar 0) (aCons (dNew (nLst (aCons (dOp oAddN (dVar 7) (dC (.int 1))) (aCons (dOp oSubN (dVar 7) (dC (.int 1))) (aCons (dOp oSubN (dC (.int 0)) (dVar 7)) (aCons (dC (.bl true)) (aCons (dC (.bl false)) (aCons (dC .non) (aCons (dCB cMin2 (aCons (dOp oMulN (dC (.int 1000)) (dVar 7)) (aCons (dOp oPow (dC (.int 10)) (dC (.int 39))) (aNil)))) (aNil)))))))))) (aNil)))))) (sIf (tAnd (tBl (dOp oEq (dVar 5) (dC (.int 6)))) (tTru (dIsa (dOp oIdx (dVar 3) (dVar 4)) [.tuple]))) (sStore (dVar 3) (dVar 4) (dNew (nCpy (dOp oIdx (dVar 3) (dVar 4))))) (sRet (dIf (tTru (dIsa (dVar 1) [.list])) (dCB cTup (aCons (dVar 3) aNil)) (dVar 3)))))
@[reducible] def b_ow_tup : DTS :=
    (sIf (tAnd (tBl (dOp oEq (dVar 5) (dC (.int 6)))) (tTru (dIsa (dOp oIdx (dVar 3) (dVar 4)) [.tuple]))) (sStore (dVar 3) (dVar 4) (dNew (nCpy (dOp oIdx (dVar 3) (dVar 4))))) (sRet (dIf (tTru (dIsa (dVar 1) [.list])) (dCB cTup (aCons (dVar 3) aNil)) (dVar 3))))
theorem p_law_otherwise (n : Nat) : ∀ ds S k, F_law_otherwise n ds S k → b_law_otherwise (F_law_thing 3) F_law_draw (F_law_otherwiseS n) F_law_of (bodyK k) (entry 8 ds) S := by
  rintro _ S k ⟨th, d, m, xs, rfl, hdn, hth, hxl, hxs, hm20, hm500, hd, hl, hk⟩
  have fin1 : ∀ S' ys, Drw S' 0 → S'[1]? = some (.lst ys) → ys.length ≤ m + 1 → (∀ y ∈ ys, y.fit (m + 1) = true) → k (.own 1) S' := fun S' ys h1 h2 h3 h4 => by
    have hp : D.purAll ys = true := plnAll_pur (fitAll_pln (fitAll_iff.mpr h4))
    exact hk _ _ (.lst ys) (by simp [thawM, thaw, h2, hp]) ⟨ys, .inl rfl, h3, h4⟩ h1
  have fin2 : ∀ S' ys, Drw S' 0 → ys.length ≤ m + 1 → (∀ y ∈ ys, y.fit (m + 1) = true) → k (.tup ys) S' := fun S' ys h1 h3 h4 => by
    have hg : goodQ (m + 1) (.tup ys) := ⟨ys, .inr rfl, h3, h4⟩
    exact hk _ _ (.tup ys) (thawM_pur (goodQ_pur hg)) hg h1
  have up : ∀ x : D, x.fit m = true → x.fit (m + 1) = true := fun x h => fit_mono (Nat.le_succ m) h
  have up20 : ∀ x : D, x.fit 20 = true → x.fit (m + 1) = true := fun x h => fit_mono (by omega) h
  obtain ⟨i, j, rfl, hij⟩ := hd.one hl
  delta b_law_otherwise sSeq sOwn
  refine cpy_seq (b := none) hth ?_
  have hd1 : Drw [MO.lst [.int i, .int j], MO.lst xs] 0 := ⟨i, j, rfl, hij⟩
  have hb1 : ([MO.lst [.int i, .int j], MO.lst xs] : Sto)[1]? = some (.lst xs) := rfl
  have hpl : D.plnAll xs = true := fitAll_pln (fitAll_iff.mpr hxs)
  refine ⟨l0, ?_⟩
  refine (show oEq (.own 1) (.lst []) [MO.lst [.int i, .int j], MO.lst xs] _ from ?_)
  refine eq_nil hb1 hpl ?_
  refine br_intro (fun he => ?_) fun he => ?_
  · symm_saturate
    refine call_thing (n := 3) (d := 1) hd1 (by decide) fun x S2 hx hd2 _ => ?_
    refine ⟨l1, ?_⟩
    exact fin2 _ [x] hd2 (by simp) fun y hy => by simp at hy; subst hy; exact up20 _ hx
  have hx0 : 0 < xs.length := List.length_pos_iff.mpr fun z => by rw [z] at he; simp at he
  have fin : ∀ {E : DEnds} {a0 a2 : Option D} {r : Env} {S' : Sto} {ys : List D}, E.rt = k → Drw S' 0 → S'[1]? = some (.lst ys) → ys.length ≤ m + 1 → (∀ y ∈ ys, y.fit (m + 1) = true) → sRet (dIf (tTru (dIsa (dVar 1) [.list])) (dVar 3) (dCB cTup (aCons (dVar 3) aNil))) E (a0 :: some th :: a2 :: some (.own 1) :: r) S' := by
    intro E a0 a2 r S' ys hE h1 h2 h3 h4
    rcases hth with e | e
    · subst e
      refine ⟨rfl, ?_⟩
      show E.rt (.own 1) S'
      rw [hE]; exact fin1 _ _ h1 h2 h3 h4
    · subst e
      refine ⟨rfl, ?_⟩
      refine tup_own (q := 1) h2 ?_
      show E.rt (.tup ys) S'
      rw [hE]; exact fin2 _ _ h1 h3 h4
  have fin' : ∀ {E : DEnds} {a0 a2 : Option D} {r : Env} {S' : Sto} {ys : List D}, E.rt = k → Drw S' 0 → S'[1]? = some (.lst ys) → ys.length ≤ m + 1 → (∀ y ∈ ys, y.fit (m + 1) = true) → sRet (dIf (tTru (dIsa (dVar 1) [.list])) (dCB cTup (aCons (dVar 3) aNil)) (dVar 3)) E (a0 :: some th :: a2 :: some (.own 1) :: r) S' := by
    intro E a0 a2 r S' ys hE h1 h2 h3 h4
    rcases hth with e | e
    · subst e
      refine ⟨rfl, ?_⟩
      refine tup_own (q := 1) h2 ?_
      show E.rt (.tup ys) S'
      rw [hE]; exact fin2 _ _ h1 h3 h4
    · subst e
      refine ⟨rfl, ?_⟩
      show E.rt (.own 1) S'
      rw [hE]; exact fin1 _ _ h1 h2 h3 h4
  clear fin1 fin2
  have hgetE : ∀ {S : Sto} {ys : List D} , S[1]? = some (.lst xs) → (S.set 1 (.lst ys))[1]? = some (.lst ys) := fun h => List.getElem?_set_self (List.getElem?_eq_some_iff.mp h).1
  have hres : ∀ {S : Sto} {x : D}, x.fit m = true → res S x = x := fun {S x} h => by cases x <;> first | rfl | (simp [D.fit] at h)
  have hkin : ∀ {x : D}, x.fit m = true → kindly x = true := fun {x} h => by cases x <;> first | rfl | (simp [D.fit] at h)
  have tail : ∀ {E : DEnds} {s : Nat} {S : Sto}, E.rt = k → s < xs.length → Drw S 0 → S[1]? = some (.lst xs) → b_ow_way (F_law_thing 3) F_law_draw F_law_of E [some (.own 0), some th, some (.int (d : Int)), some (.own 1), some (.int (s : Int)), none, none, none] S := by
    intro E s S hE hs hd2 hb2
    have hat : atI xs (s : Int) = some xs[s] := atI_nat _ _ _ (List.getElem?_eq_getElem hs)
    have hfs : xs[s].fit m = true := hxs _ (List.getElem_mem hs)
    have hxl' : xs.length ≤ line := len_le (by omega)
    have done : ∀ {E : DEnds} {a0 a2 : Option D} {r : Env} {S' : Sto} {ys : List D}, E.rt = k → Drw S' 0 → S'[1]? = some (.lst xs) → ys.length ≤ m + 1 → (∀ y ∈ ys, y.fit (m + 1) = true) → sRet (dIf (tTru (dIsa (dVar 1) [.list])) (dVar 3) (dCB cTup (aCons (dVar 3) aNil))) E (a0 :: some th :: a2 :: some (.own 1) :: r) (S'.set 1 (.lst ys)) :=
      fun h1 h2 h3 h4 h5 => fin h1 (h2.set (by decide)) (hgetE h3) h4 h5
    have dset : ∀ {y y' : D}, y.fit (m + 1) = true → y' ∈ xs.set s y → y'.fit (m + 1) = true := fun {y y'} h hy' => by
      rcases List.mem_or_eq_of_mem_set hy' with h' | rfl
      · exact up _ (hxs _ h')
      · exact h
    refine call_draw hd2 (by decide) (by decide) fun way S3 w0 w1 hd3 st3 => ?_
    have hb3 : S3[1]? = some (.lst xs) := (st3.2 1 (by decide)).trans hb2
    symm_saturate
    refine eq_good (e := D.int) (b := 0) goodInt (by decide) rfl rfl ?_
    refine br_intro (fun _ => ?_) fun h0 => ?_
    · symm_saturate
      rw [hb3]
      symm_saturate
      rw [hb3]
      refine ⟨hxl', onO_intro (ix_nat hs) (onO_intro (List.getElem?_eq_getElem hs) ?_)⟩
      exact done hE hd3 hb3 (by rw [List.length_eraseIdx]; split <;> omega) fun y hy => up _ (hxs _ (List.mem_of_mem_eraseIdx hy))
    symm_saturate
    refine eq_good (e := D.int) (b := 1) goodInt (by decide) rfl rfl ?_
    refine br_intro (fun _ => ?_) fun h1 => ?_
    · symm_saturate
      rw [hb3]
      symm_saturate
      rw [res_at hb3]
      refine onO_intro hat ?_
      symm_saturate
      rw [hb3]
      refine ⟨⟨len_le (n := xs.length + 1) (by omega), by omega, by omega⟩, ?_⟩
      refine done hE hd3 hb3 ?_ fun y hy => ?_
      · simp only [List.length_append, List.length_take, List.length_drop, List.length_cons, List.length_nil]; omega
      · simp only [List.mem_append, List.mem_singleton] at hy
        rcases hy with (hy | rfl) | hy
        · exact up _ (hxs _ (List.mem_of_mem_take hy))
        · exact up _ hfs
        · exact up _ (hxs _ (List.mem_of_mem_drop hy))
    symm_saturate
    refine eq_good (e := D.int) (b := 2) goodInt (by decide) rfl rfl ?_
    refine br_intro (fun _ => ?_) fun h2 => ?_
    · symm_saturate
      rw [res_at hb3]
      symm_saturate
      rw [hb3]
      have hcl : (cut xs (some (s : Int)) (some ((s : Int) + 2))).length ≤ 2 ∧ (cut xs (some (s : Int)) (some ((s : Int) + 2))).length ≤ xs.length - s := by
        have e1 : sIx xs.length 0 (some (s : Int)) = s := by
          unfold sIx
          dsimp only
          rw [if_neg (by omega)]
          omega
        have e2 : sIx xs.length xs.length (some ((s : Int) + 2)) = min (s + 2) xs.length := by
          unfold sIx
          dsimp only
          rw [if_neg (by omega)]
          omega
        unfold cut
        rw [e1, e2, List.length_take, List.length_drop]
        omega
      have hrl := List.length_reverse (as := cut xs (some (s : Int)) (some ((s : Int) + 2)))
      refine ⟨⟨by omega, by omega, by omega, ?_⟩, ?_⟩
      · rw [hrl]; exact len_le (by omega)
      refine done hE hd3 hb3 ?_ fun y hy => ?_
      · simp only [List.length_append, List.length_take, List.length_drop]; rw [hrl]; omega
      · simp only [List.mem_append] at hy
        rcases hy with (hy | hy) | hy
        · exact up _ (hxs _ (List.mem_of_mem_take hy))
        · exact up _ (hxs _ (List.mem_of_mem_drop (List.mem_of_mem_take (List.mem_reverse.mp hy))))
        · exact up _ (hxs _ (List.mem_of_mem_drop hy))
    symm_saturate
    refine eq_good (e := D.int) (b := 3) goodInt (by decide) rfl rfl ?_
    refine br_intro (fun _ => ?_) fun h3 => ?_
    · symm_saturate
      refine call_thing (n := 3) (d := 2) hd3 (by decide) fun x S4 hx hd4 st4 => ?_
      have hb4 : S4[1]? = some (.lst xs) := (st4.2 1 (by decide)).trans hb3
      symm_saturate
      rw [hb4]
      refine onO_intro (ix_nat hs) ?_
      exact done hE hd4 hb4 (by rw [List.length_set]; omega) fun y hy => dset (up20 _ hx) hy
    symm_saturate
    refine eq_good (e := D.int) (b := 4) goodInt (by decide) rfl rfl ?_
    symm_saturate
    have tup6 : b_ow_tup { E with nx := sRet (dIf (tTru (dIsa (dVar 1) [.list])) (dVar 3) (dCB cTup (aCons (dVar 3) aNil))) E } [some (.own 0), some th, some (.int (d : Int)), some (.own 1), some (.int (s : Int)), some (.int way), none, none] S3 := by
      symm_saturate
      refine eq_good (e := D.int) (b := 6) goodInt (by decide) rfl rfl ?_
      symm_saturate
      refine br_intro (fun _ => ?_) fun _ => fin' hE hd3 hb3 (by omega) fun y hy => up _ (hxs _ hy)
      symm_saturate
      rw [res_at hb3]
      refine onO_intro hat ?_
      symm_saturate
      refine ⟨by rw [hres hfs]; exact hkin hfs, ?_⟩
      rw [hres hfs]
      symm_saturate
      refine br_intro (fun hc => ?_) fun _ => fin' hE hd3 hb3 (by omega) fun y hy => up _ (hxs _ hy)
      obtain ⟨ys, hys⟩ : ∃ ys, xs[s] = .tup ys := by
        revert hc
        cases xs[s] with
        | tup ys => exact fun _ => ⟨ys, rfl⟩
        | _ => intro h; exact absurd (show false = true from h) (by decide)
      rw [hys] at hat hfs
      symm_saturate
      rw [res_at hb3]
      refine onO_intro hat ?_
      symm_saturate
      rw [hb3]
      refine onO_intro (ix_nat hs) ?_
      refine done hE hd3 hb3 (by rw [List.length_set]; omega) fun y hy => dset (y := .lst ys) (up _ (fit_seq.mpr (fit_tup.mp hfs))) hy
    have pick : ∀ {S4 : Sto} {cs : List D} {K : D → Sto → Prop}, Drw S4 0 → S4[1]? = some (.lst xs) → cs ≠ [] → cs.length ≤ 1000 → (∀ c ∈ cs, c.fit (m + 1) = true) → (∀ c S5, c.fit (m + 1) = true → Drw S5 0 → S5[1]? = some (.lst xs) → K c S5) → callM F_law_of [.own 0, .lst cs] S4 K := by
      intro S4 cs K h1 h2 h3 h4 h5 h6
      refine call_of h1 h3 h4 (fun x hx => pln_pur (fit_pln (h5 x hx))) fun x S5 hx h7 h8 => h6 _ _ (h5 x hx) h7 ((h8.2 1 (by decide)).trans h2)
    have int5 : b_ow_int F_law_of { E with nx := sRet (dIf (tTru (dIsa (dVar 1) [.list])) (dVar 3) (dCB cTup (aCons (dVar 3) aNil))) E } [some (.own 0), some th, some (.int (d : Int)), some (.own 1), some (.int (s : Int)), some (.int way), none, none] S3 := by
      symm_saturate
      refine br_intro (fun _ => ?_) fun _ => tup6
      symm_saturate
      rw [res_at hb3]
      refine onO_intro hat ?_
      symm_saturate
      refine ⟨by rw [hres hfs]; exact hkin hfs, ?_⟩
      rw [hres hfs]
      symm_saturate
      refine br_intro (fun hc => ?_) fun _ => tup6
      obtain ⟨v, hv⟩ | ⟨v, hv⟩ : (∃ v, xs[s] = .int v) ∨ ∃ v, xs[s] = .bl v := by
        revert hc
        cases xs[s] with
        | int v => exact fun _ => .inl ⟨v, rfl⟩
        | bl v => exact fun _ => .inr ⟨v, rfl⟩
        | _ => intro h; exact absurd (show false = true from h) (by decide)
      · rw [hv] at hat
        symm_saturate
        rw [res_at hb3]
        refine onO_intro hat ?_
        symm_saturate
        refine ⟨.inl ⟨by decide, by decide⟩, ?_⟩
        symm_saturate
        refine ⟨⟨by decide, by decide, by decide⟩, ?_⟩
        symm_saturate
        refine ⟨len_le (by simp), ?_⟩
        symm_saturate
        refine pick hd3 hb3 (by simp) (by simp) (fun c hc => ?_) fun c S5 hc hd5 hb5 => ?_
        · simp only [List.mem_cons, List.not_mem_nil, or_false] at hc
          rcases hc with rfl | rfl | rfl | rfl | rfl | rfl | rfl <;> rfl
        symm_saturate
        rw [hb5]
        refine onO_intro (ix_nat hs) ?_
        exact done hE hd5 hb5 (by rw [List.length_set]; omega) fun y hy => dset hc hy
      · rw [hv] at hat
        symm_saturate
        rw [res_at hb3]
        refine onO_intro hat ?_
        symm_saturate
        refine ⟨⟨by decide, by decide, by decide⟩, ?_⟩
        symm_saturate
        refine ⟨len_le (by simp), ?_⟩
        symm_saturate
        refine pick hd3 hb3 (by simp) (by simp) (fun c hc => ?_) fun c S5 hc hd5 hb5 => ?_
        · simp only [List.mem_cons, List.not_mem_nil, or_false] at hc
          rcases hc with rfl | rfl | rfl | rfl | rfl | rfl | rfl <;> rfl
        symm_saturate
        rw [hb5]
        refine onO_intro (ix_nat hs) ?_
        exact done hE hd5 hb5 (by rw [List.length_set]; omega) fun y hy => dset hc hy
    refine br_intro (fun _ => ?_) fun _ => int5
    symm_saturate
    rw [res_at hb3]
    refine onO_intro hat ?_
    symm_saturate
    refine ⟨by rw [hres hfs]; exact hkin hfs, ?_⟩
    rw [hres hfs]
    symm_saturate
    refine br_intro (fun hc => ?_) fun _ => int5
    obtain ⟨v, hv⟩ : ∃ v, xs[s] = .str v := by
      revert hc
      cases xs[s] with
      | str v => exact fun _ => ⟨v, rfl⟩
      | _ => intro h; exact absurd (show false = true from h) (by decide)
    rw [hv] at hat hfs
    symm_saturate
    rw [res_at hb3]
    refine onO_intro hat ?_
    symm_saturate
    have hv1 : v.length ≤ m ∧ ∀ c ∈ v, c < 128 := by
      simpa [D.fit] using hfs
    have hvl : v.length ≤ 1000 := by omega
    refine ⟨len_le (by simp; omega), ?_⟩
    symm_saturate
    refine ⟨⟨hvl, by simpa using hv1.2⟩, ?_⟩
    symm_saturate
    refine ⟨len_le (by simp), ?_⟩
    symm_saturate
    refine pick hd3 hb3 (by simp) (by simp) (fun c hc => ?_) fun c S5 hc hd5 hb5 => ?_
    · simp only [List.mem_cons, List.not_mem_nil, or_false] at hc
      have fs : ∀ (t : List Nat), t.length ≤ m + 1 → (∀ c ∈ t, c < 128) → (D.str t).fit (m + 1) = true := fun t h1 h2 => by
        simp only [D.fit, Bool.and_eq_true, decide_eq_true_eq, List.all_eq_true]
        exact ⟨h1, h2⟩
      rcases hc with rfl | rfl | rfl | rfl | rfl | rfl | rfl
      · refine fs _ (by simp; omega) fun c hc => ?_
        rcases List.mem_append.mp hc with h | h
        · exact hv1.2 _ h
        · simp at h; omega
      · refine fs _ ?_ fun c hc => hv1.2 _ (List.mem_of_mem_drop (List.mem_of_mem_take hc))
        unfold cut
        rw [List.length_take, List.length_drop]; omega
      · refine fs _ (by rw [List.length_map]; omega) fun c hc => ?_
        obtain ⟨b, hb, rfl⟩ := List.mem_map.mp hc
        have := hv1.2 _ hb
        unfold upC
        split <;> omega
      · exact fs _ (by simp) (by simp)
      · rfl
      · exact fs _ (by simp; omega) (by simp)
      · exact fs _ (by simp) (by simp)
    symm_saturate
    rw [hb5]
    refine onO_intro (ix_nat hs) ?_
    exact done hE hd5 hb5 (by rw [List.length_set]; omega) fun y hy => dset hc hy
  refine (show callM F_law_draw [.own 0, .int ((xs.length : Nat) : Int)] [MO.lst [.int i, .int j], MO.lst xs] _ from ?_)
  refine call_draw hd1 (by omega) (by omega) fun spot S2 s0 s1 hd2 st2 => ?_
  obtain ⟨s, rfl⟩ := Int.eq_ofNat_of_zero_le s0
  have hs : s < xs.length := by omega
  have hb2 : S2[1]? = some (.lst xs) := (st2.2 1 (by decide)).trans hb1
  have hat : atI xs (s : Int) = some xs[s] := atI_nat _ _ _ (List.getElem?_eq_getElem hs)
  have hfs : xs[s].fit m = true := hxs _ (List.getElem_mem hs)
  have henv : setE (setE (entry 8 [D.own 0, th, D.int (d : Int)]) 3 (D.own [MO.lst [D.int i, D.int j]].length)) 4 (D.int (s : Int)) = [some (.own 0), some th, some (.int (d : Int)), some (.own 1), some (.int (s : Int)), none, none, none] := rfl
  rw [henv]
  symm_saturate
  rw [res_at hb2]
  refine onO_intro hat ?_
  symm_saturate
  refine ⟨by rw [hres hfs]; exact hkin hfs, ?_⟩
  rw [hres hfs]
  symm_saturate
  refine br_intro (fun hc => ?_) fun _ => tail rfl hs hd2 hb2
  symm_saturate
  refine br_intro (fun hd0 => ?_) fun _ => tail rfl hs hd2 hb2
  symm_saturate
  refine call_draw hd2 (by decide) (by decide) fun z S3 _ _ hd3 st3 => ?_
  have hb3 : S3[1]? = some (.lst xs) := (st3.2 1 (by decide)).trans hb2
  symm_saturate
  refine br_intro (fun _ => ?_) fun _ => tail rfl hs hd3 hb3
  symm_saturate
  rw [res_at hb3]
  refine onO_intro hat ?_
  have hd0' : 0 < d := by have := of_decide_eq_true hd0; omega
  obtain ⟨n', rfl⟩ : ∃ n', n = n' + 1 := ⟨n - 1, by omega⟩
  symm_saturate
  have e1 : (d : Int) - 1 = ((d - 1 : Nat) : Int) := by omega
  rw [e1]
  have hq : goodQ m xs[s] := by
    revert hfs hc
    cases xs[s] with
    | lst ys => exact fun h _ => ⟨ys, .inl rfl, fit_seq.mp h⟩
    | tup ys => exact fun h _ => ⟨ys, .inr rfl, fit_tup.mp h⟩
    | _ => intro _ h; exact absurd (show false = true from h) (by decide)
  refine call_otherwise (n := n') (m := m) hd3 (by omega) hq hm20 hm500 fun y S4 hy hd4 st4 => ?_
  have hb4 : S4[1]? = some (.lst xs) := (st4.2 1 (by decide)).trans hb3
  symm_saturate
  rw [hb4]
  refine onO_intro (ix_nat hs) ?_
  have hyf : y.fit (m + 1) = true := by
    obtain ⟨ys, e | e, h1, h2⟩ := hy
    · subst e; exact fit_seq.mpr ⟨h1, h2⟩
    · subst e; exact fit_tup.mpr ⟨h1, h2⟩
  refine fin rfl (hd4.set (by decide)) (hgetE hb4) (by rw [List.length_set]; omega) fun y' hy' => ?_
  rcases List.mem_or_eq_of_mem_set hy' with h | rfl
  · exact up _ (hxs _ h)
  · exact hyf
end Dat
set_option Elab.async false
set_option linter.all false
set_option maxRecDepth 100000
set_option maxHeartbeats 2000000
set_option exponentiation.threshold 2000
/-! PlQ: the law's own is_cover. -/
namespace Dat
local macro_rules | `(tactic| symm_saturate) => `(tactic| with_reducible conv => whnf)
def F_law_truly : FSp := fun ds S k => ∃ a b : Bool, ds = [.bl a, .bl b] ∧ k (.bl (decide (a = b))) S
theorem p_law_truly : ∀ ds S k, F_law_truly ds S k → b_law_truly (bodyK k) (entry 2 ds) S := by
  rintro _ S k ⟨a, b, rfl, hk⟩
  refine ⟨rfl, ?_⟩
  refine eq_good (e := D.bl) (n := 0) (a := a) (b := b) ⟨fun a b => by cases a <;> cases b <;> rfl, fun _ => rfl, fun _ => rfl, fun _ => Nat.le_refl _⟩ (by decide) rfl rfl ?_
  exact hk
theorem call_truly {a b : Bool} {S : Sto} {k : DK} (hk : k (.bl (decide (a = b))) S) : callP F_law_truly [.bl a, .bl b] S k :=
  callP_intro rfl (d := .bl _) rfl hk fun K hK => ⟨a, b, rfl, hK⟩
def F_law_is_whole : FSp := F_is_between
theorem p_law_is_whole : ∀ ds S k, F_law_is_whole ds S k → b_law_is_whole (bodyK k) (entry 3 ds) S := p_is_between
theorem call_law_is_whole {d : D} {lo hi : Int} (h : d.pln = true) {S : Sto} {k : DK} (hk : k (.bl (btwD lo hi d)) S) : callP F_law_is_whole [d, .int lo, .int hi] S k := call_between h hk
def F_law_all_covered : FSp := F_covers
theorem p_law_all_covered : ∀ ds S k, F_law_all_covered ds S k → b_law_all_covered F_law_beats F_law_whole (bodyK k) (entry 7 ds) S := by
  rintro _ S k ⟨st, cs, x, rfl, hx, hs, hc, hk⟩
  have hwl := whole_le hs
  refine lc_map encS (fun s => .int ((per s : Nat) : Int)) st (len_le (Nat.le_trans hs.2 (by decide))) (fun s hm K1 K0 h1 => call_law_beats (hs.1 s hm) h1) ?_
  refine ⟨l1, call_law_whole hs ?_⟩
  refine ⟨⟨by omega, by omega⟩, ?_⟩
  rw [rng_map]
  refine forT_ind (fun (i : Nat) => D.int (i : Int)) (fun rest env s => s = S ∧ (∃ (c d e f : Option D), env = [some (encSt st), some x, some (.lst (st.map fun s => .int ((per s : Nat) : Int))), c, d, e, f]) ∧ (rest.all fun b => cs.any (hit st b)) = coversM st cs) ?_ ?_ (List.range (whole st)) _ S ⟨rfl, ⟨_, _, _, _, rfl⟩, rfl⟩
  · rintro _ _ ⟨rfl, ⟨c, d, e, f, rfl⟩, h⟩
    show k (.bl true) _
    have h' : true = coversM st cs := h
    rw [h']; exact hk
  · rintro b rest _ _ ⟨rfl, ⟨c, d, e, f, rfl⟩, h⟩ N hN
    refine onO_intro hx ?_
    refine lc_pure encC (fun c => hit st b c) (fun _ => .int 1) cs [] (by simp; exact len_le (Nat.le_trans hc.2 (by decide))) (fun c hm K1 K0 h1 h2 => ?_) ?_
    · have hlt := hc.1 c hm
      have hs1 : st[c.1]? = some st[c.1] := List.getElem?_eq_getElem hlt
      have hp := per_pos (hs.1 _ (List.getElem_mem hlt))
      refine ⟨rfl, ?_⟩
      symm_saturate
      refine onO_intro (a := .int ((per st[c.1] : Nat) : Int)) (atI_nat _ _ _ (by rw [List.getElem?_map, hs1]; rfl)) ?_
      refine ⟨by omega, ?_⟩
      rw [← Int.natCast_emod]
      refine eq_good (e := D.int) goodInt (by decide) rfl rfl ?_
      have e1 : decide (((b % per st[c.1] : Nat) : Int) = ((c.2 : Nat) : Int)) = hit st b c := by
        unfold hit
        rw [perAt_eq hs1]
        exact decide_eq_decide.mpr ⟨fun h => by omega, fun h => by omega⟩
      rw [e1]
      exact br_intro h1 h2
    symm_saturate
    rw [List.nil_append]
    refine ⟨l0, ?_⟩
    have e3 : ((cs.filter fun c => hit st b c).map fun _ => D.int 1) = ((cs.filter fun c => hit st b c).map (fun _ => (1 : Int))).map D.int := by rw [List.map_map]; rfl
    rw [e3]
    refine eq_good (e := fun l : List Int => D.lst (l.map D.int)) (b := []) goodInt.lst (by decide) rfl rfl ?_
    rw [nil_any]
    rw [List.all_cons] at h
    show br (!cs.any (hit st b)) _ _
    cases hq : cs.any (hit st b) with
    | true =>
      rw [hq] at h
      exact hN _ _ ⟨rfl, ⟨_, _, _, _, rfl⟩, h⟩
    | false =>
      rw [hq] at h
      show k (.bl false) _
      have h' : false = coversM st cs := h
      rw [h']; exact hk
theorem CovD.uniq {st : Stack} {ps : List Nat} {d : D} {a b : Bool} (ha : CovD st ps d a) (hb : CovD st ps d b) : a = b := by
  cases ha with
  | no d h =>
    cases hb with
    | no => rfl
    | cs cs h1 h2 => have := h _ rfl; rw [h2] at this; cases this
  | cs cs h1 h2 =>
    generalize e : encCt cs = d at hb
    cases hb with
    | no d h => have := h _ e.symm; rw [h2] at this; cases this
    | cs cs' h3 h4 =>
      have : cs = cs' := encC_inj (by injection e)
      rw [this]
def F_law_is_cover : FSp := fun ds S k => ∃ (st : Stack) (ps : List Nat) (d : D), ds = [encSt st, encP ps, d] ∧ okSt st ∧ ps.length ≤ 1000 ∧ d.pln = true ∧ (∀ c ∈ shuttingM st ps, c.1 ≤ 3 ∧ c.2 ≤ 9) ∧ (∀ xs, d = .tup xs → xs.length ≤ 20000) ∧ ∀ b, CovD st ps d b → k (.bl b) S
theorem risesM_app (cs : Cls) (a c : Nat × Nat) : risesM (cs ++ [a, c]) = (risesM (cs ++ [a]) && ltC a c) := by
  induction cs with
  | nil => simp [risesM]
  | cons b cs ih =>
    cases cs with
    | nil => simp [risesM]
    | cons b' cs =>
      have e : ∀ l : Cls, risesM (b :: b' :: l) = (ltC b b' && risesM (b' :: l)) := fun l => by simp [risesM]
      simp only [List.cons_append] at ih ⊢
      rw [e, e, ih, Bool.and_assoc]
theorem risesM_pre : ∀ (cs rest : Cls), risesM (cs ++ rest) = true → risesM cs = true
  | [], _, _ => rfl
  | [_], _, _ => by simp [risesM]
  | a :: b :: cs, rest, h => by
    have e : ∀ l : Cls, risesM (a :: b :: l) = (ltC a b && risesM (b :: l)) := fun l => by simp [risesM]
    simp only [List.cons_append] at h
    rw [e] at h ⊢
    simp only [Bool.and_eq_true] at h ⊢
    exact ⟨h.1, risesM_pre (b :: cs) rest h.2⟩
/-- the class met last, or what stands for none -/
def lastD (cs : Cls) : D := match cs.getLast? with | some c => encC c | none => .tup [.int (-1), .int (-1)]
theorem lt_last {done : Cls} (c : Nat × Nat) (hr : risesM done = true) : ∃ a b : Int, lastD done = .tup [.int a, .int b] ∧ lexLt [a, b] [(c.1 : Int), (c.2 : Int)] = risesM (done ++ [c]) := by
  rcases List.eq_nil_or_concat done with rfl | ⟨l, a, rfl⟩
  · have h1 : (-1 : Int) < (c.1 : Int) := by omega
    have e : lexLt [-1, -1] [(c.1 : Int), (c.2 : Int)] = true := by simp [lexLt, h1]
    have e2 : risesM ([] ++ [c]) = true := by simp [risesM]
    exact ⟨-1, -1, rfl, by rw [e, e2]⟩
  · have e1 : lastD (l ++ [a]) = encC a := by simp [lastD]
    simp only [List.concat_eq_append] at hr ⊢
    refine ⟨(a.1 : Int), (a.2 : Int), e1, ?_⟩
    rw [lex_ltC, List.append_assoc, show [a] ++ [c] = [a, c] from rfl, risesM_app, hr, Bool.true_and]
theorem p_law_is_cover : ∀ ds S k, F_law_is_cover ds S k → b_law_is_cover F_law_classes F_law_is_whole F_law_all_covered (bodyK k) (entry 6 ds) S := by
  rintro _ S k ⟨st, ps, d, rfl, hs, hp, hd, h39, hlen, hk⟩
  have hkd := pln_kind hd
  have no : (∀ xs, d = .tup xs → xs.all (clsIn (shuttingM st ps)) = false) → k (.bl false) S := fun h => hk false (.no d h)
  cases d with
  | own n => cases hkd
  | scr n => cases hkd
  | int i => exact ⟨rfl, no fun xs h => by cases h⟩
  | bl b => exact ⟨rfl, no fun xs h => by cases h⟩
  | non => exact ⟨rfl, no fun xs h => by cases h⟩
  | str s => exact ⟨rfl, no fun xs h => by cases h⟩
  | lst s => exact ⟨rfl, no fun xs h => by cases h⟩
  | tup xs =>
    have hl := hlen xs rfl
    have hpl : D.plnAll xs = true := by simpa [D.pln] using hd
    refine ⟨rfl, ?_⟩
    rw [show ([Cl.tuple].any fun c => isC c (res S (D.tup xs))) = true from rfl]
    symm_saturate
    rw [Bool.not_true]
    symm_saturate
    refine ⟨l2, ?_⟩
    symm_saturate
    refine call_law_classes hs hp ?_
    symm_saturate
    have bad : ∀ d ∈ xs, clsIn (shuttingM st ps) d = false → k (.bl false) S := fun d hd h => no fun ys hy => by
      cases hy
      rw [Bool.eq_false_iff]
      intro hall
      rw [List.all_eq_true.mp hall d hd] at h
      cases h
    have bad2 : ∀ (cs : Cls) (rest : List D), xs = cs.map encC ++ rest → risesM cs = false → k (.bl false) S := fun cs rest hx hr => by
      cases hq : xs.all (clsIn (shuttingM st ps)) with
      | false => exact no fun ys hy => by cases hy; exact hq
      | true =>
        obtain ⟨cs', hcs', hin⟩ := cls_all hq
        have h1 := hk (risesM cs' && coversM st cs') (by
          have := CovD.cs (st := st) (ps := ps) cs' hin (by rw [← hcs']; exact hq)
          rw [hcs']; exact this)
        have e : cs' = cs ++ cs'.drop cs.length := by
          have : (cs'.take cs.length).map encC = cs.map encC := by
            rw [List.map_take, ← hcs', hx, List.take_left' (by simp)]
          have t := encC_inj this
          have t2 := (List.take_append_drop cs.length cs').symm
          rw [t] at t2
          exact t2
        have hr' : risesM cs' = false := by
          rw [Bool.eq_false_iff]
          intro h
          rw [e] at h
          rw [risesM_pre _ _ h] at hr
          cases hr
        rw [hr', Bool.false_and] at h1
        exact h1
    have hid : xs = xs.map id := by simp
    rw [hid]
    refine forT_ind id (fun rest env s => s = S ∧ ∃ (done : Cls) (c5 : Option D), env = [some (encSt st), some (encP ps), some (.tup (xs.map id)), some (lastD done), some (encCs (shuttingM st ps)), c5] ∧ xs = done.map encC ++ rest ∧ (∀ c ∈ done, c ∈ shuttingM st ps) ∧ risesM done = true) ?_ ?_ xs _ S ⟨rfl, [], _, rfl, rfl, (fun c h => nomatch h), rfl⟩
    · rintro _ _ ⟨rfl, done, c5, rfl, hx, hin, hr⟩
      rw [List.append_nil] at hx
      have hall : (done.map encC).all (clsIn (shuttingM st ps)) = true := cls_in fun c hc => ⟨hin c hc, by have := h39 c (hin c hc); omega, by have := h39 c (hin c hc); omega⟩
      have fin := hk _ (by rw [hx]; exact CovD.cs (st := st) (ps := ps) done hin hall)
      rw [hr, Bool.true_and] at fin
      symm_saturate
      rw [← hid, hx]
      refine call_coversT hs ⟨fun c hc => (shutting_okC hs ps).1 c (hin c hc), ?_⟩ fin
      rw [hx] at hl; simpa using hl
    · rintro d rest _ S0 ⟨e0, done, c5, rfl, hx, hin, hr⟩ N hN
      subst e0
      have hdm : d ∈ xs := by rw [hx]; simp
      have hdp := plnAll_mem hpl d hdm
      have hb := bad d hdm
      clear bad
      cases d with
      | own n => simp [D.pln] at hdp
      | scr n => simp [D.pln] at hdp
      | int i => exact ⟨rfl, hb rfl⟩
      | bl b => exact ⟨rfl, hb rfl⟩
      | non => exact ⟨rfl, hb rfl⟩
      | str s => exact ⟨rfl, hb rfl⟩
      | lst s => exact ⟨rfl, hb rfl⟩
      | tup ys =>
        refine ⟨rfl, ?_⟩
        rw [show ([Cl.tuple].any fun c => isC c (res S0 (id (D.tup ys)))) = true from rfl]
        symm_saturate
        rw [Bool.not_true]
        symm_saturate
        refine ne_good (e := D.int) (a := ((ys.length : Nat) : Int)) (b := 2) goodInt (by decide) rfl rfl ?_
        symm_saturate
        by_cases hl2 : ys.length = 2
        · obtain ⟨a, b, rfl⟩ : ∃ a b, ys = [a, b] := by
            match ys, hl2 with
            | [a, b], _ => exact ⟨a, b, rfl⟩
          have hpp : a.pln = true ∧ b.pln = true := by
            simpa [D.pln, D.plnAll] using hdp
          rw [show decide ((([a, b].length : Nat) : Int) = 2) = true from rfl, Bool.not_true]
          symm_saturate
          refine onO_intro (a := a) rfl ?_
          symm_saturate
          refine call_law_is_whole hpp.1 ?_
          symm_saturate
          cases ha : btwD 0 3 a with
          | false =>
            refine hb ?_
            cases hc : clsIn (shuttingM st ps) (.tup [a, b]) with
            | false => rfl
            | true =>
              simp only [clsIn, Bool.and_eq_true] at hc
              obtain ⟨c, hc'⟩ := isCls_enc hc.1
              rw [hc', in_cls, decide_eq_true_eq] at hc
              have h1 := h39 c hc.2
              have : a = .int (c.1 : Int) := by injection hc' with h; injection h
              rw [this] at ha
              simp [btwD] at ha; omega
          | true =>
          rw [Bool.not_true]
          symm_saturate
          refine onO_intro (a := b) rfl ?_
          symm_saturate
          refine call_law_is_whole hpp.2 ?_
          symm_saturate
          cases hbb : btwD 0 9 b with
          | false =>
            refine hb ?_
            cases hc : clsIn (shuttingM st ps) (.tup [a, b]) with
            | false => rfl
            | true =>
              simp only [clsIn, Bool.and_eq_true] at hc
              obtain ⟨c, hc'⟩ := isCls_enc hc.1
              rw [hc', in_cls, decide_eq_true_eq] at hc
              have h1 := h39 c hc.2
              have : b = .int (c.2 : Int) := by injection hc' with h; injection h with _ h; injection h
              rw [this] at hbb
              simp [btwD] at hbb; omega
          | true =>
          rw [Bool.not_true]
          symm_saturate
          refine ⟨in_cls_ok hdp _, ?_⟩
          obtain ⟨i, rfl, i0, i1⟩ := btw_int ha
          obtain ⟨j, rfl, j0, j1⟩ := btw_int hbb
          obtain ⟨i, rfl⟩ := Int.eq_ofNat_of_zero_le i0
          obtain ⟨j, rfl⟩ := Int.eq_ofNat_of_zero_le j0
          rw [show inD (id (D.tup [.int (i : Int), .int (j : Int)])) (res S0 (encCs (shuttingM st ps))) = decide ((i, j) ∈ shuttingM st ps) from in_cls (i, j) _]
          by_cases hm : (i, j) ∈ shuttingM st ps
          · rw [decide_eq_true hm, Bool.not_true]
            symm_saturate
            obtain ⟨la, lb, el, elx⟩ := lt_last (i, j) hr
            rw [el, id_eq]
            symm_saturate
            rw [show intsD [D.int la, D.int lb] = some [la, lb] from rfl, show intsD [D.int (i : Int), D.int (j : Int)] = some [(i : Int), (j : Int)] from rfl]
            symm_saturate
            rw [elx]
            have hx2 : xs = (done ++ [(i, j)]).map encC ++ rest := by rw [hx, List.map_append, List.append_assoc]; rfl
            cases hq : risesM (done ++ [(i, j)]) with
            | false =>
              rw [Bool.not_false]
              exact bad2 _ _ hx2 hq
            | true =>
              rw [Bool.not_true]
              refine hN _ _ ⟨rfl, done ++ [(i, j)], some (encC (i, j)), ?_, hx2, fun c hc => ?_, hq⟩
              · have e : lastD (done ++ [(i, j)]) = encC (i, j) := by simp [lastD]
                rw [e]
              · rcases List.mem_append.mp hc with h | h
                · exact hin c h
                · rw [List.mem_singleton.mp h]; exact hm
          · rw [decide_eq_false hm, Bool.not_false]
            refine hb ?_
            have e : inD (D.tup [.int (i : Int), .int (j : Int)]) (encCs (shuttingM st ps)) = decide ((i, j) ∈ shuttingM st ps) := in_cls (i, j) _
            unfold clsIn
            rw [e, decide_eq_false hm, Bool.and_false]
        · have : decide (((ys.length : Nat) : Int) = 2) = false := by rw [decide_eq_false_iff_not]; omega
          rw [this]
          refine hb ?_
          simp [clsIn, isCls, hl2]
end Dat
set_option Elab.async false
set_option linter.all false
set_option maxRecDepth 100000
set_option maxHeartbeats 2000000
set_option exponentiation.threshold 2000
/-! PlR: k11. -/
namespace Dat
local macro_rules | `(tactic| symm_saturate) => `(tactic| with_reducible conv => whnf)
theorem covers_mono {st : Stack} {a b : Cls} (h : ∀ c ∈ a, c ∈ b) (ha : coversM st a = true) : coversM st b = true := by
  unfold coversM at ha ⊢
  rw [List.all_eq_true] at ha ⊢
  intro t ht
  obtain ⟨c, hc, hh⟩ := List.any_eq_true.mp (ha t ht)
  exact List.any_eq_true.mpr ⟨c, h c hc, hh⟩
theorem step_min {st : Stack} : ∀ (rest found : Cls), (∀ c ∈ found, c ∉ rest → coversM st (found.filter fun x => !decide (x = c)) = false) → ∀ c ∈ rest.foldl (stepC st) found, coversM st ((rest.foldl (stepC st) found).filter fun x => !decide (x = c)) = false
  | [], found, h, c, hc => h c hc (by simp)
  | o :: rest, found, h, c, hc => by
    rw [List.foldl_cons] at hc ⊢
    refine step_min rest (stepC st found o) (fun d hd hn => ?_) c hc
    unfold stepC at hd ⊢
    by_cases hv : coversM st (found.filter fun x => !decide (x = o)) = true
    · rw [if_pos hv] at hd ⊢
      rw [List.mem_filter] at hd
      have hdo : d ≠ o := by simpa using hd.2
      have h1 := h d hd.1 (by simp [hdo, hn])
      rw [Bool.eq_false_iff] at h1 ⊢
      intro z
      refine h1 (covers_mono (fun x hx => ?_) z)
      rw [List.mem_filter] at hx ⊢
      rw [List.mem_filter] at hx
      exact ⟨hx.1.1, hx.2⟩
    · rw [if_neg hv] at hd ⊢
      by_cases hdo : d = o
      · subst hdo; simpa using hv
      · exact h d hd (by simp [hdo, hn])
theorem prune_min {st : Stack} {cs : Cls} : ∀ c ∈ pruneM st cs, coversM st ((pruneM st cs).filter fun x => !decide (x = c)) = false :=
  step_min cs cs fun c hc hn => absurd hc hn
theorem call_law_is_cover {st : Stack} {ps : List Nat} {d : D} (h : okSt st) (hp : ps.length ≤ 1000) (hd : d.pln = true) (h39 : ∀ c ∈ shuttingM st ps, c.1 ≤ 3 ∧ c.2 ≤ 9) (hl : ∀ xs, d = .tup xs → xs.length ≤ 20000) {S : Sto} {k : DK} (hk : ∀ b, CovD st ps d b → k (.bl b) S) : callP F_law_is_cover [encSt st, encP ps, d] S k := by
  refine ⟨purC (purSt _) (purC (purP _) (purC (pln_pur hd) rfl)), st, ps, d, rfl, h, hp, hd, h39, hl, fun b hb => ?_⟩
  exact onO_intro (thaw_pur rfl) (hk b hb)
theorem call_law_all_covered {st : Stack} {cs : Cls} (h : okSt st) (hc : okC st cs) {S : Sto} {k : DK} (hk : k (.bl (coversM st cs)) S) : callP F_law_all_covered [encSt st, encCs cs] S k := call_covers h hc hk
end Dat
set_option Elab.async false
set_option linter.all false
set_option maxRecDepth 100000
set_option maxHeartbeats 4000000
set_option exponentiation.threshold 2000
/-! PlS: k11's body. -/
namespace Dat
local macro_rules | `(tactic| symm_saturate) => `(tactic| with_reducible conv => whnf)
theorem turns6 (l : Nat) : ∃ m : Nat, m ≤ 8 ∧ (if (if (l : Int) < 6 then (l : Int) else 6) > 1 then (if (l : Int) < 6 then (l : Int) else 6) else 1) = (m : Int) :=
  ⟨(if (if (l : Int) < 6 then (l : Int) else 6) > 1 then (if (l : Int) < 6 then (l : Int) else 6) else 1).toNat, by (repeat' split) <;> omega, by (repeat' split) <;> omega⟩
def F_law_k11 : FSp := fun ds S k => ∃ ns : List Int, ds = [.scr ns] ∧ ns.length ≤ 63 ∧ ∀ S', k (.bl true) S'
@[reducible] def b_k11_tail (F_law_draw F_law_otherwise F_law_thing F_law_truly F_law_is_cover F_is_cover : FSp) : DTS :=
    (sSeq (sSet 10 (dOr (dVar 7) (dOr (dVar 8) (dTup (aCons (dTup (aCons (dC (.int 0)) (aCons (dC (.int 0)) (aNil)))) (aNil))))))
    (sSeq (sSet 11 (dCallM F_law_draw (aCons (dVar 2) (aCons (dCB cLen (aCons (dVar 10) (aNil))) (aNil)))))
    (sSeq (sSet 12 (dCallM F_law_otherwise (aCons (dVar 2) (aCons (dVar 10) (aCons (dC (.int 1)) (aNil))))))
    (sSeq (sOwn 13 (nLst (aCons (dVar 7) (aCons (dVar 8) (aCons (dRev (dVar 8)) (aCons (dSl (dVar 8) (pNo) (pSo (dUn uNeg (dC (.int 1))))) (aCons (dOp oAdd (dVar 8) (dSl (dVar 8) (pNo) (pSo (dC (.int 1))))) (aCons (dNew (nCpy (dVar 8))) (aCons (dOp oAdd (dSl (dVar 10) (pNo) (pSo (dVar 11))) (dSl (dVar 10) (pSo (dOp oAdd (dVar 11) (dC (.int 1)))) (pNo))) (aCons (dVar 12) (aCons (dTup (aNil)) (aNil))))))))))))
    (sSeq (sOwn 13 (nCat (dVar 13) (dNew (nLst (aCons (dOp oAdd (dOp oAdd (dSl (dVar 10) (pNo) (pSo (dVar 11))) (dTup (aCons (dTup (aCons (dOp oIdx (dOp oIdx (dVar 10) (dVar 11)) (dC (.int 0))) (aCons (dCallM F_law_draw (aCons (dVar 2) (aCons (dC (.int 11)) (aNil)))) (aNil)))) (aNil)))) (dSl (dVar 10) (pSo (dOp oAdd (dVar 11) (dC (.int 1)))) (pNo))) (aCons (dCallM F_law_thing (aCons (dVar 2) (aCons (dC (.int 3)) (aNil)))) (aNil)))))))
    (sSeq (sDrop (dApp (dVar 13) (dIf (tBl (dOp oNotIn (dVar 12) (dTup (aCons (dTup (aNil)) (aCons (dNew (nLst (aNil))) (aNil)))))) (dCallM F_law_otherwise (aCons (dVar 2) (aCons (dVar 12) (aCons (dC (.int 1)) (aNil))))) (dVar 12))))
    (sFor (iVal (dOp oAdd (dVar 13) (dNew (nLst (aCons (dOp oAdd (dVar 8) (dTup (aCons (dTup (aCons (dC (.int 3)) (aCons (dC (.int 9)) (aNil)))) (aNil)))) (aCons (dOp oAdd (dTup (aCons (dTup (aCons (dC (.bl false)) (aCons (dC (.int 0)) (aNil)))) (aNil))) (dSl (dVar 8) (pSo (dC (.int 1))) (pNo))) (aCons (dC .non) (aNil)))))))) (gName 14) (sIf (tNot (tTru (dCall F_law_truly (aCons (dCall F_is_cover (aCons (dVar 3) (aCons (dVar 4) (aCons (dVar 14) (aNil))))) (aCons (dCall F_law_is_cover (aCons (dVar 3) (aCons (dVar 4) (aCons (dVar 14) (aNil))))) (aNil)))))) (sRet (dC (.bl false))) (sNext)))))))))
theorem seq_set {i : Nat} {a : DTE} {u : DTS} {E : DEnds} {env : Env} {S : Sto} (h : a env S fun d S1 => u E (setE env i d) S1) : sSeq (sSet i a) u E env S := h
theorem mem_cut {α : Type} {xs : List α} {lo hi : Option Int} {x : α} (h : x ∈ cut xs lo hi) : x ∈ xs := List.mem_of_mem_drop (List.mem_of_mem_take h)
theorem len_cut {α : Type} (xs : List α) (lo hi : Option Int) : (cut xs lo hi).length ≤ xs.length := by
  unfold cut
  rw [List.length_take, List.length_drop]; omega
theorem shut_len10 {st : Stack} (h : okSt st) (ps : List Nat) : (shuttingM st ps).length ≤ 10 * st.length := by
  have := flat_len (shutOf ps) 10 (numb 0 st) fun q hq => shutOf_len ps q (numb_ok h q hq)
  rw [numb_len] at this
  unfold shuttingM
  omega
theorem plnAll_all : ∀ {ds : List D}, (∀ d ∈ ds, d.pln = true) → D.plnAll ds = true
  | [], _ => rfl
  | d :: ds, h => by
    simp only [D.plnAll, Bool.and_eq_true]
    exact ⟨h d (List.mem_cons_self ..), plnAll_all fun e he => h e (List.mem_cons_of_mem _ he)⟩
/-- a thing that may be asked -/
def okT (d : D) : Prop := d.pln = true ∧ ∀ xs, d = .tup xs → xs.length ≤ 20000
theorem okT_tup {xs : List D} (h1 : ∀ x ∈ xs, x.pln = true) (h2 : xs.length ≤ 20000) : okT (.tup xs) := ⟨by simp only [D.pln]; exact plnAll_all h1, fun ys h => by injection h with h; rw [← h]; exact h2⟩
theorem okT_goodQ {m : Nat} {d : D} (h : goodQ m d) (hm : m ≤ 20000) : okT d := by
  obtain ⟨xs, e, h1, h2⟩ := h
  rcases e with rfl | rfl
  · exact ⟨by simp only [D.pln]; exact plnAll_all fun x hx => fit_pln (h2 x hx), fun ys h => by cases h⟩
  · exact okT_tup (fun x hx => fit_pln (h2 x hx)) (by omega)
theorem okT_fit {m : Nat} {d : D} (h : d.fit m = true) (hm : m ≤ 20000) : okT d := ⟨fit_pln h, fun ys e => by subst e; have := (fit_tup.mp h).1; omega⟩
theorem plnC (c : Nat × Nat) : (encC c).pln = true := rfl
theorem pln_mapC {cs : Cls} : ∀ x ∈ cs.map encC, x.pln = true := fun x hx => by obtain ⟨c, _, rfl⟩ := List.mem_map.mp hx; rfl
theorem goodQ_cls {cs : Cls} {m : Nat} (h : cs.length ≤ m) (h2 : 2 ≤ m) : goodQ m (encCt cs) := ⟨_, .inr rfl, by simpa using h, fun x hx => by obtain ⟨c, _, rfl⟩ := List.mem_map.mp hx; simp [D.fit, D.fitAll, h2]⟩
theorem p_law_k11 : ∀ ds S k, F_law_k11 ds S k → b_law_k11 F_law_draws F_law_stack F_law_draw F_law_rows F_cover F_law_classes F_law_is_cover F_law_all_covered (F_law_otherwise 1) (F_law_thing 3) F_law_truly F_is_cover (bodyK k) (entry 17 ds) S := by
  rintro _ S k ⟨ns, rfl, hl, hk⟩
  symm_saturate
  obtain ⟨m, hm, em⟩ := turns6 ns.length
  rw [em]
  refine ⟨⟨by omega, by omega⟩, ?_⟩
  rw [rng_map]
  refine forT_ind (fun (i : Nat) => D.int (i : Int)) (fun rest env _ => (∀ x ∈ rest, x < 8) ∧ ∃ (a1 a2 a3 a4 a5 a6 a7 a8 a9 a10 a11 a12 a13 a14 a15 a16 : Option D), env = [some (.scr ns), a1, a2, a3, a4, a5, a6, a7, a8, a9, a10, a11, a12, a13, a14, a15, a16]) ?_ ?_ _ _ S
    ⟨fun x hx => by have := List.mem_range.mp hx; omega, _, _, _, _, _, _, _, _, _, _, _, _, _, _, _, _, rfl⟩
  · intro _ S _
    exact hk S
  rintro c rest _ S0 ⟨hc, a1, a2, a3, a4, a5, a6, a7, a8, a9, a10, a11, a12, a13, a14, a15, a16, rfl⟩ N hN
  have hc8 := hc c (List.mem_cons_self ..)
  have done : ∀ (env : Env) (s : Sto), (∃ (a1 a2 a3 a4 a5 a6 a7 a8 a9 a10 a11 a12 a13 a14 a15 a16 : Option D), env = [some (.scr ns), a1, a2, a3, a4, a5, a6, a7, a8, a9, a10, a11, a12, a13, a14, a15, a16]) → N env s := fun env s h => hN _ _ ⟨fun x hx => hc x (List.mem_cons_of_mem _ hx), h⟩
  refine call_draws hl (by omega) fun i j hij => ?_
  have hd0 := drw_push (S := S0) hij
  generalize (S0 ++ [MO.lst [.int i, .int j]]) = S1 at hd0 ⊢
  generalize S0.length = n at hd0 ⊢
  refine ⟨l3, ?_⟩
  symm_saturate
  refine call_draw hd0 (by decide) (by decide) fun r S2 r0 r1 hd2 _ => ?_
  obtain ⟨x, hx, ha⟩ := at_mem (xs := [D.int 4, .int 7, .int 10]) r0 (by simpa using r1)
  refine onO_intro ha ?_
  obtain ⟨mm, rfl, m1, m2⟩ : ∃ mm : Int, x = .int mm ∧ 1 ≤ mm ∧ mm ≤ 10 := by
    simp only [List.mem_cons, List.not_mem_nil, or_false] at hx
    rcases hx with rfl | rfl | rfl
    · exact ⟨_, rfl, by decide, by decide⟩
    · exact ⟨_, rfl, by decide, by decide⟩
    · exact ⟨_, rfl, by decide, by decide⟩
  symm_saturate
  refine call_stack hd2 (by decide) (by decide) m1 m2 fun st S3 hst hd3 _ => ?_
  have hs := hst.ok (by decide)
  have hst3 : st.length ≤ 3 := by have := hst.2.2; omega
  have hwl := whole_le hs
  have hw0 := whole_pos hs
  symm_saturate
  refine ⟨⟨by decide, by decide⟩, ?_⟩
  rw [show (8 : Int) = ((8 : Nat) : Int) from rfl, rng_map]
  refine lc_inv (fun (i : Nat) => D.int (i : Int)) (fun S => Drw S n) (fun y => ∃ p : Nat, y = .int (p : Int) ∧ p < 8) (List.range 8) [] S3 (len_le (by simp)) hd3 (fun y hy => nomatch hy) (fun p hp S13 hd13 K1 K0 h1 h0 => ?_) fun ys S4 hd4 hly hys => ?_
  · symm_saturate
    refine call_draw hd13 (by decide) (by decide) fun z S15 z0 z1 hd15 _ => ?_
    refine eq_good (e := D.int) goodInt (by decide) rfl rfl ?_
    exact br_intro (fun _ => h1 _ _ ⟨p, rfl, List.mem_range.mp hp⟩ hd15) fun _ => h0 _ hd15
  obtain ⟨ps, rfl, hps⟩ := all_enc (enc := fun (i : Nat) => D.int (i : Int)) (Q := fun p => p < 8) hys
  have hpl : ps.length ≤ 8 := by simpa using hly
  symm_saturate
  symm_saturate
  refine call_law_rows (w := 8) hs (by decide) ?_
  symm_saturate
  have erow : List.map encR (rowsOf (rowF st 8) (whole st)) = (List.range (whole st)).map fun (t : Nat) => encR (rowF st 8 t) := by
    unfold rowsOf; rw [List.map_map]; rfl
  rw [erow]
  refine lc_pure (fun (t : Nat) => encR (rowF st 8 t)) (fun t => opnA st ps t) (fun _ => .int 1) (List.range (whole st)) [] (by simp; exact len_le (by omega)) (fun t ht K1 K0 h1 h2 => ?_) ?_
  · refine lc_map (fun (p : Nat) => D.int (p : Int)) (fun (p : Nat) => .str [sgn (opn st (p : Int) (t : Int))]) ps (len_le (by omega)) (fun p hp K1 K0 h1 => onO_intro (row_at st 8 p _ (hps p hp)) h1) ?_
    have e1 : (ps.map fun (p : Nat) => D.str [sgn (opn st (p : Int) (t : Int))]) = (ps.map fun (p : Nat) => opn st (p : Int) (t : Int)).map fun b => D.str [sgn b] := by rw [List.map_map]; rfl
    rw [e1]
    refine ⟨in_ok _, ?_⟩
    refine (show br (!inD (.str [35]) (.lst ((ps.map fun (p : Nat) => opn st (p : Int) (t : Int)).map fun b => D.str [sgn b]))) _ _ from ?_)
    rw [in_shut, Bool.not_not]
    have e2 : (ps.map fun (p : Nat) => opn st (p : Int) (t : Int)).all id = opnA st ps t := by
      simp [opnA, List.all_map, Function.comp_def]
    rw [e2]
    exact br_intro h1 h2
  symm_saturate
  rw [List.nil_append]
  refine ⟨l0, ?_⟩
  have e3 : (((List.range (whole st)).filter fun t => opnA st ps t).map fun _ => D.int 1) = (((List.range (whole st)).filter fun t => opnA st ps t).map (fun _ => (1 : Int))).map D.int := by rw [List.map_map]; rfl
  rw [e3]
  refine eq_good (e := fun l : List Int => D.lst (l.map D.int)) (b := []) goodInt.lst (by decide) rfl rfl ?_
  rw [nil_any]
  symm_saturate
  refine call_cover (ps := ps) hs (by omega) ?_
  symm_saturate
  refine call_law_classes hs (by omega) ?_
  symm_saturate
  have hcov : coverM st ps = if (List.range (whole st)).any (fun t => opnA st ps t) then none else some (pruneM st (shuttingM st ps)) := by
    unfold coverM nextM
    have e : (fun m : Nat => opnA st ps (0 + m)) = fun m : Nat => opnA st ps m := by funext m; rw [Nat.zero_add]
    rw [e]
    cases hf : (List.range (whole st)).find? (fun t => opnA st ps t) with
    | none =>
      have : (List.range (whole st)).any (fun t => opnA st ps t) = false := by
        rw [List.any_eq_false]
        exact List.find?_eq_none.mp hf
      rw [this]; rfl
    | some t =>
      have : (List.range (whole st)).any (fun t => opnA st ps t) = true :=
        List.any_eq_true.mpr ⟨t, List.mem_of_find?_eq_some hf, List.find?_some hf⟩
      rw [this]; rfl
  rw [hcov]
  have hW : (shuttingM st ps).length ≤ 30 := by have := shut_len10 hs ps; omega
  have h39 : ∀ c ∈ shuttingM st ps, c.1 ≤ 3 ∧ c.2 ≤ 9 := fun c hc => by
    obtain ⟨s, hs', h1, _⟩ := shut_mem.mp hc
    have h2 := (List.getElem?_eq_some_iff.mp hs').1
    have hm : s ∈ st := List.mem_iff_getElem?.mpr ⟨_, hs'⟩
    have h3 : per s ≤ 10 := Nat.le_trans rnd_le (hs.1 s hm).2.1
    omega
  have tail : ∀ {E : DEnds} (told : Option Cls) (a5 a6 a9 a16 : Option D), E.nx = N → (∀ x S, E.rt x S = k x S) → (∀ cs, told = some cs → cs.length ≤ 30) → b_k11_tail F_law_draw (F_law_otherwise 1) (F_law_thing 3) F_law_truly F_law_is_cover F_is_cover E [some (D.scr ns), some (.int (c : Int)), some (.own n), some (encSt st), some (encP ps), a5, a6, some (encOC told), some (encCt (shuttingM st ps)), a9, a10, a11, a12, a13, a14, a15, a16] S4 := by
    intro E told a5 a6 a9 a16 hnx hrt htl
    obtain ⟨bs, hb0, hbl, hbase⟩ : ∃ bs : Cls, 1 ≤ bs.length ∧ bs.length ≤ 30 ∧ ∀ k : DK, k (encCt bs) S4 → dOr (dVar 7) (dOr (dVar 8) (dTup (aCons (dTup (aCons (dC (.int 0)) (aCons (dC (.int 0)) (aNil)))) (aNil)))) [some (D.scr ns), some (.int (c : Int)), some (.own n), some (encSt st), some (encP ps), a5, a6, some (encOC told), some (encCt (shuttingM st ps)), a9, a10, a11, a12, a13, a14, a15, a16] S4 k := by
      have fall : ∃ bs : Cls, 1 ≤ bs.length ∧ bs.length ≤ 30 ∧ ∀ k : DK, k (encCt bs) S4 → dOr (dVar 8) (dTup (aCons (dTup (aCons (dC (.int 0)) (aCons (dC (.int 0)) (aNil)))) (aNil))) [some (D.scr ns), some (.int (c : Int)), some (.own n), some (encSt st), some (encP ps), a5, a6, some (encOC told), some (encCt (shuttingM st ps)), a9, a10, a11, a12, a13, a14, a15, a16] S4 k := by
        revert hW
        generalize shuttingM st ps = W
        intro hW
        rcases W with _ | ⟨w, ws⟩
        · exact ⟨[(0, 0)], by decide, by decide, fun k hk => ⟨l2, l1, hk⟩⟩
        · exact ⟨w :: ws, by simp, hW, fun k hk => hk⟩
      rcases told with _ | (_ | ⟨t, ts⟩)
      · obtain ⟨bs, h1, h2, h3⟩ := fall
        exact ⟨bs, h1, h2, fun k hk => h3 k hk⟩
      · obtain ⟨bs, h1, h2, h3⟩ := fall
        exact ⟨bs, h1, h2, fun k hk => h3 k hk⟩
      · exact ⟨t :: ts, by simp, htl _ rfl, fun k hk => hk⟩
    refine seq_set (hbase _ ?_)
    symm_saturate
    have elen : ((bs.map encC).length : Int) = ((bs.length : Nat) : Int) := by rw [List.length_map]
    rw [elen]
    refine call_draw hd4 (by omega) (by omega) fun spot S5 s0 s1 hd5 _ => ?_
    symm_saturate
    refine call_otherwise (n := 1) (m := 30) (d := 1) hd5 (by decide) (goodQ_cls hbl (by decide)) (by decide) (by decide) fun once S6 hon hd6 _ => ?_
    obtain ⟨sp, rfl⟩ := Int.eq_ofNat_of_zero_le s0
    have hsp : sp < bs.length := by omega
    refine ⟨by simp only [List.length_append, List.length_map]; have := len_cut ((shuttingM st ps).map encC) none (some 1); rw [List.length_map] at this; exact len_le (by omega), ?_⟩
    symm_saturate
    have lcut : ∀ lo hi, (cut (bs.map encC) lo hi).length ≤ 30 := fun lo hi => by have := len_cut (bs.map encC) lo hi; rw [List.length_map] at this; omega
    refine ⟨len_le (by have := lcut none (some (sp : Int)); have := lcut (some ((sp : Int) + 1)) none; omega), ?_⟩
    refine ⟨l0, ?_⟩
    refine ⟨len_le (by simp), ?_⟩
    have okc : ∀ lo hi, okT (.tup (cut ((shuttingM st ps).map encC) lo hi)) := fun lo hi => okT_tup (fun x hx => pln_mapC x (mem_cut hx)) (Nat.le_trans (len_cut _ _ _) (by rw [List.length_map]; omega))
    have hthings : ∀ y ∈ [encOC told, encCt (shuttingM st ps), .tup ((shuttingM st ps).map encC).reverse, .tup (cut ((shuttingM st ps).map encC) none (some (-1))), .tup ((shuttingM st ps).map encC ++ cut ((shuttingM st ps).map encC) none (some 1)), .lst ((shuttingM st ps).map encC), .tup (cut (bs.map encC) none (some (sp : Int)) ++ cut (bs.map encC) (some ((sp : Int) + 1)) none), once, .tup []], okT y := by
      intro y hy
      simp only [List.mem_cons, List.not_mem_nil, or_false] at hy
      rcases hy with rfl | rfl | rfl | rfl | rfl | rfl | rfl | rfl | rfl
      · cases told with
        | none => exact ⟨rfl, fun xs h => by cases h⟩
        | some cs => exact okT_tup pln_mapC (by have := htl _ rfl; rw [List.length_map]; omega)
      · exact okT_tup pln_mapC (by rw [List.length_map]; omega)
      · exact okT_tup (fun x hx => pln_mapC x (List.mem_reverse.mp hx)) (by rw [List.length_reverse, List.length_map]; omega)
      · exact okc _ _
      · refine okT_tup (fun x hx => ?_) ?_
        · rcases List.mem_append.mp hx with h | h
          · exact pln_mapC x h
          · exact pln_mapC x (mem_cut h)
        · rw [List.length_append]
          have := len_cut ((shuttingM st ps).map encC) none (some 1)
          rw [List.length_map] at this ⊢; omega
      · exact ⟨by simp only [D.pln]; exact plnAll_all pln_mapC, fun xs h => by cases h⟩
      · refine okT_tup (fun x hx => ?_) ?_
        · rcases List.mem_append.mp hx with h | h <;> exact pln_mapC x (mem_cut h)
        · rw [List.length_append]
          have := lcut none (some (sp : Int)); have := lcut (some ((sp : Int) + 1)) none; omega
      · exact okT_goodQ hon (by decide)
      · exact okT_tup (fun x hx => nomatch hx) (by decide)
    symm_saturate
    generalize hths : [encOC told, encCt (shuttingM st ps), D.tup ((shuttingM st ps).map encC).reverse, .tup (cut ((shuttingM st ps).map encC) none (some (-1))), .tup ((shuttingM st ps).map encC ++ cut ((shuttingM st ps).map encC) none (some 1)), .lst ((shuttingM st ps).map encC), .tup (cut (bs.map encC) none (some (sp : Int)) ++ cut (bs.map encC) (some ((sp : Int) + 1)) none), once, .tup []] = ths at hthings
    have hth9 : ths.length ≤ 9 := by rw [← hths]; exact Nat.le_refl 9
    refine onO_intro (a := encC bs[sp]) (atI_nat _ _ _ (by rw [List.getElem?_map, List.getElem?_eq_getElem hsp]; rfl)) ?_
    symm_saturate
    rw [show atI [D.int (bs[sp].1 : Int), D.int (bs[sp].2 : Int)] 0 = some (D.int (bs[sp].1 : Int)) from rfl]
    symm_saturate
    have hd7 : Drw (S6 ++ [.lst ths]) n := hd6.push
    have hq7 : (S6 ++ [MO.lst ths])[S6.length]? = some (.lst ths) := by simp
    have hnq : S6.length ≠ n := fun h => by have := hd6.lt; omega
    generalize S6.length = q at hq7 hnq ⊢
    generalize (S6 ++ [MO.lst ths]) = S7 at hd7 hq7 ⊢
    refine call_draw hd7 (by decide) (by decide) fun r8 S8 _ _ hd8 st8 => ?_
    have hq8 := (st8.2 q hnq).trans hq7
    symm_saturate
    refine ⟨l2, ?_⟩
    refine ⟨l1, ?_⟩
    refine ⟨len_le (by have := lcut none (some (sp : Int)); simp only [List.length_cons, List.length_nil]; omega), ?_⟩
    symm_saturate
    refine ⟨len_le (by have := lcut none (some (sp : Int)); have := lcut (some ((sp : Int) + 1)) none; simp only [List.length_append, List.length_cons, List.length_nil]; omega), ?_⟩
    symm_saturate
    refine call_thing (n := 3) (d := 3) hd8 (by decide) fun x9 S9 hx9 hd9 st9 => ?_
    have hq9 := (st9.2 q hnq).trans hq8
    symm_saturate
    refine ⟨l2, ?_⟩
    symm_saturate
    rw [res_at hq9]
    symm_saturate
    refine ⟨len_le (by simp only [List.length_cons, List.length_nil]; omega), ?_⟩
    have hth2 : ∀ y ∈ ths ++ [D.tup (cut (bs.map encC) none (some (sp : Int)) ++ [D.tup [D.int (bs[sp].1 : Int), D.int r8]] ++ cut (bs.map encC) (some ((sp : Int) + 1)) none), x9], okT y := by
      intro y hy
      rcases List.mem_append.mp hy with hy | hy
      · exact hthings y hy
      · simp only [List.mem_cons, List.not_mem_nil, or_false] at hy
        rcases hy with rfl | rfl
        · refine okT_tup (fun x hx => ?_) ?_
          · rcases List.mem_append.mp hx with hx | hx
            · rcases List.mem_append.mp hx with hx | hx
              · exact pln_mapC x (mem_cut hx)
              · rw [List.mem_singleton.mp hx]; rfl
            · exact pln_mapC x (mem_cut hx)
          · have := lcut none (some (sp : Int)); have := lcut (some ((sp : Int) + 1)) none
            simp only [List.length_append, List.length_cons, List.length_nil]; omega
        · exact okT_fit hx9 (by decide)
    have hth11 : (ths ++ [D.tup (cut (bs.map encC) none (some (sp : Int)) ++ [D.tup [D.int (bs[sp].1 : Int), D.int r8]] ++ cut (bs.map encC) (some ((sp : Int) + 1)) none), x9]).length ≤ 11 := by
      simp only [List.length_append, List.length_cons, List.length_nil]; omega
    generalize (ths ++ [D.tup (cut (bs.map encC) none (some (sp : Int)) ++ [D.tup [D.int (bs[sp].1 : Int), D.int r8]] ++ cut (bs.map encC) (some ((sp : Int) + 1)) none), x9]) = th2 at hth2 hth11 ⊢
    symm_saturate
    have hd10 : Drw (S9 ++ [MO.lst th2]) n := hd9.push
    have hq10 : (S9 ++ [MO.lst th2])[S9.length]? = some (.lst th2) := by simp
    have hnq2 : S9.length ≠ n := fun h => by have := hd9.lt; omega
    generalize S9.length = q2 at hq10 hnq2 ⊢
    generalize (S9 ++ [MO.lst th2]) = S10 at hd10 hq10 ⊢
    rw [hq10]
    symm_saturate
    refine ⟨l0, ?_⟩
    refine ⟨l0, ?_⟩
    refine ⟨l2, ?_⟩
    have fin : ∀ (y : D) (S11 : Sto), okT y → S11[q2]? = some (.lst th2) → sFor (iVal (dOp oAdd (dVar 13) (dNew (nLst (aCons (dOp oAdd (dVar 8) (dTup (aCons (dTup (aCons (dC (.int 3)) (aCons (dC (.int 9)) (aNil)))) (aNil)))) (aCons (dOp oAdd (dTup (aCons (dTup (aCons (dC (.bl false)) (aCons (dC (.int 0)) (aNil)))) (aNil))) (dSl (dVar 8) (pSo (dC (.int 1))) (pNo))) (aCons (dC .non) (aNil)))))))) (gName 14) (sIf (tNot (tTru (dCall F_law_truly (aCons (dCall F_is_cover (aCons (dVar 3) (aCons (dVar 4) (aCons (dVar 14) (aNil))))) (aCons (dCall F_law_is_cover (aCons (dVar 3) (aCons (dVar 4) (aCons (dVar 14) (aNil))))) (aNil)))))) (sRet (dC (.bl false))) (sNext)) E [some (D.scr ns), some (.int (c : Int)), some (.own n), some (encSt st), some (encP ps), a5, a6, some (encOC told), some (encCt (shuttingM st ps)), a9, some (encCt bs), some (.int (sp : Int)), some once, some (.own q2), a14, a15, a16] (S11.set q2 (.lst (th2 ++ [y]))) := by
      intro y S11 hy hq11
      have hq12 : (S11.set q2 (.lst (th2 ++ [y])))[q2]? = some (.lst (th2 ++ [y])) := List.getElem?_set_self (List.getElem?_eq_some_iff.mp hq11).1
      generalize S11.set q2 (.lst (th2 ++ [y])) = S12 at hq12 ⊢
      symm_saturate
      refine ⟨l2, ?_⟩
      refine ⟨l1, ?_⟩
      symm_saturate
      refine ⟨len_le (by rw [List.length_map]; simp only [List.length_cons, List.length_nil]; omega), ?_⟩
      symm_saturate
      refine ⟨l2, ?_⟩
      refine ⟨l1, ?_⟩
      have lcw : ∀ lo hi, (cut ((shuttingM st ps).map encC) lo hi).length ≤ 30 := fun lo hi => by have := len_cut ((shuttingM st ps).map encC) lo hi; rw [List.length_map] at this; omega
      symm_saturate
      refine ⟨len_le (by have := lcw (some 1) none; simp only [List.length_cons, List.length_nil]; omega), ?_⟩
      refine ⟨l3, ?_⟩
      symm_saturate
      rw [res_at hq12]
      symm_saturate
      refine ⟨len_le (by simp only [List.length_append, List.length_cons, List.length_nil]; omega), ?_⟩
      have hall : ∀ z ∈ th2 ++ [y] ++ [D.tup ((shuttingM st ps).map encC ++ [D.tup [.int 3, .int 9]]), .tup ([D.tup [.bl false, .int 0]] ++ cut ((shuttingM st ps).map encC) (some 1) none), .non], okT z := by
        intro z hz
        rcases List.mem_append.mp hz with hz | hz
        · rcases List.mem_append.mp hz with hz | hz
          · exact hth2 z hz
          · rw [List.mem_singleton.mp hz]; exact hy
        · simp only [List.mem_cons, List.not_mem_nil, or_false] at hz
          rcases hz with rfl | rfl | rfl
          · refine okT_tup (fun x hx => ?_) (by rw [List.length_append, List.length_map]; simp only [List.length_cons, List.length_nil]; omega)
            rcases List.mem_append.mp hx with hx | hx
            · exact pln_mapC x hx
            · rw [List.mem_singleton.mp hx]; rfl
          · refine okT_tup (fun x hx => ?_) (by have := lcw (some 1) none; rw [List.length_append]; simp only [List.length_cons, List.length_nil]; omega)
            rcases List.mem_append.mp hx with hx | hx
            · rw [List.mem_singleton.mp hx]; rfl
            · exact pln_mapC x (mem_cut hx)
          · exact ⟨rfl, fun xs h => by cases h⟩
      symm_saturate
      revert hall
      generalize (th2 ++ [y] ++ [D.tup ((shuttingM st ps).map encC ++ [D.tup [.int 3, .int 9]]), .tup ([D.tup [.bl false, .int 0]] ++ cut ((shuttingM st ps).map encC) (some 1) none), .non]) = all
      intro hall
      rw [← List.map_id' all]
      refine forT_ind (fun d : D => d) (fun rest env s => (∀ z ∈ rest, okT z) ∧ ∃ (a14 : Option D), env = [some (D.scr ns), some (.int (c : Int)), some (.own n), some (encSt st), some (encP ps), a5, a6, some (encOC told), some (encCt (shuttingM st ps)), a9, some (encCt bs), some (.int (sp : Int)), some once, some (.own q2), a14, a15, a16]) ?_ ?_ all _ S12 ⟨by simpa using hall, _, rfl⟩
      · rintro _ s ⟨_, b14, rfl⟩
        rw [hnx]
        exact done _ _ ⟨_, _, _, _, _, _, _, _, _, _, _, _, _, _, _, _, rfl⟩
      · rintro z rest3 _ s ⟨hz, b14, rfl⟩ N3 hN3
        obtain ⟨z1, z2⟩ := hz z (List.mem_cons_self ..)
        symm_saturate
        refine call_is_cover hs (by omega) z1 z2 fun b1 hb1 => ?_
        symm_saturate
        refine call_law_is_cover hs (by omega) z1 h39 z2 fun b2 hb2 => ?_
        symm_saturate
        refine call_truly ?_
        rw [hb1.uniq hb2, decide_eq_true rfl]
        exact hN3 _ _ ⟨fun z h => hz z (List.mem_cons_of_mem _ h), _, rfl⟩
    symm_saturate
    refine ⟨⟨(okT_goodQ hon (by decide)).1, rfl, .inr (by decide)⟩, ?_⟩
    symm_saturate
    refine br_intro (fun _ => ?_) fun _ => ?_
    · symm_saturate
      refine call_otherwise (n := 1) (m := 31) (d := 1) hd10 (by decide) hon (by decide) (by decide) fun y S11 hy hd11 st11 => ?_
      symm_saturate
      have hq11 := (st11.2 q2 hnq2).trans hq10
      rw [hq11]
      exact ⟨Nat.lt_of_le_of_lt hth11 (by decide), fin y S11 (okT_goodQ hy (by decide)) hq11⟩
    · symm_saturate
      rw [hq10]
      exact ⟨Nat.lt_of_le_of_lt hth11 (by decide), fin once S10 (okT_goodQ hon (by decide)) hq10⟩
  cases hany : (List.range (whole st)).any (fun t => opnA st ps t) with
  | true =>
    rw [if_pos rfl]
    refine ne_good (e := D.bl) (a := false) (b := false) goodBl (by decide) rfl rfl ?_
    refine br_f ?_
    symm_saturate
    rw [Bool.not_true]
    symm_saturate
    refine tail none _ _ _ _ rfl (fun _ _ => Iff.rfl |> propext) (fun cs h => by cases h)
  | false =>
    rw [if_neg (by decide)]
    refine ne_good (e := D.bl) (a := true) (b := true) goodBl (by decide) rfl rfl ?_
    refine br_f ?_
    have hcv : coversM st (shuttingM st ps) = true := (covers_shut hs ps).mpr fun u => by
      rw [← opnA_mod st hs ps u]
      have := List.any_eq_false.mp hany (u % whole st) (List.mem_range.mpr (Nat.mod_lt _ hw0))
      simpa using this
    obtain ⟨hsub, hpc⟩ := prune_cov hcv
    symm_saturate
    rw [Bool.not_false]
    symm_saturate
    have hlen := shutting_len hs ps
    have hpl2 := hsub.length_le
    refine call_law_is_cover (d := encCt (pruneM st (shuttingM st ps))) hs (by omega) (pln_cls _) h39 (fun xs hx => by injection hx with hx; rw [← hx, List.length_map]; omega) fun b hb => ?_
    have hb' := cov_cls (fun c hc => ⟨hsub.subset hc, shut_small hs (by omega) (hsub.subset hc)⟩) hb
    rw [shutting_rises st ps hsub, hpc] at hb'
    subst hb'
    rw [Bool.and_self]
    symm_saturate
    rw [Bool.not_true]
    symm_saturate
    rw [show (!isNon (encOC (some (pruneM st (shuttingM st ps))))) = true from rfl]
    symm_saturate
    refine forT_ind encC (fun rest env s => s = S4 ∧ (∀ c ∈ rest, c ∈ pruneM st (shuttingM st ps)) ∧ ∃ (a5 a6 a9 a16 : Option D), env = [some (D.scr ns), some (.int (c : Int)), some (.own n), some (encSt st), some (encP ps), a5, a6, some (encOC (some (pruneM st (shuttingM st ps)))), some (encCt (shuttingM st ps)), a9, a10, a11, a12, a13, a14, a15, a16]) ?_ ?_ (pruneM st (shuttingM st ps)) _ S4 ⟨rfl, fun c hc => hc, _, _, _, _, rfl⟩
    · rintro _ _ ⟨rfl, _, b5, b6, b9, b16, rfl⟩
      refine tail (some (pruneM st (shuttingM st ps))) b5 b6 b9 b16 rfl (fun _ _ => rfl) (fun cs h => by injection h with h; subst h; omega)
    · rintro one rest2 _ _ ⟨rfl, hin, b5, b6, b9, b16, rfl⟩ N2 hN2
      symm_saturate
      refine lc_pure encC (fun x => !decide (x = one)) encC (pruneM st (shuttingM st ps)) [] (len_le (by simp; omega)) (fun x hx K1 K0 h1 h2 => ?_) ?_
      · symm_saturate
        refine ne_good (e := encC) (a := x) (b := one) goodC (by decide) rfl rfl ?_
        exact br_intro h1 h2
      rw [List.nil_append]
      symm_saturate
      refine call_law_all_covered (cs := (pruneM st (shuttingM st ps)).filter fun x => !decide (x = one)) hs ⟨fun c hc => (shutting_okC hs ps).1 c (hsub.subset (List.mem_filter.mp hc).1), Nat.le_trans (List.length_filter_le ..) (by omega)⟩ ?_
      rw [prune_min one (hin one (List.mem_cons_self ..))]
      exact hN2 _ _ ⟨rfl, fun c hc => hin c (List.mem_cons_of_mem _ hc), _, _, _, _, rfl⟩
end Dat
set_option Elab.async false
set_option linter.all false
set_option maxRecDepth 100000
set_option maxHeartbeats 2000000
set_option exponentiation.threshold 2000
/-! PlT: sheets, stacks, what was seen, wishes: any thing. -/
namespace Dat
local macro_rules | `(tactic| symm_saturate) => `(tactic| with_reducible conv => whnf)
def chrs (l : List Nat) (s : List Nat) : Bool := s.all fun c => decide (c ∈ l)
def chD (c : Nat) : D := .str [c]
theorem in_chT (c : Nat) : ∀ l : List Nat, inD (.str [c]) (.tup (l.map chD)) = decide (c ∈ l)
  | [] => rfl
  | a :: l => by
    have ih := in_chT c l
    simp only [inD, List.map_cons, List.any_cons] at ih ⊢
    rw [ih]
    by_cases h : c = a
    · subst h; simp [chD, D.eqv]
    · have h' : ¬ a = c := fun z => h z.symm
      simp [chD, D.eqv, h, h']
theorem in_chT_ok (c : Nat) (l : List Nat) : InOk (.str [c]) (.tup (l.map chD)) := ⟨rfl, plnAll_map (f := chD) (fun _ => rfl) l, .inl (by simp [D.dep])⟩
theorem ne_nilD {S : Sto} {xs : List D} {k : DK} (hp : D.plnAll xs = true) (hk : k (.bl (!xs.isEmpty)) S) : oNe (.lst xs) (.lst []) S k := by
  unfold oNe
  refine ⟨⟨by simpa [D.pln] using hp, rfl, .inr (by simp [D.dep, D.depAll])⟩, ?_⟩
  have : (D.lst xs).eqv (.lst []) = xs.isEmpty := by cases xs <;> rfl
  show k (.bl (!(D.lst xs).eqv (.lst []))) S
  rw [this]; exact hk
theorem eq_nilD {S : Sto} {xs : List D} {k : DK} (hp : D.plnAll xs = true) (hk : k (.bl xs.isEmpty) S) : oEq (.lst xs) (.lst []) S k := by
  unfold oEq
  refine ⟨⟨by simpa [D.pln] using hp, rfl, .inr (by simp [D.dep, D.depAll])⟩, ?_⟩
  have : (D.lst xs).eqv (.lst []) = xs.isEmpty := by cases xs <;> rfl
  show k (.bl ((D.lst xs).eqv (.lst []))) S
  rw [this]; exact hk
theorem filter_empty {α : Type} (p : α → Bool) : ∀ l : List α, (l.filter p).isEmpty = l.all fun a => !p a
  | [] => rfl
  | a :: l => by
    rw [List.filter_cons]
    cases h : p a with
    | true => simp [h]
    | false => simp [h, filter_empty p l]
theorem map_empty {α β : Type} (f : α → β) (l : List α) : (l.map f).isEmpty = l.isEmpty := by cases l <;> rfl
/-! ### patterns, sheets -/
def patD : D → Bool
  | .str s => (decide (1 ≤ s.length) && decide (s.length ≤ 10)) && chrs [46, 35] s
  | _ => false
def F_is_pattern : FSp := fun ds S k => ∃ d : D, ds = [d] ∧ d.pln = true ∧ k (.bl (patD d)) S
theorem p_is_pattern : ∀ ds S k, F_is_pattern ds S k → b_is_pattern (bodyK k) (entry 2 ds) S := by
  rintro _ S k ⟨d, rfl, hd, hk⟩
  have hkd := pln_kind hd
  cases d with
  | own n => cases hkd
  | scr n => cases hkd
  | int i => exact ⟨rfl, hk⟩
  | bl b => exact ⟨rfl, hk⟩
  | non => exact ⟨rfl, hk⟩
  | tup s => exact ⟨rfl, hk⟩
  | lst s => exact ⟨rfl, hk⟩
  | str s =>
    refine ⟨rfl, ?_⟩
    refine (show br (decide ((1 : Int) ≤ (s.length : Int))) _ _ from ?_)
    refine br_intro (fun h1 => ?_) fun h1 => ?_
    · have h1' : 1 ≤ s.length := by have := of_decide_eq_true h1; omega
      refine (show br (decide ((s.length : Int) ≤ 10)) _ _ from ?_)
      refine br_intro (fun h2 => ?_) fun h2 => ?_
      · have h2' : s.length ≤ 10 := by have := of_decide_eq_true h2; omega
        refine lc_map (fun c : Nat => D.str [c]) (fun c => .bl (decide (c ∈ [46, 35]))) s (len_le (by omega)) (fun c hc K1 K0 h => ?_) ?_
        · refine ⟨l2, in_chT_ok c [46, 35], ?_⟩
          rw [show inD (D.str [c]) (res _ (D.tup [D.str [46], D.str [35]])) = decide (c ∈ [46, 35]) from in_chT c [46, 35]]
          exact h
        · refine onO_intro (blsD_map _ s) ?_
          rw [List.all_map]
          have e : patD (.str s) = s.all (id ∘ fun c => decide (c ∈ [46, 35])) := by simp [patD, chrs, h1', h2', Function.comp_def]
          rw [e] at hk
          exact hk
      · have e : patD (.str s) = false := by have := of_decide_eq_false h2; simp [patD, show ¬ s.length ≤ 10 from by omega]
        rw [e] at hk
        rw [h2]; exact hk
    · have e : patD (.str s) = false := by have := of_decide_eq_false h1; simp [patD, show ¬ 1 ≤ s.length from by omega]
      rw [e] at hk
      exact hk
theorem call_is_pattern {d : D} (h : d.pln = true) {S : Sto} {k : DK} (hk : k (.bl (patD d)) S) : callP F_is_pattern [d] S k :=
  callP_intro (purC (pln_pur h) rfl) (d := .bl _) rfl hk fun K hK => ⟨d, rfl, h, hK⟩
def lenS : D → Nat
  | .str s => s.length
  | _ => 0
def sheetD : D → Bool
  | .tup [a, b, c] => patD a && (btwD (-10) 10 b && btwD 0 ((lenS a : Int) - 1) c)
  | _ => false
theorem sheetD_len {xs : List D} (h : xs.length ≠ 3) : sheetD (.tup xs) = false := by
  match xs, h with
  | [], _ => rfl
  | [_], _ => rfl
  | [_, _], _ => rfl
  | _ :: _ :: _ :: _ :: _, _ => rfl
theorem len3 {α : Type} {xs : List α} (h : xs.length = 3) : ∃ a b c, xs = [a, b, c] := by
  match xs, h with
  | [a, b, c], _ => exact ⟨a, b, c, rfl⟩
def F_is_sheet : FSp := fun ds S k => ∃ d : D, ds = [d] ∧ d.pln = true ∧ k (.bl (sheetD d)) S
theorem p_is_sheet : ∀ ds S k, F_is_sheet ds S k → b_is_sheet F_is_pattern F_is_between (bodyK k) (entry 1 ds) S := by
  rintro _ S k ⟨d, rfl, hd, hk⟩
  have hkd := pln_kind hd
  cases d with
  | own n => cases hkd
  | scr n => cases hkd
  | int i => exact ⟨rfl, hk⟩
  | bl b => exact ⟨rfl, hk⟩
  | non => exact ⟨rfl, hk⟩
  | str s => exact ⟨rfl, hk⟩
  | lst s => exact ⟨rfl, hk⟩
  | tup xs =>
    refine ⟨rfl, ?_⟩
    rw [show ([Cl.tuple].any fun c => isC c (res S (D.tup xs))) = true from rfl]
    symm_saturate
    rw [Bool.not_true]
    symm_saturate
    refine ne_good (e := D.int) (b := 3) goodInt (by decide) rfl rfl ?_
    by_cases hl : xs.length = 3
    · obtain ⟨a, b, c, rfl⟩ := len3 hl
      rw [show (!decide ((([a, b, c] : List D).length : Int) = 3)) = false from rfl]
      have hp : D.plnAll [a, b, c] = true := by simpa [D.pln] using hd
      have ha := plnAll_mem hp a (by simp)
      have hb := plnAll_mem hp b (by simp)
      have hc := plnAll_mem hp c (by simp)
      symm_saturate
      rw [show atI [a, b, c] 0 = some a from rfl]
      symm_saturate
      refine call_is_pattern ha ?_
      refine br_intro (b := !patD a) (fun h => ?_) fun h => ?_
      · have e : sheetD (.tup [a, b, c]) = false := by simp only [sheetD]; rw [show patD a = false by simpa using h]; rfl
        rw [e] at hk
        exact hk
      · have h' : patD a = true := by simpa using h
        have e : sheetD (.tup [a, b, c]) = (btwD (-10) 10 b && btwD 0 ((lenS a : Int) - 1) c) := by simp only [sheetD]; rw [h']; rfl
        rw [e] at hk
        symm_saturate
        rw [show atI [a, b, c] 1 = some b from rfl]
        symm_saturate
        refine call_between hb ?_
        refine br_intro (b := btwD (-10) 10 b) (fun h2 => ?_) fun h2 => ?_
        · rw [h2, Bool.true_and] at hk
          symm_saturate
          rw [show atI [a, b, c] 2 = some c from rfl]
          symm_saturate
          rw [show atI [a, b, c] 0 = some a from rfl]
          symm_saturate
          obtain ⟨s, rfl⟩ : ∃ s, a = .str s := by cases a <;> first | exact ⟨_, rfl⟩ | (simp [patD] at h')
          refine call_between hc hk
        · rw [h2, Bool.false_and] at hk
          refine (show k (.bl (btwD (-10) 10 b)) S from ?_)
          rw [h2]; exact hk
    · have : (!decide ((xs.length : Int) = 3)) = true := by simp; omega
      rw [this]
      rw [sheetD_len hl] at hk
      exact hk
theorem call_is_sheet {d : D} (h : d.pln = true) {S : Sto} {k : DK} (hk : k (.bl (sheetD d)) S) : callP F_is_sheet [d] S k :=
  callP_intro (purC (pln_pur h) rfl) (d := .bl _) rfl hk fun K hK => ⟨d, rfl, h, hK⟩
def F_law_is_sheet : FSp := fun ds S k => ∃ d : D, ds = [d] ∧ d.pln = true ∧ (∀ s xs, d = .tup (.str s :: xs) → s.length ≤ 1000) ∧ k (.bl (sheetD d)) S
theorem p_law_is_sheet : ∀ ds S k, F_law_is_sheet ds S k → b_law_is_sheet F_law_is_whole (bodyK k) (entry 2 ds) S := by
  rintro _ S k ⟨d, rfl, hd, hlen, hk⟩
  have hkd := pln_kind hd
  cases d with
  | own n => cases hkd
  | scr n => cases hkd
  | int i => exact ⟨rfl, hk⟩
  | bl b => exact ⟨rfl, hk⟩
  | non => exact ⟨rfl, hk⟩
  | str s => exact ⟨rfl, hk⟩
  | lst s => exact ⟨rfl, hk⟩
  | tup xs =>
    refine ⟨rfl, ?_⟩
    rw [show ([Cl.tuple].any fun c => isC c (res S (D.tup xs))) = true from rfl]
    symm_saturate
    rw [Bool.not_true]
    symm_saturate
    refine ne_good (e := D.int) (b := 3) goodInt (by decide) rfl rfl ?_
    by_cases hl : xs.length = 3
    · obtain ⟨a, b, c, rfl⟩ := len3 hl
      rw [show (!decide ((([a, b, c] : List D).length : Int) = 3)) = false from rfl]
      have hp : D.plnAll [a, b, c] = true := by simpa [D.pln] using hd
      have ha := plnAll_mem hp a (by simp)
      have hb := plnAll_mem hp b (by simp)
      have hc := plnAll_mem hp c (by simp)
      symm_saturate
      rw [show atI [a, b, c] 0 = some a from rfl]
      symm_saturate
      have hka := pln_kind ha
      cases a with
      | own n => cases hka
      | scr n => cases hka
      | int i => exact ⟨rfl, hk⟩
      | bl b => exact ⟨rfl, hk⟩
      | non => exact ⟨rfl, hk⟩
      | tup s => exact ⟨rfl, hk⟩
      | lst s => exact ⟨rfl, hk⟩
      | str s =>
        have hls := hlen s _ rfl
        refine ⟨rfl, ?_⟩
        rw [show ([Cl.str].any fun c => isC c (res S (D.str s))) = true from rfl]
        symm_saturate
        rw [Bool.not_true]
        symm_saturate
        rw [show atI [D.str s, b, c] 0 = some (.str s) from rfl]
        have no : ¬ (1 ≤ s.length ∧ s.length ≤ 10) → k (.bl false) S := fun h => by
          have e : sheetD (.tup [.str s, b, c]) = false := by
            simp only [sheetD, patD]
            rw [show (decide (1 ≤ s.length) && decide (s.length ≤ 10)) = false by simpa using h]; rfl
          rw [e] at hk; exact hk
        refine (show br (decide ((0 : Int) < (s.length : Int))) _ _ from ?_)
        refine br_intro (fun h1 => ?_) fun h1 => ?_
        · have h1' := of_decide_eq_true h1
          refine (show br (!decide ((s.length : Int) < 11)) _ _ from ?_)
          refine br_intro (fun h2 => ?_) fun h2 => ?_
          · have h2' : ¬ (s.length : Int) < 11 := by simpa using h2
            exact no (by omega)
          have h2' : (s.length : Int) < 11 := by simpa using h2
          symm_saturate
          rw [show atI [D.str s, b, c] 0 = some (.str s) from rfl]
          symm_saturate
          refine lc_pure (fun c : Nat => D.str [c]) (fun c => !decide (c ∈ [46, 35])) (fun c => D.str [c]) s [] (len_le (by simp; omega)) (fun c hc K1 K0 h1 h2 => ?_) ?_
          · refine ⟨rfl, ?_⟩
            refine (show br (!decide (c ∈ [46, 35])) _ _ from ?_)
            exact br_intro h1 h2
          rw [List.nil_append]
          refine ⟨l0, ?_⟩
          refine ne_nilD (plnAll_map (f := fun c : Nat => D.str [c]) (fun _ => rfl) _) ?_
          rw [map_empty, filter_empty]
          rw [show (s.all fun a => !(!decide (a ∈ [46, 35]))) = chrs [46, 35] s from by simp [chrs]]
          refine br_intro (b := !chrs [46, 35] s) (fun h3 => ?_) fun h3 => ?_
          · have e : sheetD (.tup [.str s, b, c]) = false := by
              simp only [sheetD, patD]
              rw [show chrs [46, 35] s = false by simpa using h3, Bool.and_false]; rfl
            rw [e] at hk; exact hk
          have e : sheetD (.tup [.str s, b, c]) = (btwD (-10) 10 b && btwD 0 ((s.length : Int) - 1) c) := by
            simp only [sheetD, patD, lenS]
            rw [show chrs [46, 35] s = true by simpa using h3, show (decide (1 ≤ s.length) && decide (s.length ≤ 10)) = true by simp; omega]; rfl
          rw [e] at hk
          symm_saturate
          rw [show atI [D.str s, b, c] 1 = some b from rfl]
          symm_saturate
          refine call_law_is_whole hb ?_
          refine br_intro (b := btwD (-10) 10 b) (fun h2 => ?_) fun h2 => ?_
          · rw [h2, Bool.true_and] at hk
            symm_saturate
            rw [show atI [D.str s, b, c] 2 = some c from rfl]
            symm_saturate
            rw [show atI [D.str s, b, c] 0 = some (.str s) from rfl]
            symm_saturate
            exact call_law_is_whole hc hk
          · rw [h2, Bool.false_and] at hk
            rw [h2]; exact hk
        · have h1' := of_decide_eq_false h1
          exact no (by omega)
    · have : (!decide ((xs.length : Int) = 3)) = true := by simp; omega
      rw [this]
      rw [sheetD_len hl] at hk
      exact hk
theorem call_law_is_sheet {d : D} (h : d.pln = true) (hl : ∀ s xs, d = .tup (.str s :: xs) → s.length ≤ 1000) {S : Sto} {k : DK} (hk : k (.bl (sheetD d)) S) : callP F_law_is_sheet [d] S k :=
  callP_intro (purC (pln_pur h) rfl) (d := .bl _) rfl hk fun K hK => ⟨d, rfl, h, hl, hK⟩
/-! ### stacks -/
def stackD : D → Bool
  | .tup xs => (decide (1 ≤ xs.length) && decide (xs.length ≤ 4)) && xs.all sheetD
  | _ => false
def F_is_stack : FSp := fun ds S k => ∃ d : D, ds = [d] ∧ d.pln = true ∧ k (.bl (stackD d)) S
theorem p_is_stack : ∀ ds S k, F_is_stack ds S k → b_is_stack F_is_sheet (bodyK k) (entry 2 ds) S := by
  rintro _ S k ⟨d, rfl, hd, hk⟩
  have hkd := pln_kind hd
  cases d with
  | own n => cases hkd
  | scr n => cases hkd
  | int i => exact ⟨rfl, hk⟩
  | bl b => exact ⟨rfl, hk⟩
  | non => exact ⟨rfl, hk⟩
  | str s => exact ⟨rfl, hk⟩
  | lst s => exact ⟨rfl, hk⟩
  | tup xs =>
    refine ⟨rfl, ?_⟩
    have hp : D.plnAll xs = true := by simpa [D.pln] using hd
    refine (show br (decide ((1 : Int) ≤ (xs.length : Int))) _ _ from ?_)
    refine br_intro (fun h1 => ?_) fun h1 => ?_
    · have h1' : 1 ≤ xs.length := by have := of_decide_eq_true h1; omega
      refine (show br (decide ((xs.length : Int) ≤ 4)) _ _ from ?_)
      refine br_intro (fun h2 => ?_) fun h2 => ?_
      · have h2' : xs.length ≤ 4 := by have := of_decide_eq_true h2; omega
        refine lc_mapD (fun d => .bl (sheetD d)) xs (len_le (by omega)) (fun d hdm K1 K0 h => call_is_sheet (plnAll_mem hp d hdm) h) ?_
        refine onO_intro (blsD_map _ xs) ?_
        rw [List.all_map]
        have e : stackD (.tup xs) = xs.all (id ∘ sheetD) := by simp [stackD, h1', h2', Function.comp_def]
        rw [e] at hk
        exact hk
      · have e : stackD (.tup xs) = false := by have := of_decide_eq_false h2; simp [stackD, show ¬ xs.length ≤ 4 from by omega]
        rw [e] at hk
        rw [h2]; exact hk
    · have e : stackD (.tup xs) = false := by have := of_decide_eq_false h1; simp [stackD, show ¬ 1 ≤ xs.length from by omega]
      rw [e] at hk
      exact hk
theorem call_is_stack {d : D} (h : d.pln = true) {S : Sto} {k : DK} (hk : k (.bl (stackD d)) S) : callP F_is_stack [d] S k :=
  callP_intro (purC (pln_pur h) rfl) (d := .bl _) rfl hk fun K hK => ⟨d, rfl, h, hK⟩
def F_law_is_stack : FSp := fun ds S k => ∃ d : D, ds = [d] ∧ d.pln = true ∧ (∀ ys, d = .tup ys → ∀ y ∈ ys, ∀ s xs, y = .tup (.str s :: xs) → s.length ≤ 1000) ∧ k (.bl (stackD d)) S
theorem p_law_is_stack : ∀ ds S k, F_law_is_stack ds S k → b_law_is_stack F_law_is_sheet (bodyK k) (entry 2 ds) S := by
  rintro _ S k ⟨d, rfl, hd, hls, hk⟩
  have hkd := pln_kind hd
  cases d with
  | own n => cases hkd
  | scr n => cases hkd
  | int i => exact ⟨rfl, hk⟩
  | bl b => exact ⟨rfl, hk⟩
  | non => exact ⟨rfl, hk⟩
  | str s => exact ⟨rfl, hk⟩
  | lst s => exact ⟨rfl, hk⟩
  | tup xs =>
    refine ⟨rfl, ?_⟩
    have hp : D.plnAll xs = true := by simpa [D.pln] using hd
    refine (show br (decide ((0 : Int) < (xs.length : Int))) _ _ from ?_)
    refine br_intro (fun h1 => ?_) fun h1 => ?_
    · have h1' : 1 ≤ xs.length := by have := of_decide_eq_true h1; omega
      refine (show br (decide ((xs.length : Int) < 5)) _ _ from ?_)
      refine br_intro (fun h2 => ?_) fun h2 => ?_
      · have h2' : xs.length ≤ 4 := by have := of_decide_eq_true h2; omega
        symm_saturate
        have hm : xs = xs.map id := by simp
        rw [hm]
        refine lc_pure id (fun d => !sheetD d) id xs [] (len_le (by simp; omega)) (fun d hdm K1 K0 h1 h2 => ?_) ?_
        · refine call_law_is_sheet (plnAll_mem hp d hdm) (hls xs rfl d hdm) ?_
          exact br_intro h1 h2
        rw [List.nil_append]
        refine ⟨l0, ?_⟩
        refine eq_nilD (by rw [List.map_id]; exact plnAll_all fun d h => plnAll_mem hp d (List.mem_filter.mp h).1) ?_
        rw [map_empty, filter_empty]
        have e : stackD (.tup xs) = xs.all (fun a => !(!sheetD a)) := by simp [stackD, h1', h2']
        rw [e] at hk
        exact hk
      · have e : stackD (.tup xs) = false := by have := of_decide_eq_false h2; simp [stackD, show ¬ xs.length ≤ 4 from by omega]
        rw [e] at hk
        rw [h2]; exact hk
    · have e : stackD (.tup xs) = false := by have := of_decide_eq_false h1; simp [stackD, show ¬ 1 ≤ xs.length from by omega]
      rw [e] at hk
      exact hk
theorem call_law_is_stack {d : D} (h : d.pln = true) (hl : ∀ ys, d = .tup ys → ∀ y ∈ ys, ∀ s xs, y = .tup (.str s :: xs) → s.length ≤ 1000) {S : Sto} {k : DK} (hk : k (.bl (stackD d)) S) : callP F_law_is_stack [d] S k :=
  callP_intro (purC (pln_pur h) rfl) (d := .bl _) rfl hk fun K hK => ⟨d, rfl, h, hl, hK⟩
/-! ### what was seen -/
def seenR (w : Nat) : D → Bool
  | .str s => decide (s.length = w) && chrs [46, 35, 63] s
  | _ => false
def F_is_seen_row : FSp := fun ds S k => ∃ (w : Nat) (d : D), ds = [.int (w : Int), d] ∧ w ≤ 1000 ∧ d.pln = true ∧ k (.bl (seenR w d)) S
theorem p_is_seen_row : ∀ ds S k, F_is_seen_row ds S k → b_is_seen_row (bodyK k) (entry 3 ds) S := by
  rintro _ S k ⟨w, d, rfl, hw, hd, hk⟩
  have hkd := pln_kind hd
  cases d with
  | own n => cases hkd
  | scr n => cases hkd
  | int i => exact ⟨rfl, hk⟩
  | bl b => exact ⟨rfl, hk⟩
  | non => exact ⟨rfl, hk⟩
  | tup s => exact ⟨rfl, hk⟩
  | lst s => exact ⟨rfl, hk⟩
  | str s =>
    refine ⟨rfl, ?_⟩
    rw [show ([Cl.str].any fun c => isC c (res S (D.str s))) = true from rfl]
    symm_saturate
    refine eq_good (e := D.int) (b := (w : Int)) goodInt (by decide) rfl rfl ?_
    refine br_intro (fun h1 => ?_) fun h1 => ?_
    · have h1' : s.length = w := by have := of_decide_eq_true h1; omega
      symm_saturate
      refine lc_map (fun c : Nat => D.str [c]) (fun c => .bl (decide (c ∈ [46, 35, 63]))) s (len_le (by omega)) (fun c hc K1 K0 h => ?_) ?_
      · refine ⟨l3, in_chT_ok c [46, 35, 63], ?_⟩
        rw [show inD (D.str [c]) (res _ (D.tup [D.str [46], D.str [35], D.str [63]])) = decide (c ∈ [46, 35, 63]) from in_chT c [46, 35, 63]]
        exact h
      · refine onO_intro (blsD_map _ s) ?_
        rw [List.all_map]
        have e : seenR w (.str s) = s.all (id ∘ fun c => decide (c ∈ [46, 35, 63])) := by simp [seenR, chrs, h1', Function.comp_def]
        rw [e] at hk
        exact hk
    · have e : seenR w (.str s) = false := by have := of_decide_eq_false h1; simp [seenR, show ¬ s.length = w from by omega]
      rw [e] at hk
      rw [h1]; exact hk
theorem call_is_seen_row {w : Nat} {d : D} (hw : w ≤ 1000) (h : d.pln = true) {S : Sto} {k : DK} (hk : k (.bl (seenR w d)) S) : callP F_is_seen_row [.int (w : Int), d] S k :=
  callP_intro (purC rfl (purC (pln_pur h) rfl)) (d := .bl _) rfl hk fun K hK => ⟨w, d, rfl, hw, h, hK⟩
def seenD (w : Nat) : D → Bool
  | .tup xs => decide (xs.length ≤ 40) && xs.all (seenR w)
  | _ => false
def F_is_seen : FSp := fun ds S k => ∃ (w : Nat) (d : D), ds = [.int (w : Int), d] ∧ w ≤ 1000 ∧ d.pln = true ∧ k (.bl (seenD w d)) S
theorem p_is_seen : ∀ ds S k, F_is_seen ds S k → b_is_seen F_is_seen_row (bodyK k) (entry 3 ds) S := by
  rintro _ S k ⟨w, d, rfl, hw, hd, hk⟩
  have hkd := pln_kind hd
  cases d with
  | own n => cases hkd
  | scr n => cases hkd
  | int i => exact ⟨rfl, hk⟩
  | bl b => exact ⟨rfl, hk⟩
  | non => exact ⟨rfl, hk⟩
  | str s => exact ⟨rfl, hk⟩
  | lst s => exact ⟨rfl, hk⟩
  | tup xs =>
    refine ⟨rfl, ?_⟩
    have hp : D.plnAll xs = true := by simpa [D.pln] using hd
    refine (show br (decide ((xs.length : Int) ≤ 40)) _ _ from ?_)
    refine br_intro (fun h2 => ?_) fun h2 => ?_
    · have h2' : xs.length ≤ 40 := by have := of_decide_eq_true h2; omega
      refine lc_mapD (fun d => .bl (seenR w d)) xs (len_le (by omega)) (fun d hdm K1 K0 h => call_is_seen_row hw (plnAll_mem hp d hdm) h) ?_
      refine onO_intro (blsD_map _ xs) ?_
      rw [List.all_map]
      have e : seenD w (.tup xs) = xs.all (id ∘ seenR w) := by simp [seenD, h2', Function.comp_def]
      rw [e] at hk
      exact hk
    · have e : seenD w (.tup xs) = false := by have := of_decide_eq_false h2; simp [seenD, show ¬ xs.length ≤ 40 from by omega]
      rw [e] at hk
      rw [h2]; exact hk
theorem call_is_seen {w : Nat} {d : D} (hw : w ≤ 1000) (h : d.pln = true) {S : Sto} {k : DK} (hk : k (.bl (seenD w d)) S) : callP F_is_seen [.int (w : Int), d] S k :=
  callP_intro (purC rfl (purC (pln_pur h) rfl)) (d := .bl _) rfl hk fun K hK => ⟨w, d, rfl, hw, h, hK⟩
def F_law_is_seen : FSp := fun ds S k => ∃ (w : Nat) (d : D), ds = [.int (w : Int), d] ∧ w ≤ 1000 ∧ d.pln = true ∧ k (.bl (seenD w d)) S
theorem p_law_is_seen : ∀ ds S k, F_law_is_seen ds S k → b_law_is_seen (bodyK k) (entry 4 ds) S := by
  rintro _ S k ⟨w, d, rfl, hw, hd, hk⟩
  have hkd := pln_kind hd
  cases d with
  | own n => cases hkd
  | scr n => cases hkd
  | int i => exact ⟨rfl, hk⟩
  | bl b => exact ⟨rfl, hk⟩
  | non => exact ⟨rfl, hk⟩
  | str s => exact ⟨rfl, hk⟩
  | lst s => exact ⟨rfl, hk⟩
  | tup xs =>
    refine ⟨rfl, ?_⟩
    have hp : D.plnAll xs = true := by simpa [D.pln] using hd
    rw [show ([Cl.tuple].any fun c => isC c (res S (D.tup xs))) = true from rfl]
    symm_saturate
    rw [Bool.not_true]
    symm_saturate
    refine br_intro (b := decide ((40 : Int) < (xs.length : Int))) (fun h2 => ?_) fun h2 => ?_
    · have e : seenD w (.tup xs) = false := by have := of_decide_eq_true h2; simp [seenD, show ¬ xs.length ≤ 40 from by omega]
      rw [e] at hk
      exact hk
    have h2' : xs.length ≤ 40 := by have := of_decide_eq_false h2; omega
    have e : seenD w (.tup xs) = xs.all (seenR w) := by simp [seenD, h2']
    rw [e] at hk
    symm_saturate
    rw [show xs = xs.map (fun d => d) by simp]
    refine forT_ind (fun d : D => d) (fun rest env s => s = S ∧ (∃ (a2 a3 : Option D), env = [some (.int (w : Int)), some (.tup (xs.map fun d => d)), a2, a3]) ∧ D.plnAll rest = true ∧ xs.all (seenR w) = rest.all (seenR w)) ?_ ?_ xs _ S ⟨rfl, ⟨_, _, rfl⟩, hp, rfl⟩
    · rintro _ _ ⟨rfl, ⟨a2, a3, rfl⟩, _, h⟩
      rw [h] at hk
      exact hk
    · rintro y rest _ S ⟨rfl, ⟨a2, a3, rfl⟩, hpr, h⟩ N hN
      simp only [D.plnAll, Bool.and_eq_true] at hpr
      rw [List.all_cons] at h
      have no : seenR w y = false → k (.bl false) S := fun h3 => by rw [h, h3, Bool.false_and] at hk; exact hk
      have hky := pln_kind hpr.1
      cases y with
      | own n => cases hky
      | scr n => cases hky
      | int i => exact ⟨rfl, no rfl⟩
      | bl b => exact ⟨rfl, no rfl⟩
      | non => exact ⟨rfl, no rfl⟩
      | tup s => exact ⟨rfl, no rfl⟩
      | lst s => exact ⟨rfl, no rfl⟩
      | str s =>
        refine ⟨rfl, ?_⟩
        rw [show ([Cl.str].any fun c => isC c (res S (D.str s))) = true from rfl]
        symm_saturate
        rw [Bool.not_true]
        symm_saturate
        refine ne_good (e := D.int) (b := (w : Int)) goodInt (by decide) rfl rfl ?_
        refine br_intro (b := !decide ((s.length : Int) = (w : Int))) (fun h3 => ?_) fun h3 => ?_
        · exact no (by have h4 : ¬ (s.length : Int) = (w : Int) := by simpa using h3
                       simp [seenR, show ¬ s.length = w from by omega])
        have h4 : s.length = w := by have h4 : (s.length : Int) = (w : Int) := by simpa using h3
                                     omega
        symm_saturate
        refine lc_pure (fun c : Nat => D.str [c]) (fun c => !decide (c ∈ [46, 35, 63])) (fun c => D.str [c]) s [] (len_le (by simp; omega)) (fun c hc K1 K0 h1 h2 => ?_) ?_
        · refine ⟨rfl, ?_⟩
          refine (show br (!decide (c ∈ [46, 35, 63])) _ _ from ?_)
          exact br_intro h1 h2
        rw [List.nil_append]
        refine ⟨l0, ?_⟩
        refine ne_nilD (plnAll_map (f := fun c : Nat => D.str [c]) (fun _ => rfl) _) ?_
        rw [map_empty, filter_empty]
        rw [show (s.all fun a => !(!decide (a ∈ [46, 35, 63]))) = chrs [46, 35, 63] s from by simp [chrs]]
        refine br_intro (b := !chrs [46, 35, 63] s) (fun h3 => ?_) fun h3 => ?_
        · exact no (by simp only [seenR]; rw [show chrs [46, 35, 63] s = false by simpa using h3, Bool.and_false])
        · refine hN _ _ ⟨rfl, ⟨_, _, rfl⟩, hpr.2, ?_⟩
          rw [h, show seenR w (.str s) = true by simp only [seenR]; rw [show chrs [46, 35, 63] s = true by simpa using h3, decide_eq_true h4]; rfl, Bool.true_and]
theorem call_law_is_seen {w : Nat} {d : D} (hw : w ≤ 1000) (h : d.pln = true) {S : Sto} {k : DK} (hk : k (.bl (seenD w d)) S) : callP F_law_is_seen [.int (w : Int), d] S k :=
  callP_intro (purC rfl (purC (pln_pur h) rfl)) (d := .bl _) rfl hk fun K hK => ⟨w, d, rfl, hw, h, hK⟩
end Dat
set_option Elab.async false
set_option linter.all false
set_option maxRecDepth 100000
set_option maxHeartbeats 2000000
set_option exponentiation.threshold 2000
/-! PlU: wishes: any thing. -/
namespace Dat
local macro_rules | `(tactic| symm_saturate) => `(tactic| with_reducible conv => whnf)
def signD : D → Bool
  | .str s => inD (.str s) (.tup [.str [46], .str [35]])
  | _ => false
def wishD : D → Bool
  | .tup [a, b, c] => btwD 0 1000 a && (btwD 0 7 b && signD c)
  | _ => false
theorem wishD_len {xs : List D} (h : xs.length ≠ 3) : wishD (.tup xs) = false := by
  match xs, h with
  | [], _ => rfl
  | [_], _ => rfl
  | [_, _], _ => rfl
  | _ :: _ :: _ :: _ :: _, _ => rfl
theorem in_sign_ok (s : List Nat) : InOk (.str s) (.tup [.str [46], .str [35]]) := ⟨rfl, rfl, .inl (by simp [D.dep])⟩
def F_is_wish : FSp := fun ds S k => ∃ d : D, ds = [d] ∧ d.pln = true ∧ k (.bl (wishD d)) S
theorem p_is_wish : ∀ ds S k, F_is_wish ds S k → b_is_wish F_is_between (bodyK k) (entry 1 ds) S := by
  rintro _ S k ⟨d, rfl, hd, hk⟩
  have hkd := pln_kind hd
  cases d with
  | own n => cases hkd
  | scr n => cases hkd
  | int i => exact ⟨rfl, hk⟩
  | bl b => exact ⟨rfl, hk⟩
  | non => exact ⟨rfl, hk⟩
  | str s => exact ⟨rfl, hk⟩
  | lst s => exact ⟨rfl, hk⟩
  | tup xs =>
    refine ⟨rfl, ?_⟩
    rw [show ([Cl.tuple].any fun c => isC c (res S (D.tup xs))) = true from rfl]
    symm_saturate
    rw [Bool.not_true]
    symm_saturate
    refine ne_good (e := D.int) (b := 3) goodInt (by decide) rfl rfl ?_
    by_cases hl : xs.length = 3
    · obtain ⟨a, b, c, rfl⟩ := len3 hl
      rw [show (!decide ((([a, b, c] : List D).length : Int) = 3)) = false from rfl]
      have hp : D.plnAll [a, b, c] = true := by simpa [D.pln] using hd
      have ha := plnAll_mem hp a (by simp)
      have hb := plnAll_mem hp b (by simp)
      have hc := plnAll_mem hp c (by simp)
      symm_saturate
      rw [show atI [a, b, c] 0 = some a from rfl]
      symm_saturate
      refine call_between ha ?_
      refine br_intro (b := !btwD 0 1000 a) (fun h => ?_) fun h => ?_
      · have e : wishD (.tup [a, b, c]) = false := by simp only [wishD]; rw [show btwD 0 1000 a = false by simpa using h]; rfl
        rw [e] at hk
        exact hk
      · have h' : btwD 0 1000 a = true := by simpa using h
        have e : wishD (.tup [a, b, c]) = (btwD 0 7 b && signD c) := by simp only [wishD]; rw [h']; rfl
        rw [e] at hk
        symm_saturate
        rw [show atI [a, b, c] 1 = some b from rfl]
        symm_saturate
        refine call_between hb ?_
        refine br_intro (b := btwD 0 7 b) (fun h2 => ?_) fun h2 => ?_
        · rw [h2, Bool.true_and] at hk
          symm_saturate
          rw [show atI [a, b, c] 2 = some c from rfl]
          symm_saturate
          have hkc := pln_kind hc
          cases c with
          | own n => cases hkc
          | scr n => cases hkc
          | int i => exact ⟨rfl, hk⟩
          | bl b => exact ⟨rfl, hk⟩
          | non => exact ⟨rfl, hk⟩
          | tup s => exact ⟨rfl, hk⟩
          | lst s => exact ⟨rfl, hk⟩
          | str s =>
            refine ⟨rfl, ?_⟩
            rw [show ([Cl.str].any fun c => isC c (res S (D.str s))) = true from rfl]
            symm_saturate
            rw [show atI [a, b, D.str s] 2 = some (.str s) from rfl]
            symm_saturate
            refine ⟨l2, in_sign_ok s, hk⟩
        · rw [h2, Bool.false_and] at hk
          refine (show k (.bl (btwD 0 7 b)) S from ?_)
          rw [h2]; exact hk
    · have : (!decide ((xs.length : Int) = 3)) = true := by simp; omega
      rw [this]
      rw [wishD_len hl] at hk
      exact hk
theorem call_is_wish {d : D} (h : d.pln = true) {S : Sto} {k : DK} (hk : k (.bl (wishD d)) S) : callP F_is_wish [d] S k :=
  callP_intro (purC (pln_pur h) rfl) (d := .bl _) rfl hk fun K hK => ⟨d, rfl, h, hK⟩
def keyW : D → Nat × Nat
  | .tup [.int a, .int b, _] => (a.toNat, b.toNat)
  | _ => (0, 0)
theorem wish_enc {d : D} (h : wishD d = true) : ∃ (n m : Nat) (c : D), d = .tup [.int (n : Int), .int (m : Int), c] ∧ keyW d = (n, m) := by
  cases d with
  | tup xs =>
    by_cases hl : xs.length = 3
    · obtain ⟨a, b, c, rfl⟩ := len3 hl
      simp only [wishD, Bool.and_eq_true] at h
      obtain ⟨i, rfl, i0, _⟩ := btw_int h.1
      obtain ⟨j, rfl, j0, _⟩ := btw_int h.2.1
      obtain ⟨i, rfl⟩ := Int.eq_ofNat_of_zero_le i0
      obtain ⟨j, rfl⟩ := Int.eq_ofNat_of_zero_le j0
      exact ⟨i, j, c, rfl, rfl⟩
    · rw [wishD_len hl] at h; cases h
  | _ => simp [wishD] at h
def wishesD : D → Bool
  | .tup xs => decide (xs.length ≤ 40) && (xs.all wishD && risesM (xs.map keyW))
  | _ => false
def F_are_wishes : FSp := fun ds S k => ∃ d : D, ds = [d] ∧ d.pln = true ∧ k (.bl (wishesD d)) S
theorem p_are_wishes : ∀ ds S k, F_are_wishes ds S k → b_are_wishes F_is_wish F_rises (bodyK k) (entry 2 ds) S := by
  rintro _ S k ⟨d, rfl, hd, hk⟩
  have hkd := pln_kind hd
  cases d with
  | own n => cases hkd
  | scr n => cases hkd
  | int i => exact ⟨rfl, hk⟩
  | bl b => exact ⟨rfl, hk⟩
  | non => exact ⟨rfl, hk⟩
  | str s => exact ⟨rfl, hk⟩
  | lst s => exact ⟨rfl, hk⟩
  | tup xs =>
    refine ⟨rfl, ?_⟩
    have hp : D.plnAll xs = true := by simpa [D.pln] using hd
    rw [show ([Cl.tuple].any fun c => isC c (res S (D.tup xs))) = true from rfl]
    symm_saturate
    rw [Bool.not_true]
    symm_saturate
    refine br_intro (b := decide ((40 : Int) < (xs.length : Int))) (fun h2 => ?_) fun h2 => ?_
    · have e : wishesD (.tup xs) = false := by have := of_decide_eq_true h2; simp [wishesD, show ¬ xs.length ≤ 40 from by omega]
      rw [e] at hk
      exact hk
    have h2' : xs.length ≤ 40 := by have := of_decide_eq_false h2; omega
    have e : wishesD (.tup xs) = (xs.all wishD && risesM (xs.map keyW)) := by simp [wishesD, h2']
    rw [e] at hk
    symm_saturate
    refine lc_mapD (fun d => .bl (wishD d)) xs (len_le (by omega)) (fun d hdm K1 K0 h => call_is_wish (plnAll_mem hp d hdm) h) ?_
    refine onO_intro (blsD_map _ xs) ?_
    rw [List.all_map]
    rw [show xs.all (id ∘ wishD) = xs.all wishD from rfl]
    refine br_intro (b := !xs.all wishD) (fun h3 => ?_) fun h3 => ?_
    · rw [show xs.all wishD = false by simpa using h3, Bool.false_and] at hk
      exact hk
    have h3' : xs.all wishD = true := by simpa using h3
    rw [h3', Bool.true_and] at hk
    symm_saturate
    refine lc_mapD (fun d => encC (keyW d)) xs (len_le (by omega)) (fun d hdm K1 K0 h => ?_) ?_
    · obtain ⟨n, m, c, rfl, ek⟩ := wish_enc (List.all_eq_true.mp h3' d hdm)
      rw [ek] at h
      exact h
    rw [show xs.map (fun d => encC (keyW d)) = (xs.map keyW).map encC by rw [List.map_map]; rfl]
    exact call_risesL (by rw [List.length_map]; omega) hk
theorem call_are_wishes {d : D} (h : d.pln = true) {S : Sto} {k : DK} (hk : k (.bl (wishesD d)) S) : callP F_are_wishes [d] S k :=
  callP_intro (purC (pln_pur h) rfl) (d := .bl _) rfl hk fun K hK => ⟨d, rfl, h, hK⟩
def F_law_are_wishes : FSp := fun ds S k => ∃ d : D, ds = [d] ∧ d.pln = true ∧ k (.bl (wishesD d)) S
theorem p_law_are_wishes : ∀ ds S k, F_law_are_wishes ds S k → b_law_are_wishes F_law_is_whole (bodyK k) (entry 3 ds) S := by
  rintro _ S k ⟨d, rfl, hd, hk⟩
  have hkd := pln_kind hd
  cases d with
  | own n => cases hkd
  | scr n => cases hkd
  | int i => exact ⟨rfl, hk⟩
  | bl b => exact ⟨rfl, hk⟩
  | non => exact ⟨rfl, hk⟩
  | str s => exact ⟨rfl, hk⟩
  | lst s => exact ⟨rfl, hk⟩
  | tup xs =>
    refine ⟨rfl, ?_⟩
    have hp : D.plnAll xs = true := by simpa [D.pln] using hd
    rw [show ([Cl.tuple].any fun c => isC c (res S (D.tup xs))) = true from rfl]
    symm_saturate
    rw [Bool.not_true]
    symm_saturate
    refine br_intro (b := decide ((40 : Int) < (xs.length : Int))) (fun h2 => ?_) fun h2 => ?_
    · have e : wishesD (.tup xs) = false := by have := of_decide_eq_true h2; simp [wishesD, show ¬ xs.length ≤ 40 from by omega]
      rw [e] at hk
      exact hk
    have h2' : xs.length ≤ 40 := by have := of_decide_eq_false h2; omega
    have e : wishesD (.tup xs) = (xs.all wishD && risesM (xs.map keyW)) := by simp [wishesD, h2']
    rw [e] at hk
    symm_saturate
    refine ⟨l2, ?_⟩
    symm_saturate
    rw [show xs = xs.map (fun d => d) by simp]
    refine forT_ind (fun d : D => d) (fun rest env s => s = S ∧ (∃ (a2 : Option D) (done : List D), env = [some (.tup (xs.map fun d => d)), some (lastD (done.map keyW)), a2] ∧ xs = done ++ rest ∧ done.all wishD = true ∧ risesM (done.map keyW) = true) ∧ D.plnAll rest = true) ?_ ?_ xs _ S ⟨rfl, ⟨_, [], rfl, rfl, rfl, rfl⟩, hp⟩
    · rintro _ S ⟨rfl, ⟨a2, done, rfl, h1, h2, h3⟩, _⟩
      rw [List.append_nil] at h1
      rw [h1, h2, h3] at hk
      exact hk
    · rintro y rest _ S ⟨rfl, ⟨a2, done, rfl, h1, h2, h3⟩, hpr⟩ N hN
      simp only [D.plnAll, Bool.and_eq_true] at hpr
      have no : wishD y = false → k (.bl false) S := fun h4 => by
        rw [h1, List.all_append, List.all_cons, h4, Bool.false_and, Bool.and_false, Bool.false_and] at hk; exact hk
      have no2 : risesM (done.map keyW ++ [keyW y]) = false → k (.bl false) S := fun h4 => by
        have e : risesM (xs.map keyW) = false := by
          cases hq : risesM (xs.map keyW) with
          | false => rfl
          | true =>
            rw [h1, List.map_append, List.map_cons, show keyW y :: rest.map keyW = [keyW y] ++ rest.map keyW from rfl, ← List.append_assoc] at hq
            rw [risesM_pre _ _ hq] at h4; cases h4
        rw [e, Bool.and_false] at hk; exact hk
      have hky := pln_kind hpr.1
      cases y with
      | own n => cases hky
      | scr n => cases hky
      | int i => exact ⟨rfl, no rfl⟩
      | bl b => exact ⟨rfl, no rfl⟩
      | non => exact ⟨rfl, no rfl⟩
      | str s => exact ⟨rfl, no rfl⟩
      | lst s => exact ⟨rfl, no rfl⟩
      | tup zs =>
        refine ⟨rfl, ?_⟩
        rw [show ([Cl.tuple].any fun c => isC c (res S (D.tup zs))) = true from rfl]
        symm_saturate
        rw [Bool.not_true]
        symm_saturate
        refine ne_good (e := D.int) (b := 3) goodInt (by decide) rfl rfl ?_
        by_cases hl : zs.length = 3
        · obtain ⟨a, b, c, rfl⟩ := len3 hl
          rw [show (!decide ((([a, b, c] : List D).length : Int) = 3)) = false from rfl]
          have hpz : D.plnAll [a, b, c] = true := by simpa [D.pln] using hpr.1
          have ha := plnAll_mem hpz a (by simp)
          have hb := plnAll_mem hpz b (by simp)
          have hc := plnAll_mem hpz c (by simp)
          symm_saturate
          rw [show atI [a, b, c] 0 = some a from rfl]
          symm_saturate
          refine call_law_is_whole ha ?_
          refine br_intro (b := !btwD 0 1000 a) (fun h => ?_) fun h => ?_
          · exact no (by simp only [wishD]; rw [show btwD 0 1000 a = false by simpa using h]; rfl)
          have h' : btwD 0 1000 a = true := by simpa using h
          symm_saturate
          rw [show atI [a, b, c] 1 = some b from rfl]
          symm_saturate
          refine call_law_is_whole hb ?_
          refine br_intro (b := !btwD 0 7 b) (fun h => ?_) fun h => ?_
          · exact no (by simp only [wishD]; rw [show btwD 0 7 b = false by simpa using h, Bool.false_and, Bool.and_false])
          have h'' : btwD 0 7 b = true := by simpa using h
          symm_saturate
          rw [show atI [a, b, c] 2 = some c from rfl]
          symm_saturate
          have hkc := pln_kind hc
          have noc : signD c = false → k (.bl false) S := fun h5 => no (by simp only [wishD]; rw [h5, Bool.and_false, Bool.and_false])
          cases c with
          | own n => cases hkc
          | scr n => cases hkc
          | int i => exact ⟨rfl, noc rfl⟩
          | bl b => exact ⟨rfl, noc rfl⟩
          | non => exact ⟨rfl, noc rfl⟩
          | tup s => exact ⟨rfl, noc rfl⟩
          | lst s => exact ⟨rfl, noc rfl⟩
          | str s =>
            refine ⟨rfl, ?_⟩
            rw [show ([Cl.str].any fun c => isC c (res S (D.str s))) = true from rfl]
            symm_saturate
            rw [Bool.not_true]
            symm_saturate
            rw [show atI [a, b, D.str s] 2 = some (.str s) from rfl]
            symm_saturate
            refine ⟨l2, in_sign_ok s, ?_⟩
            refine br_intro (b := !signD (.str s)) (fun h => ?_) fun h => ?_
            · exact noc (by simpa using h)
            have hs' : signD (.str s) = true := by simpa using h
            obtain ⟨i, rfl, i0, _⟩ := btw_int h'
            obtain ⟨j, rfl, j0, _⟩ := btw_int h''
            obtain ⟨i, rfl⟩ := Int.eq_ofNat_of_zero_le i0
            obtain ⟨j, rfl⟩ := Int.eq_ofNat_of_zero_le j0
            obtain ⟨p, q, el, ex⟩ := lt_last (i, j) h3
            symm_saturate
            rw [el]
            rw [show cut [D.int (i : Int), D.int (j : Int), D.str s] none (some 2) = [.int (i : Int), .int (j : Int)] from rfl]
            symm_saturate
            rw [show intsD [D.int p, D.int q] = some [p, q] from rfl]
            symm_saturate
            rw [show intsD [D.int (i : Int), D.int (j : Int)] = some [(i : Int), (j : Int)] from rfl]
            symm_saturate
            rw [ex]
            refine br_intro (b := !risesM (done.map keyW ++ [(i, j)])) (fun h => ?_) fun h => ?_
            · exact no2 (by simpa [keyW] using h)
            have hr' : risesM (done.map keyW ++ [(i, j)]) = true := by simpa using h
            have hw : wishD (.tup [.int (i : Int), .int (j : Int), .str s]) = true := by simp only [wishD]; rw [h', h'', hs']; rfl
            have el2 : lastD ((done ++ [D.tup [.int (i : Int), .int (j : Int), .str s]]).map keyW) = .tup [.int (i : Int), .int (j : Int)] := by simp [lastD, keyW, encC]
            exact hN _ _ ⟨rfl, ⟨some (.tup [.int (i : Int), .int (j : Int), .str s]), done ++ [.tup [.int (i : Int), .int (j : Int), .str s]], by rw [el2]; rfl, by rw [h1, List.append_assoc]; rfl, by rw [List.all_append, h2]; simp [hw], by rw [List.map_append]; exact hr'⟩, hpr.2⟩
        · have e : (!decide ((zs.length : Int) = 3)) = true := by simp; omega
          rw [e]
          exact no (wishD_len hl)
theorem call_law_are_wishes {d : D} (h : d.pln = true) {S : Sto} {k : DK} (hk : k (.bl (wishesD d)) S) : callP F_law_are_wishes [d] S k :=
  callP_intro (purC (pln_pur h) rfl) (d := .bl _) rfl hk fun K hK => ⟨d, rfl, h, hK⟩
end Dat
set_option Elab.async false
set_option linter.all false
set_option maxRecDepth 100000
set_option maxHeartbeats 4000000
set_option exponentiation.threshold 2000
/-! PlV: k01's body. -/
namespace Dat
local macro_rules | `(tactic| symm_saturate) => `(tactic| with_reducible conv => whnf)
theorem fit_goodQ {m n : Nat} {d : D} (h : goodQ m d) (hmn : m ≤ n) : d.fit n = true := by
  obtain ⟨xs, e, h1, h2⟩ := h
  rcases e with rfl | rfl
  · exact fit_seq.mpr ⟨by omega, fun x hx => fit_mono hmn (h2 x hx)⟩
  · exact fit_tup.mpr ⟨by omega, fun x hx => fit_mono hmn (h2 x hx)⟩
def F_law_bent : FSp := fun ds S k => ∃ (xs : List D) (d : Nat), ds = [.own 0, .tup xs, .int (d : Int)] ∧ d ≤ 1 ∧ xs.length ≤ 64 ∧ (∀ x ∈ xs, x.fit 64 = true) ∧ Drw S 0 ∧ S.length = 1 ∧ ∀ ys S', ys.length ≤ 10 → (∀ y ∈ ys, y.fit 500 = true) → Drw S' 0 → S'.length = 1 → k (.lst ys) S'
theorem p_law_bent : ∀ ds S k, F_law_bent ds S k → b_law_bent (F_law_otherwise 1) (F_law_thing 3) (bodyK k) (entry 5 ds) S := by
  rintro _ S k ⟨xs, d, rfl, hd1, hxl, hxf, hd, hl, hk⟩
  have hq : goodQ 64 (.tup xs) := ⟨xs, .inr rfl, hxl, hxf⟩
  have up : ∀ x ∈ xs, x.fit 500 = true := fun x hx => fit_mono (by decide) (hxf x hx)
  symm_saturate
  refine call_otherwise (n := 1) (m := 64) hd hd1 hq (by decide) (by decide) fun once S2 hon hd2 st2 => ?_
  symm_saturate
  refine ⟨len_le (by have := len_cut xs none (some 1); omega), ?_⟩
  symm_saturate
  refine call_thing (n := 3) (d := 3) hd2 (by decide) fun x3 S3 hx3 hd3 st3 => ?_
  have hl3 : S3.length = 1 := st3.1.trans (st2.1.trans hl)
  symm_saturate
  refine ⟨len_le (by simp), ?_⟩
  symm_saturate
  refine ⟨l0, ?_⟩
  refine ⟨l0, ?_⟩
  refine ⟨l2, ?_⟩
  have fin : ∀ y S4, y.fit 500 = true → Drw S4 0 → S4.length = 1 → k (.lst ([.tup xs, once, .lst xs, .tup (cut xs (some 1) none), .tup (xs ++ cut xs none (some 1)), x3] ++ [y])) S4 := by
    intro y S4 hy hd4 hl4
    refine hk _ _ (by simp) (fun z hz => ?_) hd4 hl4
    simp only [List.cons_append, List.nil_append, List.mem_cons, List.not_mem_nil, or_false] at hz
    rcases hz with rfl | rfl | rfl | rfl | rfl | rfl | rfl
    · exact fit_goodQ hq (by decide)
    · exact fit_goodQ hon (by decide)
    · exact fit_seq.mpr ⟨by omega, up⟩
    · exact fit_tup.mpr ⟨by have := len_cut xs (some 1) none; omega, fun x hx => up x (mem_cut hx)⟩
    · refine fit_tup.mpr ⟨by rw [List.length_append]; have := len_cut xs none (some 1); omega, fun x hx => ?_⟩
      rcases List.mem_append.mp hx with hx | hx
      · exact up x hx
      · exact up x (mem_cut hx)
    · exact fit_mono (by decide) hx3
    · exact hy
  symm_saturate
  refine ⟨⟨fit_pln (fit_goodQ hon (Nat.le_refl _)), rfl, .inr (by decide)⟩, ?_⟩
  symm_saturate
  refine br_intro (fun _ => ?_) fun _ => ?_
  · symm_saturate
    refine call_otherwise (n := 1) (m := 65) hd3 hd1 hon (by decide) (by decide) fun y S4 hy hd4 st4 => ?_
    exact ⟨l1, len_le (by simp), fin y S4 (fit_goodQ hy (by decide)) hd4 (st4.1.trans hl3)⟩
  · exact ⟨l1, len_le (by simp), fin once S3 (fit_goodQ hon (by decide)) hd3 hl3⟩
theorem call_bent {n d : Nat} {xs : List D} {S : Sto} {k : DK} (h : Drw S n) (hd : d ≤ 1) (hl : xs.length ≤ 64) (hf : ∀ x ∈ xs, x.fit 64 = true) (hk : ∀ ys S', ys.length ≤ 10 → (∀ y ∈ ys, y.fit 500 = true) → Drw S' n → Stp n S S' → k (.lst ys) S') : callM F_law_bent [.own n, .tup xs, .int (d : Int)] S k :=
  callM_intro h (purC (pln_pur (fit_pln (fit_tup.mpr ⟨hl, hf⟩))) rfl) (fun y => ∃ ys, y = .lst ys ∧ ys.length ≤ 10 ∧ ∀ y ∈ ys, y.fit 500 = true) (fun S1 hdr hl1 K hK => ⟨xs, d, rfl, hd, hl, hf, hdr, hl1, fun ys S' h1 h2 h3 h4 => hK _ _ ⟨ys, rfl, h1, h2⟩ h3 h4⟩)
    (fun y hy => by obtain ⟨ys, rfl, h1, h2⟩ := hy; exact pln_pur (fit_pln (fit_seq.mpr ⟨Nat.le_trans h1 (by decide), h2⟩))) fun y S' hy hd' hs => by obtain ⟨ys, rfl, h1, h2⟩ := hy; exact hk ys S' h1 h2 hd' hs
theorem loop_truly {A B : DTE} {i : Nat} {E : DEnds} {S : Sto} {Q : Env → Prop} : ∀ (all : List D) (env : Env), Q env → (∀ z ∈ all, ∀ env, Q env → Q (setE env i z) ∧ ∃ b : Bool, (∀ K : DK, K (.bl b) S → A (setE env i z) S K) ∧ (∀ K : DK, K (.bl b) S → B (setE env i z) S K)) → (∀ env, Q env → E.nx env S) →
    forT (gName i) (sIf (tNot (tTru (dCall F_law_truly (aCons A (aCons B aNil))))) (sRet (dC (.bl false))) sNext) E all env S
  | [], env, h0, _, hk => hk env h0
  | z :: all, env, h0, h, hk => by
    obtain ⟨h1, b, hA, hB⟩ := h z (List.mem_cons_self ..) env h0
    refine hA _ ?_
    refine hB _ ?_
    refine call_truly ?_
    rw [decide_eq_true rfl]
    exact loop_truly all _ h1 (fun y hy => h y (List.mem_cons_of_mem _ hy)) hk
end Dat
set_option Elab.async false
set_option linter.all false
set_option maxRecDepth 100000
set_option maxHeartbeats 4000000
set_option exponentiation.threshold 2000
/-! PlW: k01's body. -/
namespace Dat
local macro_rules | `(tactic| symm_saturate) => `(tactic| with_reducible conv => whnf)
theorem turns20 (l : Nat) : ∃ m : Nat, m ≤ 20 ∧ (if (if (l : Int) < 20 then (l : Int) else 20) > 1 then (if (l : Int) < 20 then (l : Int) else 20) else 1) = (m : Int) :=
  ⟨(if (if (l : Int) < 20 then (l : Int) else 20) > 1 then (if (l : Int) < 20 then (l : Int) else 20) else 1).toNat, by (repeat' split) <;> omega, by (repeat' split) <;> omega⟩
theorem fit_encS {s : Sheet} (h : s.ok) : ∀ x ∈ [D.str (s.pat.map sgn), .int s.pace, .int s.first], x.fit 64 = true := by
  intro x hx
  simp only [List.mem_cons, List.not_mem_nil, or_false] at hx
  rcases hx with rfl | rfl | rfl
  · simp only [D.fit, Bool.and_eq_true, decide_eq_true_eq, List.length_map, List.all_eq_true]
    refine ⟨by have := h.2.1; omega, fun c hc => ?_⟩
    obtain ⟨b, _, rfl⟩ := List.mem_map.mp hc
    cases b <;> decide
  · rfl
  · rfl
theorem fit_S {s : Sheet} (h : s.ok) {m : Nat} (hm : 64 ≤ m) : (encS s).fit m = true := fit_tup.mpr ⟨by simp only [List.length_cons, List.length_nil]; omega, fun x hx => fit_mono hm (fit_encS h x hx)⟩
theorem hlsF {d : D} (h : d.fit 500 = true) : ∀ ys, d = .tup ys → ∀ y ∈ ys, ∀ s xs, y = .tup (.str s :: xs) → s.length ≤ 1000 := by
  rintro ys rfl y hy s xs rfl
  have h1 := (fit_tup.mp ((fit_tup.mp h).2 _ hy)).2 (.str s) (List.mem_cons_self ..)
  simp only [D.fit, Bool.and_eq_true, decide_eq_true_eq] at h1
  omega
theorem hlF {d : D} (h : d.fit 500 = true) : ∀ s xs, d = .tup (.str s :: xs) → s.length ≤ 1000 := by
  rintro s xs rfl
  have h1 := (fit_tup.mp h).2 (.str s) (List.mem_cons_self ..)
  simp only [D.fit, Bool.and_eq_true, decide_eq_true_eq] at h1
  omega
theorem mem_repL {α : Type} {k : Nat} {xs : List α} {x : α} (h : x ∈ repL k xs) : x ∈ xs := by
  unfold repL at h
  obtain ⟨l, hl, hx⟩ := List.mem_flatten.mp h
  rw [(List.mem_replicate.mp hl).2] at hx; exact hx
theorem len_repL {α : Type} (k : Nat) (xs : List α) : (repL k xs).length = k * xs.length := by
  unfold repL
  induction k with
  | zero => simp
  | succ k ih => rw [List.replicate_succ, List.flatten_cons, List.length_append, ih]; rw [Nat.add_mul, Nat.one_mul, Nat.add_comm]
theorem fit_strR {k c m : Nat} (h : k ≤ m) (hc : c < 128) : (D.str (repL k [c])).fit m = true := by
  simp only [D.fit, Bool.and_eq_true, decide_eq_true_eq, List.all_eq_true]
  refine ⟨by rw [len_repL]; simpa using h, fun x hx => ?_⟩
  rw [List.mem_singleton.mp (mem_repL hx)]; exact hc
theorem fit_tupR {k m : Nat} {d : D} (h : k ≤ m) (hd : d.fit m = true) : (D.tup (repL k [d])).fit m = true :=
  fit_tup.mpr ⟨by rw [len_repL]; simpa using h, fun x hx => by rw [List.mem_singleton.mp (mem_repL hx)]; exact hd⟩
theorem intsD_map : ∀ l : List Int, intsD (l.map D.int) = some l
  | [] => rfl
  | i :: l => by simp only [List.map_cons, intsD, intsD_map l, Option.map_some]
theorem intsT_map : ∀ l : List (List Int), intsT (l.map tupI) = some l
  | [] => rfl
  | n :: l => by simp only [List.map_cons, tupI, intsT, intsD_map n, Option.bind_some]; rw [show (l.map fun ns => D.tup (ns.map D.int)) = l.map tupI from rfl, intsT_map l]; rfl
def F_law_k01 : FSp := fun ds S k => ∃ ns : List Int, ds = [.scr ns] ∧ ns.length ≤ 63 ∧ ∀ S', k (.bl true) S'
theorem p_law_k01 : ∀ ds S k, F_law_k01 ds S k → b_law_k01 F_law_draws F_law_sheet F_law_stack F_law_bent F_law_truly F_law_is_sheet F_is_sheet F_law_is_stack F_is_stack F_law_draw F_law_of F_law_is_seen F_is_seen F_law_are_wishes F_are_wishes (bodyK k) (entry 15 ds) S := by
  rintro _ S k ⟨ns, rfl, hl, hk⟩
  symm_saturate
  obtain ⟨m, hm, em⟩ := turns20 ns.length
  rw [em]
  refine ⟨⟨by omega, by omega⟩, ?_⟩
  rw [rng_map]
  refine forT_ind (fun (i : Nat) => D.int (i : Int)) (fun rest env _ => (∀ x ∈ rest, x < 20) ∧ ∃ (a1 a2 a3 a4 a5 a6 a7 a8 a9 a10 a11 a12 a13 a14 : Option D), env = [some (.scr ns), a1, a2, a3, a4, a5, a6, a7, a8, a9, a10, a11, a12, a13, a14]) ?_ ?_ _ _ S
    ⟨fun x hx => by have := List.mem_range.mp hx; omega, _, _, _, _, _, _, _, _, _, _, _, _, _, _, rfl⟩
  · intro _ S _
    exact hk S
  rintro c rest _ S0 ⟨hc, a1, a2, a3, a4, a5, a6, a7, a8, a9, a10, a11, a12, a13, a14, rfl⟩ N hN
  have hc8 := hc c (List.mem_cons_self ..)
  have done : ∀ (env : Env) (s : Sto), (∃ (a1 a2 a3 a4 a5 a6 a7 a8 a9 a10 a11 a12 a13 a14 : Option D), env = [some (.scr ns), a1, a2, a3, a4, a5, a6, a7, a8, a9, a10, a11, a12, a13, a14]) → N env s := fun env s h => hN _ _ ⟨fun x hx => hc x (List.mem_cons_of_mem _ hx), h⟩
  refine call_draws hl (by omega) fun i j hij => ?_
  have hd0 := drw_push (S := S0) hij
  generalize (S0 ++ [MO.lst [.int i, .int j]]) = S1 at hd0 ⊢
  generalize S0.length = n at hd0 ⊢
  symm_saturate
  refine call_sheet hd0 (by decide) (by decide) fun sh S2 hsh hd2 _ => ?_
  symm_saturate
  refine call_stack hd2 (by decide) (by decide) (by decide) (by decide) fun st S3 hst hd3 _ => ?_
  have hs := hst.ok (by decide)
  have hst4 : st.length ≤ 4 := by have := hst.2.2; omega
  symm_saturate
  refine ⟨⟨by decide, by decide, by decide⟩, ?_⟩
  refine ⟨l3, ?_⟩
  refine ⟨⟨by decide, by decide, by decide⟩, ?_⟩
  refine ⟨l3, ?_⟩
  refine ⟨l3, ?_⟩
  refine ⟨l3, ?_⟩
  refine ⟨l3, ?_⟩
  refine ⟨l3, ?_⟩
  refine ⟨l3, ?_⟩
  refine ⟨len_le (by simp), ?_⟩
  symm_saturate
  refine call_bent (d := 0) hd3 (by decide) (by simp) (fit_encS hsh.1) fun ys S4 hyl hyf hd4 _ => ?_
  symm_saturate
  refine ⟨len_le (by simp only [List.length_cons, List.length_nil]; omega), ?_⟩
  symm_saturate
  refine ⟨l3, ?_⟩
  refine ⟨l1, ?_⟩
  symm_saturate
  refine ⟨len_le (by simp only [List.length_append, List.length_cons, List.length_nil]; omega), ?_⟩
  have hall : ∀ z ∈ ys ++ [D.tup [.str (repL 10 [46]), .int 10, .int 9], .tup [.str (repL 11 [46]), .int 0, .int 0], .tup [.str [46], .int (-11), .int 0], .tup [.str [46], .int 11, .int 0], .tup [.str [46, 46], .int 0, .int 2], .tup [.str [], .int 0, .int 0], .tup [.str [46], .bl true, .int 0]] ++ [D.tup [.str [46, 63], .int 0, .int 0]], z.fit 500 = true := by
    intro z hz
    rw [List.append_assoc] at hz
    rcases List.mem_append.mp hz with hz | hz
    · exact hyf z hz
    · exact fitAll_iff.mp (by decide +kernel) z hz
  refine loop_truly (Q := fun env => ∃ a6, env = [some (.scr ns), some (.int (c : Int)), some (.own n), some (encS sh), some (encSt st), some (.lst [D.tup [.str (repL 10 [46]), .int 10, .int 9], .tup [.str (repL 11 [46]), .int 0, .int 0], .tup [.str [46], .int (-11), .int 0], .tup [.str [46], .int 11, .int 0], .tup [.str [46, 46], .int 0, .int 2], .tup [.str [], .int 0, .int 0], .tup [.str [46], .bl true, .int 0]]), a6, a7, a8, a9, a10, a11, a12, a13, a14]) _ _ ⟨_, rfl⟩ (fun z hz env he => ?_) fun env he => ?_
  · obtain ⟨a6, rfl⟩ := he
    have hf := hall z hz
    exact ⟨⟨_, rfl⟩, sheetD z, fun K hK => call_is_sheet (fit_pln hf) hK, fun K hK => call_law_is_sheet (fit_pln hf) (hlF hf) hK⟩
  obtain ⟨b6, rfl⟩ := he
  clear hall hyf hyl ys
  symm_saturate
  have hsf : ∀ x ∈ st.map encS, x.fit 64 = true := fun x hx => by
    obtain ⟨s, hs1, rfl⟩ := List.mem_map.mp hx
    exact fit_S (hst.1 s hs1).1 (Nat.le_refl _)
  have hsm : (st.map encS).length ≤ 4 := by rw [List.length_map]; exact hst4
  refine call_bent (d := 1) hd4 (by decide) (by omega) hsf fun ys S5 hyl hyf hd5 _ => ?_
  symm_saturate
  have hne : st.map encS ≠ [] := fun h => hst.2.1 (List.map_eq_nil_iff.mp h)
  refine ⟨⟨by decide, by decide, by omega, hne⟩, ?_⟩
  symm_saturate
  refine ⟨⟨by decide, by decide, by omega, hne⟩, ?_⟩
  symm_saturate
  refine ⟨l0, ?_⟩
  refine ⟨l4, ?_⟩
  symm_saturate
  refine ⟨len_le (by simp only [List.length_cons, List.length_nil]; omega), ?_⟩
  have hall : ∀ z ∈ ys ++ [D.tup (cut (repL (5 : Int).toNat (st.map encS)) none (some 4)), .tup (cut (repL (5 : Int).toNat (st.map encS)) none (some 5)), .tup [], encS sh], z.fit 500 = true := by
    intro z hz
    rcases List.mem_append.mp hz with hz | hz
    · exact hyf z hz
    · have hc : ∀ lo hi, (D.tup (cut (repL (5 : Int).toNat (st.map encS)) lo hi)).fit 500 = true := fun lo hi =>
        fit_tup.mpr ⟨Nat.le_trans (len_cut (repL (5 : Int).toNat (st.map encS)) lo hi) (by rw [len_repL]; exact Nat.le_trans (Nat.mul_le_mul_left _ hsm) (by decide)), fun x hx => fit_mono (by decide) (hsf x (mem_repL (mem_cut hx)))⟩
      simp only [List.mem_cons, List.not_mem_nil, or_false] at hz
      rcases hz with rfl | rfl | rfl | rfl
      · exact hc _ _
      · exact hc _ _
      · rfl
      · exact fit_S hsh.1 (by decide)
  refine loop_truly (Q := fun env => ∃ a5 a6, env = [some (.scr ns), some (.int (c : Int)), some (.own n), some (encS sh), some (encSt st), a5, a6, a7, a8, a9, a10, a11, a12, a13, a14]) _ _ ⟨_, _, rfl⟩ (fun z hz env he => ?_) fun env he => ?_
  · obtain ⟨a5, a6, rfl⟩ := he
    have hf := hall z hz
    exact ⟨⟨_, _, rfl⟩, stackD z, fun K hK => call_is_stack (fit_pln hf) hK, fun K hK => call_law_is_stack (fit_pln hf) (hlsF hf) hK⟩
  obtain ⟨b5, b6, rfl⟩ := he
  clear hall hyf hyl ys
  symm_saturate
  refine call_draw hd5 (by decide) (by decide) fun w S6 w0 w1 hd6 _ => ?_
  obtain ⟨w, rfl⟩ := Int.eq_ofNat_of_zero_le w0
  symm_saturate
  have ew : (1 : Int) + (w : Int) = ((1 + w : Nat) : Int) := by omega
  rw [ew]
  have hw8 : 1 + w ≤ 8 := by omega
  have hw1 : 1 ≤ 1 + w := by omega
  generalize 1 + w = w at hw8 hw1 ⊢
  refine call_draw hd6 (by decide) (by decide) fun q S7 q0 q1 hd7 _ => ?_
  obtain ⟨q, rfl⟩ := Int.eq_ofNat_of_zero_le q0
  symm_saturate
  refine ⟨⟨by omega, by omega⟩, ?_⟩
  rw [rng_map]
  refine lc_inv_map (fun (i : Nat) => D.int (i : Int)) (fun S => Drw S n) (fun y => y.fit 64 = true) (List.range q) [] S7 (by rw [List.length_range]; exact len_le (by simp; omega)) hd7 (fun y hy => nomatch hy) (fun i hi S8 hd8 K1 K0 hK => ?_) fun rows S9 hd9 hly hys => ?_
  · symm_saturate
    refine ⟨⟨by omega, by omega⟩, ?_⟩
    rw [rng_map]
    refine lc_inv_map (fun (i : Nat) => D.int (i : Int)) (fun S => Drw S n) (fun y => ∃ c : Nat, y = .str [c] ∧ c < 128) (List.range w) [] S8 (by rw [List.length_range]; exact len_le (by simp; omega)) hd8 (fun y hy => nomatch hy) (fun i hi S9 hd9 K1 K0 hK2 => ?_) fun row S10 hd10 hlr hyr => ?_
    · symm_saturate
      refine call_ofS hd9 (by simp) (by simp) fun ch S11 hch hd11 _ => ?_
      refine hK2 _ _ ⟨ch, rfl, ?_⟩ hd11
      simp only [List.mem_cons, List.not_mem_nil, or_false] at hch
      omega
    · obtain ⟨cs, rfl, hcs⟩ := all_enc (enc := fun c : Nat => D.str [c]) (Q := fun c => c < 128) hyr
      have hlc : cs.length = w := by simpa using hlr
      refine onO_intro (strsD_map (fun c : Nat => [c]) cs) ⟨?_, ?_⟩
      · have : ∀ l : List Nat, ((l.map fun b => [b]).map (·.length)).sum = l.length := fun l => by
          induction l with
          | nil => rfl
          | cons a l ih => simp only [List.map_cons, List.sum_cons, ih, List.length_cons, List.length_nil]; omega
        rw [this]
        exact len_le (by simp; omega)
      · refine (show K1 (.str (joinS [] (cs.map fun c => [c]))) S10 from ?_)
        rw [joinS_nil_ones]
        refine hK _ _ ?_ hd10
        simp only [D.fit, Bool.and_eq_true, decide_eq_true_eq, List.all_eq_true]
        exact ⟨by omega, fun c hc => hcs c hc⟩
  have hlq : rows.length ≤ 4 := by have : rows.length = q := by simpa using hly
                                   omega
  symm_saturate
  refine call_bent (d := 0) hd9 (by decide) (by omega) hys fun ys S10 hyl hyf hd10 _ => ?_
  symm_saturate
  refine ⟨⟨by omega, by omega, by decide⟩, ?_⟩
  refine ⟨l1, ?_⟩
  refine ⟨⟨by decide, by decide, by simp, by simp⟩, ?_⟩
  symm_saturate
  refine ⟨⟨by omega, by omega, by decide⟩, ?_⟩
  refine ⟨l1, ?_⟩
  refine ⟨⟨by decide, by decide, by simp, by simp⟩, ?_⟩
  symm_saturate
  refine ⟨⟨by omega, by omega, by decide⟩, ?_⟩
  refine ⟨l1, ?_⟩
  symm_saturate
  refine ⟨⟨by omega, by omega, by decide⟩, ?_⟩
  refine ⟨l1, ?_⟩
  refine ⟨l4, ?_⟩
  symm_saturate
  refine ⟨len_le (by simp only [List.length_cons, List.length_nil]; omega), ?_⟩
  have hall : ∀ z ∈ ys ++ [D.tup (repL (40 : Int).toNat [D.str (repL (w : Int).toNat [63])]), .tup (repL (41 : Int).toNat [D.str (repL (w : Int).toNat [63])]), .tup [D.str (repL ((w : Int) + 1).toNat [63])], .tup [D.str (repL (w : Int).toNat [111])]], z.fit 500 = true := by
    intro z hz
    rcases List.mem_append.mp hz with hz | hz
    · exact hyf z hz
    · simp only [List.mem_cons, List.not_mem_nil, or_false] at hz
      rcases hz with rfl | rfl | rfl | rfl
      · exact fit_tupR (by decide) (fit_strR (by omega) (by decide))
      · exact fit_tupR (by decide) (fit_strR (by omega) (by decide))
      · exact fit_tup.mpr ⟨by simp, fun x hx => by rw [List.mem_singleton.mp hx]; exact fit_strR (by omega) (by decide)⟩
      · exact fit_tup.mpr ⟨by simp, fun x hx => by rw [List.mem_singleton.mp hx]; exact fit_strR (by omega) (by decide)⟩
  refine loop_truly (Q := fun env => ∃ a5 a6, env = [some (.scr ns), some (.int (c : Int)), some (.own n), some (encS sh), some (encSt st), a5, a6, some (.int (w : Int)), some (.tup rows), a9, a10, a11, a12, a13, a14]) _ _ ⟨_, _, rfl⟩ (fun z hz env he => ?_) fun env he => ?_
  · obtain ⟨a5, a6, rfl⟩ := he
    have hf := hall z hz
    exact ⟨⟨_, _, rfl⟩, seenD w z, fun K hK => call_is_seen (by omega) (fit_pln hf) hK, fun K hK => call_law_is_seen (by omega) (fit_pln hf) hK⟩
  obtain ⟨c5, c6, rfl⟩ := he
  clear hall hyf hyl ys
  symm_saturate
  unfold dSortSetT
  symm_saturate
  refine ⟨⟨by decide, by decide⟩, ?_⟩
  rw [show (4 : Int) = ((4 : Nat) : Int) from rfl, rng_map]
  refine lc_inv (fun (i : Nat) => D.int (i : Int)) (fun S => Drw S n) (fun y => ∃ p : List Int, y = tupI p ∧ (p.length = 2 ∧ ∀ m ∈ p, 0 ≤ m ∧ m < 1000000)) (List.range 4) [] S10 (len_le (by simp)) hd10 (fun y hy => nomatch hy) (fun i hi S11 hd11 K1 K0 h1 h0 => ?_) fun ys S12 hd12 hly2 hys2 => ?_
  · symm_saturate
    refine call_draw hd11 (by decide) (by decide) fun z S13 z0 z1 hd13 _ => ?_
    symm_saturate
    refine ⟨l4, ?_⟩
    refine call_of hd13 (by simp) (by simp) (fun d hd => by simp only [List.mem_cons, List.not_mem_nil, or_false] at hd; rcases hd with rfl | rfl | rfl | rfl <;> rfl) fun v S14 hv hd14 _ => ?_
    symm_saturate
    refine call_draw hd14 (by decide) (by decide) fun z2 S15 z20 z21 hd15 _ => ?_
    refine ⟨l2, ?_⟩
    obtain ⟨vi, rfl, v0, v1⟩ : ∃ vi : Int, v = .int vi ∧ 0 ≤ vi ∧ vi < 1000000 := by
      simp only [List.mem_cons, List.not_mem_nil, or_false] at hv
      rcases hv with rfl | rfl | rfl | rfl
      · exact ⟨_, rfl, by decide, by decide⟩
      · exact ⟨_, rfl, by decide, by decide⟩
      · exact ⟨_, rfl, by decide, by decide⟩
      · exact ⟨_, rfl, by omega, by omega⟩
    refine h1 _ _ ⟨[vi, z2], rfl, rfl, fun m hm => ?_⟩ hd15
    simp only [List.mem_cons, List.not_mem_nil, or_false] at hm
    rcases hm with rfl | rfl
    · exact ⟨v0, v1⟩
    · exact ⟨z20, by omega⟩
  obtain ⟨nss, rfl, hnss⟩ := all_enc (enc := tupI) (Q := fun p : List Int => p.length = 2 ∧ ∀ m ∈ p, 0 ≤ m ∧ m < 1000000) hys2
  refine onO_intro (intsT_map nss) ⟨⟨by simp at hly2; omega, 2, by decide, hnss⟩, fun ms hnd hms hml => ?_⟩
  symm_saturate
  refine lc_inv_map tupI (fun S => Drw S n) (fun y => y.fit 64 = true) ms [] S12 (len_le (by simp; omega)) hd12 (fun y hy => nomatch hy) (fun p hp S13 hd13 K1 K0 hK => ?_) fun ws S14 hd14 hlw hws => ?_
  · symm_saturate
    refine call_ofS hd13 (by simp) (by simp) fun ch S14 hch hd14 _ => ?_
    refine ⟨l1, ?_⟩
    have hp2 := hnss p ((hms p).mp hp)
    symm_saturate
    refine ⟨len_le (by rw [List.length_map]; simp only [List.length_cons, List.length_nil]; omega), ?_⟩
    refine hK _ _ (fit_tup.mpr ⟨by rw [List.length_append, List.length_map]; simp only [List.length_cons, List.length_nil]; omega, fun x hx => ?_⟩) hd14
    rcases List.mem_append.mp hx with hx | hx
    · obtain ⟨i, _, rfl⟩ := List.mem_map.mp hx
      rfl
    · rw [List.mem_singleton.mp hx]
      simp only [List.mem_cons, List.not_mem_nil, or_false] at hch
      rcases hch with rfl | rfl <;> rfl
  have hlw' : ws.length ≤ 64 := by have : ws.length = ms.length := by simpa using hlw
                                   omega
  symm_saturate
  refine ⟨l3, ?_⟩
  refine ⟨l1, ?_⟩
  refine ⟨l3, ?_⟩
  refine ⟨l1, ?_⟩
  refine ⟨l3, ?_⟩
  refine ⟨l1, ?_⟩
  refine ⟨l3, ?_⟩
  refine ⟨l3, ?_⟩
  refine ⟨l2, ?_⟩
  refine ⟨l3, ?_⟩
  refine ⟨l1, ?_⟩
  refine ⟨len_le (by simp), ?_⟩
  symm_saturate
  refine ⟨⟨by decide, by decide⟩, ?_⟩
  rw [show (3 : Int) = ((3 : Nat) : Int) from rfl, rng_map]
  refine lc_map (fun (i : Nat) => D.int (i : Int)) (fun (i : Nat) => D.tup ((List.range (39 + i)).map fun (b : Nat) => D.tup [.int (b : Int), .int 0, .str [46]])) (List.range 3) (len_le (by simp)) (fun i hi K1 K0 h1 => ?_) ?_
  · have hi3 := List.mem_range.mp hi
    symm_saturate
    refine ⟨⟨by omega, by omega⟩, ?_⟩
    rw [show (39 : Int) + (i : Int) = ((39 + i : Nat) : Int) by omega, rng_map]
    refine lc_map (fun (b : Nat) => D.int (b : Int)) (fun (b : Nat) => D.tup [.int (b : Int), .int 0, .str [46]]) (List.range (39 + i)) (len_le (by simp; omega)) (fun b hb K1 K0 h1 => ⟨l3, h1⟩) ?_
    exact h1
  symm_saturate
  refine ⟨len_le (by rw [List.length_map, List.length_range]; simp only [List.length_cons, List.length_nil]; omega), ?_⟩
  have hed : ∀ z ∈ [D.tup [D.tup [D.int 1001, D.int 0, D.str [46]]], D.tup [D.tup [D.int 0, D.int 8, D.str [46]]], D.tup [D.tup [D.int 0, D.int 0, D.str [63]]], D.tup [D.tup [D.int 0, D.int 0, D.str [35]], D.tup [D.int 0, D.int 0, D.str [46]]], D.tup [D.tup [D.int 0, D.int 0, D.str [46, 35]]]] ++ (List.range 3).map (fun (i : Nat) => D.tup ((List.range (39 + i)).map fun (b : Nat) => D.tup [.int (b : Int), .int 0, .str [46]])), z.fit 500 = true := by
    intro z hz
    rcases List.mem_append.mp hz with hz | hz
    · exact fitAll_iff.mp (by decide +kernel) z hz
    · obtain ⟨i, hi, rfl⟩ := List.mem_map.mp hz
      have hi3 := List.mem_range.mp hi
      refine fit_tup.mpr ⟨by rw [List.length_map, List.length_range]; omega, fun x hx => ?_⟩
      obtain ⟨b, _, rfl⟩ := List.mem_map.mp hx
      rfl
  have hel : ([D.tup [D.tup [D.int 1001, D.int 0, D.str [46]]], D.tup [D.tup [D.int 0, D.int 8, D.str [46]]], D.tup [D.tup [D.int 0, D.int 0, D.str [63]]], D.tup [D.tup [D.int 0, D.int 0, D.str [35]], D.tup [D.int 0, D.int 0, D.str [46]]], D.tup [D.tup [D.int 0, D.int 0, D.str [46, 35]]]] ++ (List.range 3).map (fun (i : Nat) => D.tup ((List.range (39 + i)).map fun (b : Nat) => D.tup [.int (b : Int), .int 0, .str [46]]))).length ≤ 8 := by
    rw [List.length_append, List.length_map, List.length_range]; exact Nat.le_refl _
  revert hed hel
  generalize ([D.tup [D.tup [D.int 1001, D.int 0, D.str [46]]], D.tup [D.tup [D.int 0, D.int 8, D.str [46]]], D.tup [D.tup [D.int 0, D.int 0, D.str [63]]], D.tup [D.tup [D.int 0, D.int 0, D.str [35]], D.tup [D.int 0, D.int 0, D.str [46]]], D.tup [D.tup [D.int 0, D.int 0, D.str [46, 35]]]] ++ (List.range 3).map (fun (i : Nat) => D.tup ((List.range (39 + i)).map fun (b : Nat) => D.tup [.int (b : Int), .int 0, .str [46]]))) = eds
  intro hed hel
  symm_saturate
  refine call_bent (d := 1) hd14 (by decide) hlw' hws fun ys S15 hyl hyf hd15 _ => ?_
  symm_saturate
  refine ⟨len_le (by omega), ?_⟩
  have hall : ∀ z ∈ ys ++ eds, z.fit 500 = true := by
    intro z hz
    rcases List.mem_append.mp hz with hz | hz
    · exact hyf z hz
    · exact hed z hz
  refine loop_truly (Q := fun env => ∃ a6, env = [some (.scr ns), some (.int (c : Int)), some (.own n), some (encS sh), some (encSt st), some (.lst eds), a6, some (.int (w : Int)), some (.tup rows), some (.lst (ms.map tupI)), some (.tup ws), a11, a12, a13, a14]) _ _ ⟨_, rfl⟩ (fun z hz env he => ?_) fun env he => ?_
  · obtain ⟨a6, rfl⟩ := he
    have hf := hall z hz
    exact ⟨⟨_, rfl⟩, wishesD z, fun K hK => call_are_wishes (fit_pln hf) hK, fun K hK => call_law_are_wishes (fit_pln hf) hK⟩
  obtain ⟨d6, rfl⟩ := he
  exact done _ _ ⟨_, _, _, _, _, _, _, _, _, _, _, _, _, _, rfl⟩
end Dat
set_option Elab.async false
set_option linter.all false
set_option maxRecDepth 100000
/-! MaB: what a sheet may be, counted cell by cell. -/
namespace Dat
abbrev Cell := Nat × Nat
def chAt (seen : List (List Nat)) (q : Cell) : Nat := (seen.getD q.1 []).getD q.2 63
def spotC (L pace : Nat) (q : Cell) : Nat := (q.2 + pace * q.1) % L
def badC (st : Stack) (seen : List (List Nat)) (q : Cell) : Bool := decide (chAt seen q = 46) && !opn st (q.2 : Int) (q.1 : Int)
def putC (st : Stack) (seen : List (List Nat)) (q : Cell) : Bool := !decide (chAt seen q = 63) && opn st (q.2 : Int) (q.1 : Int)
def sgs (st : Stack) (seen : List (List Nat)) (L pace : Nat) (l : List Cell) (s : Nat) : List Nat := (l.filter fun q => putC st seen q && decide (spotC L pace q = s)).map (chAt seen)
def conf (l : List Nat) : Bool := decide (46 ∈ l) && decide (35 ∈ l)
def beatC (w b : Nat) : List Cell := (List.range w).map fun p => (b, p)
def cells (w n : Nat) : List Cell := (List.range n).flatMap (beatC w)
def mayM (st : Stack) (w : Nat) (seen : List (List Nat)) (L pace : Nat) : Option (List Nat) :=
  if (cells w seen.length).any (badC st seen) || (List.range L).any (fun s => conf (sgs st seen L pace (cells w seen.length) s)) then none
  else some ((List.range L).map fun s => (sgs st seen L pace (cells w seen.length) s).headD 63)
def okSeen (w : Nat) (seen : List (List Nat)) : Prop := ∀ r ∈ seen, r.length = w ∧ ∀ c ∈ r, c = 46 ∨ c = 35 ∨ c = 63
section
variable {st : Stack} {seen : List (List Nat)} {w L pace : Nat}
theorem ch_ok (h : okSeen w seen) (q : Cell) : chAt seen q = 46 ∨ chAt seen q = 35 ∨ chAt seen q = 63 := by
  unfold chAt
  rw [List.getD_eq_getElem?_getD, List.getD_eq_getElem?_getD]
  cases hr : seen[q.1]? with
  | none => simp
  | some r =>
    simp only [Option.getD_some]
    cases hc : r[q.2]? with
    | none => simp
    | some c => exact (h r (List.mem_of_getElem? hr)).2 c (List.mem_of_getElem? hc)
theorem ch_at {b p : Nat} {r : List Nat} (h : okSeen w seen) (hr : seen[b]? = some r) (hp : p < w) : r[p]? = some (chAt seen (b, p)) := by
  have hl := (h r (List.mem_of_getElem? hr)).1
  unfold chAt
  rw [List.getD_eq_getElem?_getD, List.getD_eq_getElem?_getD]
  simp only [hr, Option.getD_some]
  rw [List.getElem?_eq_getElem (by omega)]; rfl
theorem sgs_app (l r : List Cell) (s : Nat) : sgs st seen L pace (l ++ r) s = sgs st seen L pace l s ++ sgs st seen L pace r s := by
  unfold sgs; rw [List.filter_append, List.map_append]
theorem sgs_one (q : Cell) (s : Nat) : sgs st seen L pace [q] s = if putC st seen q && decide (spotC L pace q = s) then [chAt seen q] else [] := by
  unfold sgs; rw [List.filter_cons]; split <;> rfl
theorem sgs_ok (h : okSeen w seen) (l : List Cell) (s : Nat) : ∀ c ∈ sgs st seen L pace l s, c = 46 ∨ c = 35 := by
  intro c hc
  unfold sgs at hc
  obtain ⟨q, hq, rfl⟩ := List.mem_map.mp hc
  have hq2 := (List.mem_filter.mp hq).2
  simp only [putC, Bool.and_eq_true, Bool.not_eq_true', decide_eq_false_iff_not] at hq2
  rcases ch_ok h q with e | e | e
  · exact .inl e
  · exact .inr e
  · exact absurd e hq2.1.1
theorem conf_mono {l m : List Nat} (h : conf l = true) (hs : ∀ c ∈ l, c ∈ m) : conf m = true := by
  simp only [conf, Bool.and_eq_true, decide_eq_true_eq] at h ⊢
  exact ⟨hs _ h.1, hs _ h.2⟩
theorem may_bad {q : Cell} (hq : q ∈ cells w seen.length) (hb : badC st seen q = true) : mayM st w seen L pace = none := by
  unfold mayM
  rw [if_pos]
  rw [Bool.or_eq_true]
  exact .inl (List.any_eq_true.mpr ⟨q, hq, hb⟩)
theorem may_conf {l r : List Cell} {s : Nat} (e : l ++ r = cells w seen.length) (hs : s < L) (hc : conf (sgs st seen L pace l s) = true) : mayM st w seen L pace = none := by
  unfold mayM
  rw [if_pos]
  rw [Bool.or_eq_true]
  refine .inr (List.any_eq_true.mpr ⟨s, List.mem_range.mpr hs, conf_mono hc fun c h => ?_⟩)
  rw [← e, sgs_app]; exact List.mem_append_left _ h
theorem may_some (hb : ∀ q ∈ cells w seen.length, badC st seen q = false) (hc : ∀ s < L, conf (sgs st seen L pace (cells w seen.length) s) = false) :
    mayM st w seen L pace = some ((List.range L).map fun s => (sgs st seen L pace (cells w seen.length) s).headD 63) := by
  unfold mayM
  rw [if_neg]
  rw [Bool.or_eq_true, List.any_eq_true, List.any_eq_true]
  rintro (⟨q, hq, h⟩ | ⟨s, hs, h⟩)
  · rw [hb q hq] at h; cases h
  · rw [hc s (List.mem_range.mp hs)] at h; cases h
theorem cells_succ (w n : Nat) : cells w (n + 1) = cells w n ++ beatC w n := by
  unfold cells
  rw [List.range_succ, List.flatMap_append]
  simp
theorem mem_cells {w n : Nat} {q : Cell} : q ∈ cells w n ↔ q.1 < n ∧ q.2 < w := by
  unfold cells beatC
  simp only [List.mem_flatMap, List.mem_range, List.mem_map]
  constructor
  · rintro ⟨b, hb, p, hp, rfl⟩; exact ⟨hb, hp⟩
  · rintro ⟨h1, h2⟩; exact ⟨q.1, h1, q.2, h2, rfl⟩
theorem spot_lt (hL : 0 < L) (q : Cell) : spotC L pace q < L := Nat.mod_lt _ hL
/-- the found signs so far -/
def fndM (st : Stack) (seen : List (List Nat)) (L pace : Nat) (l : List Cell) : List Nat := (List.range L).map fun s => (sgs st seen L pace l s).headD 63
theorem fnd_at {l : List Cell} {s : Nat} (hs : s < L) : (fndM st seen L pace l)[s]? = some ((sgs st seen L pace l s).headD 63) := by
  unfold fndM
  rw [List.getElem?_map, List.getElem?_range hs]; rfl
theorem fnd_len (l : List Cell) : (fndM st seen L pace l).length = L := by simp [fndM]
/-- a cell that tells nothing -/
theorem fnd_skip {l : List Cell} {q : Cell} (h : putC st seen q = false) : fndM st seen L pace (l ++ [q]) = fndM st seen L pace l := by
  unfold fndM
  apply List.map_congr_left
  intro s _
  rw [sgs_app, sgs_one, h]; simp
theorem conf_skip {l : List Cell} {q : Cell} (h : putC st seen q = false) (s : Nat) : sgs st seen L pace (l ++ [q]) s = sgs st seen L pace l s := by
  rw [sgs_app, sgs_one, h]; simp
/-- a cell that tells a sign that fits -/
theorem fnd_put (hok : okSeen w seen) {l : List Cell} {q : Cell} (h : putC st seen q = true) (hf : (sgs st seen L pace l (spotC L pace q)).headD 63 ∈ [63, chAt seen q]) :
    fndM st seen L pace (l ++ [q]) = (fndM st seen L pace l).set (spotC L pace q) (chAt seen q) := by
  apply List.ext_getElem?
  intro s
  by_cases hs : s < L
  · rw [fnd_at hs, sgs_app, sgs_one, h, Bool.true_and]
    by_cases e : spotC L pace q = s
    · subst e
      rw [List.getElem?_set_self (by rw [fnd_len]; exact hs)]
      simp only [decide_true, if_true]
      cases hg : sgs st seen L pace l (spotC L pace q) with
      | nil => rfl
      | cons c r =>
        rw [hg] at hf
        have hc := sgs_ok (st := st) (L := L) (pace := pace) hok l (spotC L pace q) c (by rw [hg]; exact List.mem_cons_self ..)
        simp only [List.headD_cons, List.mem_cons, List.not_mem_nil, or_false] at hf
        rcases hf with e | e
        · omega
        · simp [e]
    · rw [List.getElem?_set_ne e, fnd_at hs]
      simp [e]
  · rw [List.getElem?_eq_none (by rw [fnd_len]; omega), List.getElem?_eq_none (by rw [List.length_set, fnd_len]; omega)]
theorem conf_put (hok : okSeen w seen) {l : List Cell} {q : Cell} (hc : ∀ s, conf (sgs st seen L pace l s) = false) (h : putC st seen q = true) (hf : (sgs st seen L pace l (spotC L pace q)).headD 63 ∈ [63, chAt seen q]) (s : Nat) : conf (sgs st seen L pace (l ++ [q]) s) = false := by
  rw [sgs_app, sgs_one, h, Bool.true_and]
  by_cases e : spotC L pace q = s
  · subst e
    simp only [decide_true, if_true]
    have hcs := hc (spotC L pace q)
    cases hg : sgs st seen L pace l (spotC L pace q) with
    | nil =>
      simp only [List.nil_append, conf, List.mem_singleton]
      by_cases h1 : chAt seen q = 46
      · simp [h1]
      · have : ¬ 46 = chAt seen q := fun z => h1 z.symm
        simp [this]
    | cons c r =>
      rw [hg] at hf hcs
      have hcc := sgs_ok (st := st) (L := L) (pace := pace) hok l (spotC L pace q) c (by rw [hg]; exact List.mem_cons_self ..)
      simp only [List.headD_cons, List.mem_cons, List.not_mem_nil, or_false] at hf
      have ec : c = chAt seen q := by
        rcases hf with z | z
        · omega
        · exact z
      rw [← ec]
      cases hq : conf (c :: r ++ [c]) with
      | false => rfl
      | true =>
        have := conf_mono hq (m := c :: r) fun d hd => by
          rcases List.mem_append.mp hd with hd | hd
          · exact hd
          · rw [List.mem_singleton.mp hd]; exact List.mem_cons_self ..
        rw [this] at hcs; cases hcs
  · simp only [e, decide_false, Bool.false_eq_true, if_false, List.append_nil]
    exact hc s
/-- a cell that tells another sign than what is found -/
theorem conf_clash (hok : okSeen w seen) {l : List Cell} {q : Cell} (h : putC st seen q = true) (hf : ¬ (sgs st seen L pace l (spotC L pace q)).headD 63 ∈ [63, chAt seen q]) : conf (sgs st seen L pace (l ++ [q]) (spotC L pace q)) = true := by
  rw [sgs_app, sgs_one, h, Bool.true_and]
  simp only [decide_true, if_true]
  have hq : chAt seen q = 46 ∨ chAt seen q = 35 := by
    have hp := h
    simp only [putC, Bool.and_eq_true, Bool.not_eq_true', decide_eq_false_iff_not] at hp
    rcases ch_ok hok q with e | e | e
    · exact .inl e
    · exact .inr e
    · exact absurd e hp.1
  cases hg : sgs st seen L pace l (spotC L pace q) with
  | nil => rw [hg] at hf; simp at hf
  | cons c r =>
    rw [hg] at hf
    have hcc := sgs_ok (st := st) (L := L) (pace := pace) hok l (spotC L pace q) c (by rw [hg]; exact List.mem_cons_self ..)
    simp only [List.headD_cons, List.mem_cons, List.not_mem_nil, or_false, not_or] at hf
    simp only [conf, Bool.and_eq_true, decide_eq_true_eq, List.cons_append, List.mem_cons, List.mem_append, List.mem_singleton, List.not_mem_nil, or_false]
    rcases hcc with e | e <;> rcases hq with e2 | e2
    · exact absurd (e.trans e2.symm) hf.2
    · exact ⟨.inl e.symm, .inr (.inr e2.symm)⟩
    · exact ⟨.inr (.inr e2.symm), .inl e.symm⟩
    · exact absurd (e.trans e2.symm) hf.2
/-- one beat's cells of a spot -/
theorem sgs_beat (b s : Nat) : sgs st seen L pace (beatC w b) s = (((List.range w).filter fun p => decide (spotC L pace (b, p) = s)).filter fun p => putC st seen (b, p)).map fun p => chAt seen (b, p) := by
  unfold sgs beatC
  rw [List.filter_map, List.map_map, List.filter_filter]
  rfl
end
end Dat
set_option Elab.async false
set_option linter.all false
set_option maxRecDepth 100000
set_option maxHeartbeats 4000000
set_option exponentiation.threshold 2000
/-! PlX: what a sheet may be, by the program and by the law. -/
namespace Dat
local macro_rules | `(tactic| symm_saturate) => `(tactic| with_reducible conv => whnf)
@[reducible] def encW (seen : List (List Nat)) : D := .tup (seen.map D.str)
@[reducible] def encOS : Option (List Nat) → D
  | none => .non
  | some l => .str l
theorem eq_ch {c d : Nat} {S : Sto} {k : DK} (hk : k (.bl (decide (c = d))) S) : oEq (.str [c]) (.str [d]) S k := by
  refine eq_good (e := D.str) (a := [c]) (b := [d]) goodStr (by decide) rfl rfl ?_
  rw [show decide ([c] = [d]) = decide (c = d) by simp]; exact hk
theorem ne_ch {c d : Nat} {S : Sto} {k : DK} (hk : k (.bl (!decide (c = d))) S) : oNe (.str [c]) (.str [d]) S k := by
  refine ne_good (e := D.str) (a := [c]) (b := [d]) goodStr (by decide) rfl rfl ?_
  rw [show decide ([c] = [d]) = decide (c = d) by simp]; exact hk
theorem repL_sing {α : Type} (k : Nat) (d : α) : repL k [d] = List.replicate k d := by
  unfold repL
  induction k with
  | zero => rfl
  | succ k ih => rw [List.replicate_succ, List.flatten_cons, ih]; rfl
theorem fnd_nil (st : Stack) (seen : List (List Nat)) (L pace : Nat) : (fndM st seen L pace []).map chD = repL L [chD 63] := by
  rw [repL_sing]
  apply List.ext_getElem?
  intro i
  rw [List.getElem?_map]
  by_cases hi : i < L
  · rw [fnd_at hi, List.getElem?_replicate, if_pos hi]; rfl
  · rw [List.getElem?_eq_none (by rw [fnd_len]; omega), List.getElem?_eq_none (by simp; omega)]; rfl
theorem numb_fst {α : Type} (l : List α) : (numb 0 l).map (·.1) = List.range l.length := by
  apply List.ext_getElem?
  intro i
  rw [List.getElem?_map, numb_get]
  by_cases hi : i < l.length
  · rw [List.getElem?_eq_getElem hi, List.getElem?_range hi]; simp
  · rw [List.getElem?_eq_none (by omega), List.getElem?_eq_none (by simpa using hi)]; rfl
theorem numb_cells (w : Nat) (seen : List (List Nat)) : (numb 0 seen).flatMap (fun q => beatC w q.1) = cells w seen.length := by
  unfold cells
  rw [← numb_fst, List.flatMap_map]
theorem strs_ch (l : List Nat) : joinS [] (l.map fun c => [c]) = l := joinS_nil_ones l
def F_may_be : FSp := fun ds S k => ∃ (st : Stack) (w : Nat) (seen : List (List Nat)) (L pace : Nat), ds = [encSt st, .int (w : Int), encW seen, .int (L : Int), .int (pace : Int)] ∧ S = [] ∧ okSt st ∧ okSeen w seen ∧ w ≤ 8 ∧ seen.length ≤ 1000 ∧ 0 < L ∧ L ≤ 10 ∧ pace ≤ 10 ∧ ∀ S', k (encOS (mayM st w seen L pace)) S'
theorem p_may_be : ∀ ds S k, F_may_be ds S k → b_may_be F_is_open (bodyK k) (entry 11 ds) S := by
  rintro _ _ k ⟨st, w, seen, L, pace, rfl, rfl, hs, hok, hw, hsl, hL, hL10, hp10, hk⟩
  symm_saturate
  refine ⟨l1, ?_⟩
  symm_saturate
  refine ⟨⟨by omega, by omega, by simp⟩, ?_⟩
  symm_saturate
  rw [enumD_map]
  have e0 : repL (L : Int).toNat [D.str [63]] = (fndM st seen L pace []).map chD := by rw [fnd_nil]; rfl
  rw [e0]
  refine forT_ind (fun q : Nat × List Nat => D.tup [.int (q.1 : Int), .str q.2]) (fun rest env s => ∃ (l : List Cell) (a6 a7 a8 a9 a10 : Option D), s = [.lst ((fndM st seen L pace l).map chD)] ∧ env = [some (encSt st), some (.int (w : Int)), some (encW seen), some (.int (L : Int)), some (.int (pace : Int)), some (.own 0), a6, a7, a8, a9, a10] ∧
      l ++ rest.flatMap (fun q => beatC w q.1) = cells w seen.length ∧ (∀ q ∈ rest, seen[q.1]? = some q.2) ∧ (∀ q ∈ l, badC st seen q = false) ∧ ∀ s, conf (sgs st seen L pace l s) = false) ?_ ?_ (numb 0 seen) _ _
    ⟨[], _, _, _, _, _, rfl, rfl, numb_cells w seen, fun q hq => numb_mem hq, (fun q h => nomatch h), fun s => rfl⟩
  · rintro _ _ ⟨l, a6, a7, a8, a9, a10, rfl, rfl, hl, _, hb, hc⟩
    rw [List.flatMap_nil, List.append_nil] at hl
    have hm : mayM st w seen L pace = some (fndM st seen L pace l) := by
      rw [may_some (fun q hq => hb q (by rw [hl]; exact hq)) fun s _ => by rw [← hl]; exact hc s, ← hl]; rfl
    symm_saturate
    refine onO_intro (strsD_map (fun c : Nat => [c]) (fndM st seen L pace l)) ⟨?_, ?_⟩
    · have : ∀ l : List Nat, ((l.map fun b => [b]).map (·.length)).sum = l.length := fun l => by
        induction l with
        | nil => rfl
        | cons a l ih => simp only [List.map_cons, List.sum_cons, ih, List.length_cons, List.length_nil]; omega
      rw [this, fnd_len]
      exact len_le (by simp; omega)
    · refine (show k (.str (joinS [] ((fndM st seen L pace l).map fun c => [c]))) _ from ?_)
      rw [joinS_nil_ones]
      have := hk [.lst ((fndM st seen L pace l).map chD)]
      rw [hm] at this
      exact this
  · rintro ⟨b, row⟩ rest _ _ ⟨l, a6, a7, a8, a9, a10, rfl, rfl, hl, hr, hb, hc⟩ N hN
    have hrow := hr (b, row) (List.mem_cons_self ..)
    rw [List.flatMap_cons] at hl
    symm_saturate
    refine ⟨rfl, ?_⟩
    symm_saturate
    refine ⟨⟨by omega, by omega⟩, ?_⟩
    rw [rng_map]
    refine forT_ind (fun p : Nat => D.int (p : Int)) (fun rest2 env s => ∃ (dn : List Nat) (a8 a9 a10 : Option D), s = [.lst ((fndM st seen L pace (l ++ dn.map fun p => (b, p))).map chD)] ∧ env = [some (encSt st), some (.int (w : Int)), some (encW seen), some (.int (L : Int)), some (.int (pace : Int)), some (.own 0), some (.int (b : Int)), some (.str row), a8, a9, a10] ∧
        dn ++ rest2 = List.range w ∧ (∀ q ∈ l ++ dn.map (fun p => (b, p)), badC st seen q = false) ∧ ∀ s, conf (sgs st seen L pace (l ++ dn.map fun p => (b, p)) s) = false) ?_ ?_ (List.range w) _ _
      ⟨[], _, _, _, by simp, rfl, rfl, by simpa using hb, by simpa using hc⟩
    · rintro _ _ ⟨dn, b8, b9, b10, rfl, rfl, hdn, hb2, hc2⟩
      rw [List.append_nil] at hdn
      subst hdn
      exact hN _ _ ⟨l ++ beatC w b, _, _, _, _, _, rfl, rfl, by rw [List.append_assoc]; exact hl, fun q hq => hr q (List.mem_cons_of_mem _ hq), hb2, hc2⟩
    · rintro p rest2 _ _ ⟨dn, b8, b9, b10, rfl, rfl, hdn, hb2, hc2⟩ N2 hN2
      have hpw : p < w := by have : p ∈ List.range w := by rw [← hdn]; simp
                             exact List.mem_range.mp this
      have hbn : b < seen.length := (List.getElem?_eq_some_iff.mp hrow).1
      have hin : (b, p) ∈ cells w seen.length := mem_cells.mpr ⟨hbn, hpw⟩
      have hdn2 : (dn ++ [p]) ++ rest2 = List.range w := by rw [List.append_assoc]; exact hdn
      have hpre : ∃ r, (l ++ dn.map (fun p => (b, p)) ++ [(b, p)]) ++ r = cells w seen.length := by
        refine ⟨rest2.map (fun p => (b, p)) ++ rest.flatMap (fun q => beatC w q.1), ?_⟩
        rw [← hl]
        have : beatC w b = dn.map (fun p => (b, p)) ++ ([(b, p)] ++ rest2.map fun p => (b, p)) := by
          unfold beatC; rw [← hdn, List.map_append, List.map_cons]; rfl
        rw [this]
        simp only [List.append_assoc]
      have eapp : l ++ (dn ++ [p]).map (fun p => (b, p)) = (l ++ dn.map fun p => (b, p)) ++ [(b, p)] := by
        rw [List.map_append, List.append_assoc]; rfl
      have hat := atI_nat row p _ (ch_at hok hrow hpw)
      generalize hLL : (l ++ dn.map fun p => (b, p)) = ll at hb2 hc2 hpre eapp ⊢
      have none' : mayM st w seen L pace = none → ∀ S, k .non S := fun h S => by have := hk S; rw [h] at this; exact this
      have tl : ∀ {E : DEnds} {b10 : Option D}, E.nx = N2 → (∀ S, E.rt .non S = k .non S) → badC st seen (b, p) = false → sIf (tAnd (tBl (dOp oNe (dOp oIdx (dVar 7) (dVar 8)) (dC (D.str [63])))) (tTru (dVar 9)))
          (sSeq (sSet 10 (dOp oMod (dOp oAdd (dVar 8) (dOp oMul (dVar 4) (dVar 6))) (dVar 3)))
            (sSeq (sIf (tBl (dOp oNotIn (dOp oIdx (dVar 5) (dVar 10)) (dTup (aCons (dC (D.str [63])) (aCons (dOp oIdx (dVar 7) (dVar 8)) aNil))))) (sRet (dC D.non)) sNext)
              (sStore (dVar 5) (dVar 10) (dOp oIdx (dVar 7) (dVar 8)))))
          sNext E [some (encSt st), some (.int (w : Int)), some (encW seen), some (.int (L : Int)), some (.int (pace : Int)), some (.own 0), some (.int (b : Int)), some (.str row), some (.int (p : Int)), some (.bl (opn st (p : Int) (b : Int))), b10] [.lst ((fndM st seen L pace ll).map chD)] := by
        intro E b10 hnx hrt hbad
        have hbn2 : ∀ q ∈ ll ++ [(b, p)], badC st seen q = false := fun q hq => (List.mem_append.mp hq).elim (fun h => hb2 q h) fun h => by rw [List.mem_singleton.mp h]; exact hbad
        have skip : putC st seen (b, p) = false → ∀ {c9 c10 : Option D}, E.nx [some (encSt st), some (.int (w : Int)), some (encW seen), some (.int (L : Int)), some (.int (pace : Int)), some (.own 0), some (.int (b : Int)), some (.str row), some (.int (p : Int)), c9, c10] [.lst ((fndM st seen L pace ll).map chD)] := by
          intro hp c9 c10
          rw [hnx]
          exact hN2 _ _ ⟨dn ++ [p], _, _, _, by rw [eapp, fnd_skip hp], rfl, hdn2, by rw [eapp]; exact hbn2, fun s => by rw [eapp, conf_skip hp]; exact hc2 s⟩
        symm_saturate
        refine onO_intro hat ?_
        refine ne_ch ?_
        refine br_intro (b := !decide (chAt seen (b, p) = 63)) (fun h63 => ?_) fun h63 => ?_
        · symm_saturate
          refine br_intro (b := opn st (p : Int) (b : Int)) (fun ho => ?_) fun ho => ?_
          · have hp : putC st seen (b, p) = true := by simp only [putC]; rw [h63, ho]; rfl
            symm_saturate
            refine ⟨.inl ⟨by omega, by omega⟩, ?_⟩
            refine ⟨by omega, ?_⟩
            have es : ((p : Int) + (pace : Int) * (b : Int)) % (L : Int) = ((spotC L pace (b, p) : Nat) : Int) := by unfold spotC; push_cast; rfl
            rw [es]
            have hsp := spot_lt (pace := pace) hL (b, p)
            symm_saturate
            refine onO_intro (a := chD ((sgs st seen L pace ll (spotC L pace (b, p))).headD 63)) (atI_nat _ _ _ (by rw [List.getElem?_map, fnd_at hsp]; rfl)) ?_
            symm_saturate
            refine onO_intro hat ?_
            refine ⟨l2, ?_⟩
            refine ⟨in_chT_ok _ [63, chAt seen (b, p)], ?_⟩
            rw [show inD (chD ((sgs st seen L pace ll (spotC L pace (b, p))).headD 63)) (res _ (D.tup [D.str [63], D.str [chAt seen (b, p)]])) = decide ((sgs st seen L pace ll (spotC L pace (b, p))).headD 63 ∈ [63, chAt seen (b, p)]) from in_chT _ [63, chAt seen (b, p)]]
            refine br_intro (b := !decide ((sgs st seen L pace ll (spotC L pace (b, p))).headD 63 ∈ [63, chAt seen (b, p)])) (fun hf => ?_) fun hf => ?_
            · obtain ⟨r, hr2⟩ := hpre
              have := conf_clash hok hp (of_decide_eq_false (by simpa only [Bool.not_eq_true'] using hf))
              refine (show E.rt .non _ from ?_)
              rw [hrt]
              exact none' (may_conf hr2 hsp this) _
            · have hf' : (sgs st seen L pace ll (spotC L pace (b, p))).headD 63 ∈ [63, chAt seen (b, p)] := of_decide_eq_true (by simpa only [Bool.not_eq_false'] using hf)
              symm_saturate
              refine onO_intro hat ?_
              symm_saturate
              refine onO_intro (ix_nat (s := spotC L pace (b, p)) (by rw [List.length_map, fnd_len]; exact hsp)) ?_
              rw [hnx]
              refine hN2 _ _ ⟨dn ++ [p], _, _, _, ?_, rfl, hdn2, by rw [eapp]; exact hbn2, fun s => by rw [eapp]; exact conf_put hok hc2 hp hf' s⟩
              rw [eapp, fnd_put hok hp hf', List.map_set]
              rfl
          · exact skip (by simp only [putC]; rw [ho, Bool.and_false])
        · exact skip (by simp only [putC]; rw [h63, Bool.false_and])
      symm_saturate
      refine call_open hs ?_
      symm_saturate
      refine onO_intro hat ?_
      refine eq_ch ?_
      refine br_intro (b := decide (chAt seen (b, p) = 46)) (fun h46 => ?_) fun h46 => ?_
      · symm_saturate
        refine br_intro (b := !opn st (p : Int) (b : Int)) (fun ho => ?_) fun ho => ?_
        · refine none' (may_bad hin ?_) _
          simp only [badC, h46, Bool.true_and]
          exact ho
        · exact tl rfl (fun _ => rfl) (by simp only [badC]; rw [ho, Bool.and_false])
      · exact tl rfl (fun _ => rfl) (by simp only [badC]; rw [h46, Bool.false_and])
end Dat
set_option Elab.async false
set_option linter.all false
set_option maxRecDepth 100000
set_option maxHeartbeats 4000000
set_option exponentiation.threshold 2000
/-! PlY: all that may, and the law's own reckoning of what a sheet may be. -/
namespace Dat
local macro_rules | `(tactic| symm_saturate) => `(tactic| with_reducible conv => whnf)
theorem purW (seen : List (List Nat)) : (encW seen).pur = true := by simp only [encW, D.pur]; exact purAll_map (fun _ => rfl) seen
theorem purOS (o : Option (List Nat)) : (encOS o).pur = true := by cases o <;> rfl
theorem call_may_be {st : Stack} {w : Nat} {seen : List (List Nat)} {L pace : Nat} (h1 : okSt st) (h2 : okSeen w seen) (h3 : w ≤ 8) (h4 : seen.length ≤ 1000) (h5 : 0 < L) (h6 : L ≤ 10) (h7 : pace ≤ 10) {S : Sto} {k : DK} (hk : k (encOS (mayM st w seen L pace)) S) :
    callP F_may_be [encSt st, .int (w : Int), encW seen, .int (L : Int), .int (pace : Int)] S k := by
  refine ⟨purC (purSt _) (purC rfl (purC (purW _) rfl)), st, w, seen, L, pace, rfl, rfl, h1, h2, h3, h4, h5, h6, h7, fun S' => ?_⟩
  exact onO_intro (thaw_pur (purOS _)) hk
/-! ### all that may -/
def pairsM : List (Nat × Nat) := (List.range 10).flatMap fun i => (List.range (1 + i)).map fun s => (1 + i, s)
abbrev Row3 := Nat × Nat × List Nat
@[reducible] def encA (q : Row3) : D := .tup [.int (q.1 : Int), .int (q.2.1 : Int), .str q.2.2]
def entM (st : Stack) (w : Nat) (seen : List (List Nat)) (l : List (Nat × Nat)) : List Row3 := l.filterMap fun q => (mayM st w seen q.1 q.2).map fun t => (q.1, q.2, t)
theorem ent_app (st : Stack) (w : Nat) (seen : List (List Nat)) (l r : List (Nat × Nat)) : entM st w seen (l ++ r) = entM st w seen l ++ entM st w seen r := by unfold entM; rw [List.filterMap_append]
theorem ent_len (st : Stack) (w : Nat) (seen : List (List Nat)) (l : List (Nat × Nat)) : (entM st w seen l).length ≤ l.length := List.length_filterMap_le _ _
theorem pairs_len : pairsM.length = 55 := by decide
theorem rng_lo (lo : Int) (n : Nat) : rngD lo (lo + (n : Int)) = (List.range n).map fun (i : Nat) => D.int (lo + (i : Int)) := by
  unfold rngD
  rw [show (lo + (n : Int) - lo).toNat = n by omega]
theorem may_len {st : Stack} {w : Nat} {seen : List (List Nat)} {L pace : Nat} {t : List Nat} (h : mayM st w seen L pace = some t) : t.length = L := by
  unfold mayM at h
  split at h
  · cases h
  · cases h; simp
def F_all_that_may : FSp := fun ds S k => ∃ (st : Stack) (w : Nat) (seen : List (List Nat)), ds = [encSt st, .int (w : Int), encW seen] ∧ S = [] ∧ okSt st ∧ okSeen w seen ∧ w ≤ 8 ∧ seen.length ≤ 1000 ∧ k (.own 0) [.lst ((entM st w seen pairsM).map encA)]
theorem p_all_that_may : ∀ ds S k, F_all_that_may ds S k → b_all_that_may F_may_be (bodyK k) (entry 7 ds) S := by
  rintro _ _ k ⟨st, w, seen, rfl, rfl, hs, hok, hw, hsl, hk⟩
  refine ⟨l0, ?_⟩
  symm_saturate
  refine ⟨⟨by decide, by decide, by decide, by decide⟩, ?_⟩
  symm_saturate
  rw [show rngD 1 ((10 : Int) + 1) = (List.range 10).map fun (i : Nat) => D.int (1 + (i : Int)) from rng_lo 1 10]
  refine forT_ind (fun i : Nat => D.int (1 + (i : Int))) (fun rest env s => ∃ (l : List (Nat × Nat)) (a4 a5 a6 : Option D), s = [.lst ((entM st w seen l).map encA)] ∧ env = [some (encSt st), some (.int (w : Int)), some (encW seen), some (.own 0), a4, a5, a6] ∧ l ++ rest.flatMap (fun i => (List.range (1 + i)).map fun s => (1 + i, s)) = pairsM ∧ ∀ i ∈ rest, i < 10) ?_ ?_ (List.range 10) _ _
    ⟨[], _, _, _, rfl, rfl, rfl, fun i hi => List.mem_range.mp hi⟩
  · rintro _ _ ⟨l, a4, a5, a6, rfl, rfl, hl, _⟩
    rw [List.flatMap_nil, List.append_nil] at hl
    subst hl
    exact hk
  · rintro i rest _ _ ⟨l, a4, a5, a6, rfl, rfl, hl, hi⟩ N hN
    have hi10 := hi i (List.mem_cons_self ..)
    rw [List.flatMap_cons] at hl
    symm_saturate
    refine ⟨⟨by omega, by omega⟩, ?_⟩
    have ei : (1 : Int) + (i : Int) = ((1 + i : Nat) : Int) := by omega
    rw [ei, rng_map]
    refine forT_ind (fun p : Nat => D.int (p : Int)) (fun rest2 env s => ∃ (dn : List Nat) (a5 a6 : Option D), s = [.lst ((entM st w seen (l ++ dn.map fun s => (1 + i, s))).map encA)] ∧ env = [some (encSt st), some (.int (w : Int)), some (encW seen), some (.own 0), some (.int ((1 + i : Nat) : Int)), a5, a6] ∧ dn ++ rest2 = List.range (1 + i)) ?_ ?_ (List.range (1 + i)) _ _
      ⟨[], _, _, by simp, rfl, rfl⟩
    · rintro _ _ ⟨dn, b5, b6, rfl, rfl, hdn⟩
      rw [List.append_nil] at hdn
      subst hdn
      exact hN _ _ ⟨_, _, _, _, rfl, rfl, by rw [List.append_assoc]; exact hl, fun j hj => hi j (List.mem_cons_of_mem _ hj)⟩
    · rintro p rest2 _ _ ⟨dn, b5, b6, rfl, rfl, hdn⟩ N2 hN2
      have hp : p < 1 + i := by have : p ∈ List.range (1 + i) := by rw [← hdn]; simp
                                exact List.mem_range.mp this
      have hdn2 : (dn ++ [p]) ++ rest2 = List.range (1 + i) := by rw [List.append_assoc]; exact hdn
      have eapp : l ++ (dn ++ [p]).map (fun s => (1 + i, s)) = (l ++ dn.map fun s => (1 + i, s)) ++ [(1 + i, p)] := by rw [List.map_append, List.append_assoc]; rfl
      have hlen : (l ++ dn.map fun s => (1 + i, s)).length ≤ 55 := by
        have h1 : (l ++ ((List.range (1 + i)).map fun s => (1 + i, s))).length ≤ pairsM.length := by rw [← hl, ← List.append_assoc]; simp
        rw [pairs_len] at h1
        rw [List.length_append, List.length_map] at h1 ⊢
        have h2 : dn.length ≤ (List.range (1 + i)).length := by rw [← hdn]; simp
        omega
      generalize hLL : (l ++ dn.map fun s => (1 + i, s)) = ll at eapp hlen ⊢
      have hel := Nat.le_trans (ent_len st w seen ll) hlen
      symm_saturate
      refine call_may_be hs hok hw hsl (by omega) (by omega) (by omega) ?_
      cases hm : mayM st w seen (1 + i) p with
      | none =>
        symm_saturate
        refine hN2 _ _ ⟨dn ++ [p], _, _, ?_, rfl, hdn2⟩
        rw [eapp, ent_app]
        simp [entM, hm]
      | some t =>
        symm_saturate
        refine ⟨l3, ?_⟩
        symm_saturate
        refine ⟨by rw [List.length_map]; exact Nat.lt_of_le_of_lt hel (by decide), ?_⟩
        refine hN2 _ _ ⟨dn ++ [p], _, _, ?_, rfl, hdn2⟩
        rw [eapp, ent_app, List.map_append]
        simp [entM, hm, encA]
theorem call_all_that_may {st : Stack} {w : Nat} {seen : List (List Nat)} (h1 : okSt st) (h2 : okSeen w seen) (h3 : w ≤ 8) (h4 : seen.length ≤ 1000) {S : Sto} {k : DK} (hk : k (.lst ((entM st w seen pairsM).map encA)) S) : callP F_all_that_may [encSt st, .int (w : Int), encW seen] S k :=
  callO_intro (purC (purSt _) (purC rfl (purC (purW _) rfl))) (purAll_map (fun _ => rfl) _) hk fun K hK => ⟨st, w, seen, rfl, rfl, h1, h2, h3, h4, hK⟩
end Dat
set_option Elab.async false
set_option linter.all false
set_option maxRecDepth 100000
set_option maxHeartbeats 4000000
set_option exponentiation.threshold 2000
/-! PlZ: the law's own reckoning of what a sheet may be. -/
namespace Dat
local macro_rules | `(tactic| symm_saturate) => `(tactic| with_reducible conv => whnf)
theorem in_chL (c : Nat) : ∀ l : List Nat, inD (.str [c]) (.lst (l.map chD)) = decide (c ∈ l)
  | [] => rfl
  | a :: l => by
    have ih := in_chL c l
    simp only [inD, List.map_cons, List.any_cons] at ih ⊢
    rw [ih]
    by_cases h : c = a
    · subst h; simp [chD, D.eqv]
    · have h' : ¬ a = c := fun z => h z.symm
      simp [chD, D.eqv, h, h']
theorem in_own {S : Sto} {q c : Nat} {l : List Nat} {k : DK} (h : S[q]? = some (.lst (l.map chD))) (hk : k (.bl (decide (c ∈ l))) S) : oIn (.str [c]) (.own q) S k := by
  unfold oIn
  rw [res_at h, in_chL]
  exact ⟨⟨rfl, plnAll_map (f := chD) (fun _ => rfl) l, .inl (by simp [D.dep])⟩, hk⟩
theorem in_open (st : Stack) (p b : Nat) {S : Sto} {k : DK} (hk : k (.bl (opn st (p : Int) (b : Int))) S) : oNotIn (.str [35]) (.lst (st.map fun s => D.str [sgn (sgnAt s (p : Int) (b : Int))])) S k := by
  have e1 : (st.map fun s => D.str [sgn (sgnAt s (p : Int) (b : Int))]) = (st.map fun s => sgnAt s (p : Int) (b : Int)).map fun b => D.str [sgn b] := by rw [List.map_map]; rfl
  rw [e1]
  refine ⟨in_ok _, ?_⟩
  refine (show k (.bl (!inD (.str [35]) (.lst ((st.map fun s => sgnAt s (p : Int) (b : Int)).map fun b => D.str [sgn b])))) S from ?_)
  rw [in_shut, Bool.not_not]
  have e2 : (st.map fun s => sgnAt s (p : Int) (b : Int)).all id = opn st (p : Int) (b : Int) := by simp [opn, List.all_map, Function.comp_def]
  rw [e2]; exact hk
theorem w_at {seen : List (List Nat)} {b : Nat} {row : List Nat} (h : seen[b]? = some row) : atI (seen.map D.str) (b : Int) = some (.str row) := atI_nat _ _ _ (by rw [List.getElem?_map, h]; rfl)
def F_law_may : FSp := F_may_be
theorem p_law_may : ∀ ds S k, F_law_may ds S k → b_law_may F_law_sign (bodyK k) (entry 13 ds) S := by
  rintro _ _ k ⟨st, w, seen, L, pace, rfl, rfl, hs, hok, hw, hsl, hL, hL10, hp10, hk⟩
  symm_saturate
  refine ⟨⟨by omega, by omega⟩, ?_⟩
  rw [rng_map]
  refine forT_ind (fun s : Nat => D.int (s : Int)) (fun rest env S => ∃ (sd : List Nat) (a6 a7 a8 a9 a10 a11 a12 : Option D), env = [some (encSt st), some (.int (w : Int)), some (encW seen), some (.int (L : Int)), some (.int (pace : Int)), some (.str (sd.map fun s => (sgs st seen L pace (cells w seen.length) s).headD 63)), a6, a7, a8, a9, a10, a11, a12] ∧
      sd ++ rest = List.range L ∧ ∀ s ∈ sd, (∀ q ∈ cells w seen.length, spotC L pace q = s → badC st seen q = false) ∧ conf (sgs st seen L pace (cells w seen.length) s) = false) ?_ ?_ (List.range L) _ []
    ⟨[], _, _, _, _, _, _, _, rfl, rfl, fun s h => nomatch h⟩
  · rintro _ S ⟨sd, a6, a7, a8, a9, a10, a11, a12, rfl, hsd, hall⟩
    rw [List.append_nil] at hsd
    subst hsd
    have hm : mayM st w seen L pace = some ((List.range L).map fun s => (sgs st seen L pace (cells w seen.length) s).headD 63) :=
      may_some (fun q hq => (hall (spotC L pace q) (List.mem_range.mpr (spot_lt hL q))).1 q hq rfl) fun s hs => (hall s (List.mem_range.mpr hs)).2
    have := hk S
    rw [hm] at this
    exact this
  · rintro s rest _ S ⟨sd, a6, a7, a8, a9, a10, a11, a12, rfl, hsd, hall⟩ N hN
    have hsL : s < L := by have : s ∈ List.range L := by rw [← hsd]; simp
                           exact List.mem_range.mp this
    have hsd2 : (sd ++ [s]) ++ rest = List.range L := by rw [List.append_assoc]; exact hsd
    have none' : mayM st w seen L pace = none → ∀ S, k .non S := fun h S => by have := hk S; rw [h] at this; exact this
    symm_saturate
    refine ⟨l0, ?_⟩
    symm_saturate
    have hq0 : (S ++ [MO.lst []])[S.length]? = some (.lst (([] : List Nat).map chD)) := by simp
    generalize (S ++ [MO.lst []]) = S1 at hq0 ⊢
    generalize S.length = n at hq0 ⊢
    rw [show ((seen.map D.str).length : Int) = ((seen.length : Nat) : Int) by rw [List.length_map]]
    refine ⟨⟨by omega, by omega⟩, ?_⟩
    rw [rng_map]
    symm_saturate
    refine forT_ind (fun b : Nat => D.int (b : Int)) (fun rest2 env S => ∃ (bd : List Nat) (a8 a9 a10 a11 a12 : Option D), env = [some (encSt st), some (.int (w : Int)), some (encW seen), some (.int (L : Int)), some (.int (pace : Int)), some (.str (sd.map fun s => (sgs st seen L pace (cells w seen.length) s).headD 63)), some (.int (s : Int)), some (.own n), a8, a9, a10, a11, a12] ∧
        S[n]? = some (.lst ((sgs st seen L pace (bd.flatMap (beatC w)) s).map chD)) ∧ bd ++ rest2 = List.range seen.length ∧ ∀ q ∈ bd.flatMap (beatC w), spotC L pace q = s → badC st seen q = false) ?_ ?_ (List.range seen.length) _ S1
      ⟨[], _, _, _, _, _, rfl, hq0, rfl, fun q h => nomatch h⟩
    · rintro _ S2 ⟨bd, b8, b9, b10, b11, b12, rfl, hq, hbd, hbad⟩
      rw [List.append_nil] at hbd
      subst hbd
      rw [show (List.range seen.length).flatMap (beatC w) = cells w seen.length from rfl] at hq hbad
      have hc1 : conf (sgs st seen L pace (cells w seen.length) s) = true → k .non S2 := fun h => none' (may_conf (List.append_nil _) hsL h) S2
      have hlen : (sgs st seen L pace (cells w seen.length) s).length ≤ 8000 := by
        unfold sgs
        rw [List.length_map]
        refine Nat.le_trans (List.length_filter_le _ _) ?_
        have h1 := flat_len (beatC w) w (List.range seen.length) fun q _ => by simp [beatC]
        rw [List.length_range] at h1
        have h2 : w * seen.length ≤ 8 * 1000 := Nat.mul_le_mul hw hsl
        exact Nat.le_trans h1 h2
      have cont : conf (sgs st seen L pace (cells w seen.length) s) = false → ∀ {E : DEnds}, E.nx = N → sSet 5 (dOp oAdd (dVar 5) (dOp oIdx (dOp oAdd (dVar 7) (dNew (nLst (aCons (dC (.str [63])) (aNil))))) (dC (.int 0)))) E [some (encSt st), some (.int (w : Int)), some (encW seen), some (.int (L : Int)), some (.int (pace : Int)), some (.str (sd.map fun s => (sgs st seen L pace (cells w seen.length) s).headD 63)), some (.int (s : Int)), some (.own n), b8, b9, b10, b11, b12] S2 := by
        intro hcf E hnx
        symm_saturate
        refine ⟨l1, ?_⟩
        symm_saturate
        rw [res_at hq]
        symm_saturate
        refine ⟨len_le (by rw [List.length_map]; simp only [List.length_cons, List.length_nil]; omega), ?_⟩
        symm_saturate
        refine onO_intro (a := chD ((sgs st seen L pace (cells w seen.length) s).headD 63)) (atI_nat _ 0 _ (by cases sgs st seen L pace (cells w seen.length) s <;> rfl)) ?_
        symm_saturate
        refine ⟨len_le (by rw [List.length_map]; have : sd.length ≤ (List.range L).length := by rw [← hsd]; simp
                           rw [List.length_range] at this; simp only [List.length_cons, List.length_nil]; omega), ?_⟩
        rw [hnx]
        refine hN _ _ ⟨sd ++ [s], some (.int (s : Int)), some (.own n), b8, b9, b10, b11, b12, ?_, hsd2, fun s' hs' => (List.mem_append.mp hs').elim (fun h => hall s' h) fun h => by rw [List.mem_singleton.mp h]; exact ⟨hbad, hcf⟩⟩
        rw [List.map_append]
        rfl
      symm_saturate
      refine in_own hq ?_
      refine br_intro (b := decide (46 ∈ sgs st seen L pace (cells w seen.length) s)) (fun h1 => ?_) fun h1 => ?_
      · symm_saturate
        refine in_own hq ?_
        refine br_intro (b := decide (35 ∈ sgs st seen L pace (cells w seen.length) s)) (fun h2 => ?_) fun h2 => ?_
        · exact hc1 (by unfold conf; rw [h1, h2]; rfl)
        · exact cont (by unfold conf; rw [h2, Bool.and_false]) rfl
      · exact cont (by unfold conf; rw [h1, Bool.false_and]) rfl
    · rintro b rest2 _ S2 ⟨bd, b8, b9, b10, b11, b12, rfl, hq, hbd, hbad⟩ N2 hN2
      have hbn : b < seen.length := by have : b ∈ List.range seen.length := by rw [← hbd]; simp
                                       exact List.mem_range.mp this
      have hbd2 : (bd ++ [b]) ++ rest2 = List.range seen.length := by rw [List.append_assoc]; exact hbd
      obtain ⟨row, hrow⟩ : ∃ row, seen[b]? = some row := ⟨_, List.getElem?_eq_getElem hbn⟩
      symm_saturate
      refine ⟨⟨by omega, by omega⟩, ?_⟩
      rw [rng_map]
      refine lc_pure (fun p : Nat => D.int (p : Int)) (fun p => decide (spotC L pace (b, p) = s)) (fun p : Nat => D.int (p : Int)) (List.range w) [] (len_le (by simp; omega)) (fun p hp K1 K0 h1 h2 => ?_) ?_
      · symm_saturate
        refine ⟨.inl ⟨by omega, by omega⟩, ?_⟩
        refine ⟨by omega, ?_⟩
        have es : ((p : Int) + (pace : Int) * (b : Int)) % (L : Int) = ((spotC L pace (b, p) : Nat) : Int) := by unfold spotC; push_cast; rfl
        rw [es]
        refine eq_good (e := D.int) (a := ((spotC L pace (b, p) : Nat) : Int)) (b := ((s : Nat) : Int)) goodInt (by decide) rfl rfl ?_
        rw [show decide (((spotC L pace (b, p) : Nat) : Int) = ((s : Nat) : Int)) = decide (spotC L pace (b, p) = s) from decide_eq_decide.mpr Int.ofNat_inj]
        exact br_intro h1 h2
      rw [List.nil_append]
      symm_saturate
      have hflat : (bd ++ [b]).flatMap (beatC w) = bd.flatMap (beatC w) ++ beatC w b := by rw [List.flatMap_append]; simp
      refine forT_ind (fun p : Nat => D.int (p : Int)) (fun rest3 env S => ∃ (pd : List Nat) (a9 a10 a11 a12 : Option D), env = [some (encSt st), some (.int (w : Int)), some (encW seen), some (.int (L : Int)), some (.int (pace : Int)), some (.str (sd.map fun s => (sgs st seen L pace (cells w seen.length) s).headD 63)), some (.int (s : Int)), some (.own n), some (.int (b : Int)), a9, a10, a11, a12] ∧
          S[n]? = some (.lst ((sgs st seen L pace (bd.flatMap (beatC w)) s ++ (pd.filter fun p => putC st seen (b, p)).map fun p => chAt seen (b, p)).map chD)) ∧ pd ++ rest3 = (List.range w).filter (fun p => decide (spotC L pace (b, p) = s)) ∧ ∀ p ∈ pd, badC st seen (b, p) = false) ?_ ?_ _ _ S2
        ⟨[], _, _, _, _, rfl, by simpa using hq, rfl, fun p h => nomatch h⟩
      · rintro _ S3 ⟨pd, c9, c10, c11, c12, rfl, hq3, hpd, hbad3⟩
        rw [List.append_nil] at hpd
        subst hpd
        refine hN2 _ _ ⟨bd ++ [b], _, _, _, _, _, rfl, ?_, hbd2, fun q hq' hsp => ?_⟩
        · rw [hflat, sgs_app, sgs_beat]; exact hq3
        · rw [hflat] at hq'
          rcases List.mem_append.mp hq' with h | h
          · exact hbad q h hsp
          · obtain ⟨p, hp, rfl⟩ := List.mem_map.mp h
            exact hbad3 p (List.mem_filter.mpr ⟨hp, decide_eq_true hsp⟩)
      · rintro p rest3 _ S3 ⟨pd, c9, c10, c11, c12, rfl, hq3, hpd, hbad3⟩ N3 hN3
        have hpm : p ∈ (List.range w).filter (fun p => decide (spotC L pace (b, p) = s)) := by rw [← hpd]; simp
        have hpw : p < w := List.mem_range.mp (List.mem_filter.mp hpm).1
        have hpd2 : (pd ++ [p]) ++ rest3 = (List.range w).filter (fun p => decide (spotC L pace (b, p) = s)) := by rw [List.append_assoc]; exact hpd
        have hat := atI_nat row p _ (ch_at hok hrow hpw)
        have hin : (b, p) ∈ cells w seen.length := mem_cells.mpr ⟨hbn, hpw⟩
        have hlen : (sgs st seen L pace (bd.flatMap (beatC w)) s ++ (pd.filter fun p => putC st seen (b, p)).map fun p => chAt seen (b, p)).length < 100000 := by
          rw [List.length_append, List.length_map]
          have h1 : (sgs st seen L pace (bd.flatMap (beatC w)) s).length ≤ w * bd.length := by
            unfold sgs
            rw [List.length_map]
            exact Nat.le_trans (List.length_filter_le _ _) (flat_len (beatC w) w bd fun q _ => by simp [beatC])
          have h2 : bd.length ≤ 1000 := by have : bd.length ≤ (List.range seen.length).length := by rw [← hbd]; simp
                                           rw [List.length_range] at this; omega
          have h3 : (pd.filter fun p => putC st seen (b, p)).length ≤ 8 := by
            refine Nat.le_trans (List.length_filter_le _ _) ?_
            have : pd.length ≤ ((List.range w).filter (fun p => decide (spotC L pace (b, p) = s))).length := by rw [← hpd]; simp
            have h4 := List.length_filter_le (fun p => decide (spotC L pace (b, p) = s)) (List.range w)
            rw [List.length_range] at h4
            omega
          have h5 : w * bd.length ≤ 8 * 1000 := Nat.mul_le_mul hw h2
          omega
        have tl : ∀ {E : DEnds}, E.nx = N3 → badC st seen (b, p) = false → sIf (tAnd (tBl (dOp oNe (dOp oIdx (dOp oIdx (dVar 2) (dVar 8)) (dVar 9)) (dC (.str [63])))) (tTru (dVar 10))) (sDrop (dApp (dVar 7) (dOp oIdx (dOp oIdx (dVar 2) (dVar 8)) (dVar 9)))) (sNext) E
            [some (encSt st), some (.int (w : Int)), some (encW seen), some (.int (L : Int)), some (.int (pace : Int)), some (.str (sd.map fun s => (sgs st seen L pace (cells w seen.length) s).headD 63)), some (.int (s : Int)), some (.own n), some (.int (b : Int)), some (.int (p : Int)), some (.bl (opn st (p : Int) (b : Int))), c11, c12] S3 := by
          intro E hnx hbd'
          have hbad4 : ∀ p' ∈ pd ++ [p], badC st seen (b, p') = false := fun p' h => (List.mem_append.mp h).elim (fun z => hbad3 p' z) fun z => by rw [List.mem_singleton.mp z]; exact hbd'
          have skip : putC st seen (b, p) = false → E.nx [some (encSt st), some (.int (w : Int)), some (encW seen), some (.int (L : Int)), some (.int (pace : Int)), some (.str (sd.map fun s => (sgs st seen L pace (cells w seen.length) s).headD 63)), some (.int (s : Int)), some (.own n), some (.int (b : Int)), some (.int (p : Int)), some (.bl (opn st (p : Int) (b : Int))), c11, c12] S3 := by
            intro hp
            rw [hnx]
            refine hN3 _ _ ⟨pd ++ [p], _, _, _, _, rfl, ?_, hpd2, hbad4⟩
            rw [List.filter_append, List.filter_cons, hp]; simpa using hq3
          symm_saturate
          refine onO_intro (w_at hrow) ?_
          symm_saturate
          refine onO_intro hat ?_
          refine ne_ch ?_
          refine br_intro (b := !decide (chAt seen (b, p) = 63)) (fun h63 => ?_) fun h63 => ?_
          · symm_saturate
            refine br_intro (b := opn st (p : Int) (b : Int)) (fun ho => ?_) fun ho => ?_
            · have hp : putC st seen (b, p) = true := by simp only [putC]; rw [h63, ho]; rfl
              symm_saturate
              rw [hq3]
              symm_saturate
              refine onO_intro (w_at hrow) ?_
              symm_saturate
              refine onO_intro hat ?_
              symm_saturate
              rw [hq3]
              refine ⟨by rw [List.length_map]; exact Nat.lt_trans hlen (by decide), ?_⟩
              rw [hnx]
              refine hN3 _ _ ⟨pd ++ [p], _, _, _, _, rfl, ?_, hpd2, hbad4⟩
              rw [List.getElem?_set_self (List.getElem?_eq_some_iff.mp hq3).1, List.filter_append, List.filter_cons, hp]
              simp [chD]
            · exact skip (by simp only [putC]; rw [ho, Bool.and_false])
          · exact skip (by simp only [putC]; rw [h63, Bool.false_and])
        symm_saturate
        refine lc_map encS (fun s => D.str [sgn (sgnAt s (p : Int) (b : Int))]) st (len_le (by have := hs.2; omega)) (fun x hx K1 K0 h1 => call_law_sign (hs.1 x hx) h1) ?_
        refine in_open st p b ?_
        symm_saturate
        refine onO_intro (w_at hrow) ?_
        symm_saturate
        refine onO_intro hat ?_
        refine eq_ch ?_
        refine br_intro (b := decide (chAt seen (b, p) = 46)) (fun h46 => ?_) fun h46 => ?_
        · symm_saturate
          refine br_intro (b := !opn st (p : Int) (b : Int)) (fun ho => ?_) fun ho => ?_
          · refine none' (may_bad hin ?_) _
            simp only [badC, h46, Bool.true_and]
            exact ho
          · exact tl rfl (by simp only [badC]; rw [ho, Bool.and_false])
        · exact tl rfl (by simp only [badC]; rw [h46, Bool.false_and])
theorem call_law_may {st : Stack} {w : Nat} {seen : List (List Nat)} {L pace : Nat} (h1 : okSt st) (h2 : okSeen w seen) (h3 : w ≤ 8) (h4 : seen.length ≤ 1000) (h5 : 0 < L) (h6 : L ≤ 10) (h7 : pace ≤ 10) {S : Sto} {k : DK} (hk : k (encOS (mayM st w seen L pace)) S) :
    callP F_law_may [encSt st, .int (w : Int), encW seen, .int (L : Int), .int (pace : Int)] S k := call_may_be h1 h2 h3 h4 h5 h6 h7 hk
end Dat
set_option Elab.async false
set_option linter.all false
set_option maxRecDepth 100000
set_option maxHeartbeats 4000000
set_option exponentiation.threshold 2000
/-! PmA: all so, shown, filled so. -/
namespace Dat
local macro_rules | `(tactic| symm_saturate) => `(tactic| with_reducible conv => whnf)
mutual
theorem eqv_self : ∀ {d : D}, d.pln = true → d.eqv d = true
  | .non, _ => rfl
  | .bl b, _ => by simp [D.eqv]
  | .int i, _ => by simp [D.eqv]
  | .str s, _ => by simp [D.eqv]
  | .lst xs, h => by simp only [D.eqv]; exact eqvAll_self (by simpa [D.pln] using h)
  | .tup xs, h => by simp only [D.eqv]; exact eqvAll_self (by simpa [D.pln] using h)
  | .own _, h => by simp [D.pln] at h
  | .scr _, h => by simp [D.pln] at h
theorem eqvAll_self : ∀ {ds : List D}, D.plnAll ds = true → D.eqvAll ds ds = true
  | [], _ => rfl
  | d :: ds, h => by
    simp only [D.plnAll, Bool.and_eq_true] at h
    simp only [D.eqvAll, Bool.and_eq_true]
    exact ⟨eqv_self h.1, eqvAll_self h.2⟩
end
theorem eq_same {x : D} {S : Sto} {k : DK} (hp : x.pln = true) (hd : x.dep ≤ 64) (hk : k (.bl true) S) : oEq x x S k := by
  unfold oEq
  rw [pln_res hp, eqv_self hp]
  exact ⟨⟨hp, hp, .inl hd⟩, hk⟩
theorem ne_same {x : D} {S : Sto} {k : DK} (hp : x.pln = true) (hd : x.dep ≤ 64) (hk : k (.bl false) S) : oNe x x S k := by
  unfold oNe
  rw [pln_res hp, eqv_self hp]
  exact ⟨⟨hp, hp, .inl hd⟩, hk⟩
theorem depA (q : Row3) : (encA q).dep ≤ 1 := by simp [encA, D.dep, D.depAll]
def F_law_all_so : FSp := fun ds S k => ∃ (st : Stack) (w : Nat) (seen : List (List Nat)) (c : Nat × Nat), ds = [encSt st, .int (w : Int), encW seen, encC c] ∧ okSt st ∧ okSeen w seen ∧ w ≤ 8 ∧ seen.length ≤ 1000 ∧ k (.bl true) S
theorem p_law_all_so : ∀ ds S k, F_law_all_so ds S k → b_law_all_so F_law_may F_may_be F_all_that_may (bodyK k) (entry 8 ds) S := by
  rintro _ S k ⟨st, w, seen, c, rfl, hs, hok, hw, hsl, hk⟩
  refine ⟨l0, ?_⟩
  symm_saturate
  refine ⟨⟨by decide, by decide, by decide, by decide⟩, ?_⟩
  symm_saturate
  rw [show rngD 1 (11 : Int) = (List.range 10).map fun (i : Nat) => D.int (1 + (i : Int)) from rng_lo 1 10]
  refine forT_ind (fun i : Nat => D.int (1 + (i : Int))) (fun rest env s => s = S ∧ ∃ (l : List (Nat × Nat)) (a5 a6 a7 : Option D), env = [some (encSt st), some (.int (w : Int)), some (encW seen), some (encC c), some (.lst ((entM st w seen l).map encA)), a5, a6, a7] ∧ l ++ rest.flatMap (fun i => (List.range (1 + i)).map fun s => (1 + i, s)) = pairsM ∧ ∀ i ∈ rest, i < 10) ?_ ?_ (List.range 10) _ _
    ⟨rfl, [], _, _, _, rfl, rfl, fun i hi => List.mem_range.mp hi⟩
  · rintro _ S ⟨rfl, l, a5, a6, a7, rfl, hl, _⟩
    rw [List.flatMap_nil, List.append_nil] at hl
    subst hl
    symm_saturate
    refine call_all_that_may hs hok hw hsl ?_
    symm_saturate
    refine eq_same (x := .lst ((entM st w seen pairsM).map encA)) (by simp only [D.pln]; exact plnAll_map (f := encA) (fun _ => rfl) _) ?_ hk
    have := depAll_map (f := encA) (n := 1) depA (entM st w seen pairsM)
    simp only [D.dep]; omega
  · rintro i rest _ S ⟨rfl, l, a5, a6, a7, rfl, hl, hi⟩ N hN
    have hi10 := hi i (List.mem_cons_self ..)
    rw [List.flatMap_cons] at hl
    symm_saturate
    refine ⟨⟨by omega, by omega⟩, ?_⟩
    have ei : (1 : Int) + (i : Int) = ((1 + i : Nat) : Int) := by omega
    rw [ei, rng_map]
    symm_saturate
    refine forT_ind (fun p : Nat => D.int (p : Int)) (fun rest2 env s => s = S ∧ ∃ (dn : List Nat) (a6 a7 : Option D), env = [some (encSt st), some (.int (w : Int)), some (encW seen), some (encC c), some (.lst ((entM st w seen (l ++ dn.map fun s => (1 + i, s))).map encA)), some (.int ((1 + i : Nat) : Int)), a6, a7] ∧ dn ++ rest2 = List.range (1 + i)) ?_ ?_ (List.range (1 + i)) _ _
      ⟨rfl, [], a6, a7, by simp, rfl⟩
    · rintro _ S ⟨rfl, dn, b6, b7, rfl, hdn⟩
      rw [List.append_nil] at hdn
      subst hdn
      exact hN _ _ ⟨rfl, _, _, _, _, rfl, by rw [List.append_assoc]; exact hl, fun j hj => hi j (List.mem_cons_of_mem _ hj)⟩
    · rintro p rest2 _ S ⟨rfl, dn, b6, b7, rfl, hdn⟩ N2 hN2
      have hp : p < 1 + i := by have : p ∈ List.range (1 + i) := by rw [← hdn]; simp
                                exact List.mem_range.mp this
      have hdn2 : (dn ++ [p]) ++ rest2 = List.range (1 + i) := by rw [List.append_assoc]; exact hdn
      have eapp : l ++ (dn ++ [p]).map (fun s => (1 + i, s)) = (l ++ dn.map fun s => (1 + i, s)) ++ [(1 + i, p)] := by rw [List.map_append, List.append_assoc]; rfl
      have hlen : (l ++ dn.map fun s => (1 + i, s)).length ≤ 55 := by
        have h1 : (l ++ ((List.range (1 + i)).map fun s => (1 + i, s))).length ≤ pairsM.length := by rw [← hl, ← List.append_assoc]; simp
        rw [pairs_len] at h1
        rw [List.length_append, List.length_map] at h1 ⊢
        have h2 : dn.length ≤ (List.range (1 + i)).length := by rw [← hdn]; simp
        omega
      generalize hLL : (l ++ dn.map fun s => (1 + i, s)) = ll at eapp hlen ⊢
      have hel := Nat.le_trans (ent_len st w seen ll) hlen
      symm_saturate
      refine call_law_may hs hok hw hsl (by omega) (by omega) (by omega) ?_
      have tl : ∀ {E : DEnds}, E.nx = N2 → sIf (tAnd (tBl (dOp oEq (dTup (aCons (dVar 5) (aCons (dVar 6) (aNil)))) (dVar 3))) (tBl (dOp oNe (dCall F_may_be (aCons (dVar 0) (aCons (dVar 1) (aCons (dVar 2) (aCons (dVar 5) (aCons (dVar 6) (aNil))))))) (dVar 7)))) (sRet (dC (.bl false))) (sNext) E
          [some (encSt st), some (.int (w : Int)), some (encW seen), some (encC c), some (.lst ((entM st w seen (ll ++ [(1 + i, p)])).map encA)), some (.int ((1 + i : Nat) : Int)), some (.int (p : Int)), some (encOS (mayM st w seen (1 + i) p))] S := by
        intro E hnx
        have fin : E.nx [some (encSt st), some (.int (w : Int)), some (encW seen), some (encC c), some (.lst ((entM st w seen (ll ++ [(1 + i, p)])).map encA)), some (.int ((1 + i : Nat) : Int)), some (.int (p : Int)), some (encOS (mayM st w seen (1 + i) p))] S := by
          rw [hnx]
          exact hN2 _ _ ⟨rfl, dn ++ [p], _, _, by rw [eapp], hdn2⟩
        symm_saturate
        refine ⟨l2, ?_⟩
        symm_saturate
        refine eq_good (e := encC) (a := (1 + i, p)) (b := c) goodC (by decide) rfl rfl ?_
        refine br_intro (fun _ => ?_) fun _ => fin
        symm_saturate
        refine call_may_be hs hok hw hsl (by omega) (by omega) (by omega) ?_
        symm_saturate
        refine ne_same (by cases mayM st w seen (1 + i) p <;> rfl) (by cases mayM st w seen (1 + i) p <;> simp [encOS, D.dep]) ?_
        exact fin
      cases hm : mayM st w seen (1 + i) p with
      | none =>
        rw [hm] at tl
        have e : (entM st w seen (ll ++ [(1 + i, p)])).map encA = (entM st w seen ll).map encA ++ repL (0 : Int).toNat [D.tup [.int ((1 + i : Nat) : Int), .int (p : Int), .non]] := by
          rw [ent_app]; simp [entM, hm, repL]
        rw [e] at tl
        symm_saturate
        refine ⟨l3, ?_⟩
        refine ⟨l1, ?_⟩
        symm_saturate
        refine ⟨⟨by decide, by decide, by simp⟩, ?_⟩
        symm_saturate
        refine ⟨len_le (by rw [List.length_map, len_repL]; simp only [List.length_cons, List.length_nil]; have : (if (!isNon (encOS none)) = true then (1 : Int) else 0).toNat = 0 := rfl
                           omega), ?_⟩
        exact tl rfl
      | some t =>
        rw [hm] at tl
        have e : (entM st w seen (ll ++ [(1 + i, p)])).map encA = (entM st w seen ll).map encA ++ repL (1 : Int).toNat [D.tup [.int ((1 + i : Nat) : Int), .int (p : Int), .str t]] := by
          rw [ent_app, List.map_append]; simp [entM, hm, repL, encA]
        rw [e] at tl
        symm_saturate
        refine ⟨l3, ?_⟩
        refine ⟨l1, ?_⟩
        symm_saturate
        refine ⟨⟨by show (0 : Int) ≤ 1; decide, by show (1 : Int) ≤ 1000; decide, by simp⟩, ?_⟩
        symm_saturate
        refine ⟨len_le (by rw [List.length_map, len_repL]; simp only [List.length_cons, List.length_nil]; have : (if (!isNon (encOS (some t))) = true then (1 : Int) else 0).toNat = 1 := rfl
                           omega), ?_⟩
        exact tl rfl
theorem call_law_all_so {st : Stack} {w : Nat} {seen : List (List Nat)} {c : Nat × Nat} (h1 : okSt st) (h2 : okSeen w seen) (h3 : w ≤ 8) (h4 : seen.length ≤ 1000) {S : Sto} {k : DK} (hk : k (.bl true) S) : callP F_law_all_so [encSt st, .int (w : Int), encW seen, encC c] S k :=
  callP_intro (purC (purSt _) (purC rfl (purC (purW _) rfl))) (d := .bl true) rfl hk fun K hK => ⟨st, w, seen, c, rfl, h1, h2, h3, h4, hK⟩
end Dat
set_option Elab.async false
set_option linter.all false
set_option maxRecDepth 100000
set_option maxHeartbeats 4000000
set_option exponentiation.threshold 2000
/-! PmB: rows shown, a sheet filled. -/
namespace Dat
local macro_rules | `(tactic| symm_saturate) => `(tactic| with_reducible conv => whnf)
def shownM (st : Stack) (sh : Sheet) (w n : Nat) : List (List Nat) := (List.range n).map fun (b : Nat) => (rowM (st ++ [sh]) w (b : Int)).map sgn
theorem shown_at {st : Stack} {sh : Sheet} {w n b : Nat} (hb : b < n) : (shownM st sh w n)[b]? = some ((rowM (st ++ [sh]) w (b : Int)).map sgn) := by
  unfold shownM; rw [List.getElem?_map, List.getElem?_range hb]; rfl
theorem shown_len (st : Stack) (sh : Sheet) (w n : Nat) : (shownM st sh w n).length = n := by simp [shownM]
theorem row_get (st : Stack) (w : Nat) (b : Int) {p : Nat} (hp : p < w) : ((rowM st w b).map sgn)[p]? = some (sgn (opn st (p : Int) b)) := by
  unfold rowM; rw [List.getElem?_map, List.getElem?_map, List.getElem?_range hp]; rfl
theorem shown_ch {st : Stack} {sh : Sheet} {w n : Nat} {q : Cell} (h1 : q.1 < n) (h2 : q.2 < w) : chAt (shownM st sh w n) q = sgn (opn (st ++ [sh]) (q.2 : Int) (q.1 : Int)) := by
  unfold chAt
  rw [List.getD_eq_getElem?_getD, List.getD_eq_getElem?_getD, shown_at h1, Option.getD_some, row_get _ _ _ h2, Option.getD_some]
theorem sgn_cases (b : Bool) : sgn b = 46 ∨ sgn b = 35 := by cases b <;> decide
theorem shown_ok (st : Stack) (sh : Sheet) (w n : Nat) : okSeen w (shownM st sh w n) := by
  intro r hr
  obtain ⟨b, _, rfl⟩ := List.mem_map.mp hr
  refine ⟨by simp [rowM], fun c hc => ?_⟩
  obtain ⟨x, _, rfl⟩ := List.mem_map.mp hc
  rcases sgn_cases x with e | e
  · exact .inl e
  · exact .inr (.inl e)
theorem opn_app (st : Stack) (sh : Sheet) (p b : Int) : opn (st ++ [sh]) p b = (opn st p b && sgnAt sh p b) := by simp [opn]
theorem sgnAt_spot (text : List Bool) (pace : Nat) (q : Cell) (ht : text ≠ []) : sgnAt ⟨text, (pace : Int), 0⟩ (q.2 : Int) (q.1 : Int) = text.getD (spotC text.length pace q) false := by
  unfold sgnAt spotC
  have e : ((0 : Int) + (q.2 : Int) + (pace : Int) * (q.1 : Int)) % ((text.length : Nat) : Int) = (((q.2 + pace * q.1) % text.length : Nat) : Int) := by push_cast; rw [Int.zero_add]
  rw [e, Int.toNat_natCast]
def F_law_shown : FSp := fun ds S k => ∃ (st : Stack) (sh : Sheet) (w n : Nat), ds = [encSt st, encS sh, .int (w : Int), .int (n : Int)] ∧ okSt st ∧ st.length ≤ 900 ∧ sh.ok ∧ w ≤ 1000 ∧ n ≤ 1000 ∧ k (.lst ((shownM st sh w n).map D.str)) S
theorem okSt_app {st : Stack} {sh : Sheet} (h : okSt st) (hl : st.length ≤ 900) (h2 : sh.ok) : okSt (st ++ [sh]) := ⟨fun s hs => (List.mem_append.mp hs).elim (fun z => h.1 s z) fun z => by rw [List.mem_singleton.mp z]; exact h2, by simp; omega⟩
theorem p_law_shown : ∀ ds S k, F_law_shown ds S k → b_law_shown F_law_row (bodyK k) (entry 5 ds) S := by
  rintro _ S k ⟨st, sh, w, n, rfl, hs, hl, hsh, hw, hn, hk⟩
  symm_saturate
  refine ⟨⟨by omega, by omega⟩, ?_⟩
  rw [rng_map]
  refine lc_map (fun b : Nat => D.int (b : Int)) (fun (b : Nat) => D.str ((rowM (st ++ [sh]) w (b : Int)).map sgn)) (List.range n) (len_le (by simp; omega)) (fun b hb K1 K0 h1 => ?_) ?_
  · symm_saturate
    refine ⟨l1, ?_⟩
    symm_saturate
    refine ⟨len_le (by rw [List.length_map]; simp only [List.length_cons, List.length_nil]; omega), ?_⟩
    rw [show st.map encS ++ [encS sh] = (st ++ [sh]).map encS by rw [List.map_append]; rfl]
    exact call_law_row (okSt_app hs hl hsh) hw h1
  · have e : (shownM st sh w n).map D.str = (List.range n).map fun (b : Nat) => D.str ((rowM (st ++ [sh]) w (b : Int)).map sgn) := by unfold shownM; rw [List.map_map]; rfl
    rw [e] at hk
    exact hk
theorem call_law_shown {st : Stack} {sh : Sheet} {w n : Nat} (h1 : okSt st) (h2 : st.length ≤ 900) (h3 : sh.ok) (h4 : w ≤ 1000) (h5 : n ≤ 1000) {S : Sto} {k : DK} (hk : k (.lst ((shownM st sh w n).map D.str)) S) : callP F_law_shown [encSt st, encS sh, .int (w : Int), .int (n : Int)] S k :=
  callP_intro (purC (purSt _) (purC (purS sh) rfl)) (d := .lst _) (by simp only [D.pur]; exact purAll_map (fun _ => rfl) _) hk fun K hK => ⟨st, sh, w, n, rfl, h1, h2, h3, h4, h5, hK⟩
/-- what was seen is what is shown, some places unseen -/
def Hid (st : Stack) (text : List Bool) (pace w : Nat) (seen : List (List Nat)) : Prop := ∀ q ∈ cells w seen.length, chAt seen q = 63 ∨ chAt seen q = sgn (opn (st ++ [⟨text, (pace : Int), 0⟩]) (q.2 : Int) (q.1 : Int))
section
variable {st : Stack} {text : List Bool} {pace w : Nat} {seen : List (List Nat)}
theorem hid_put (h : Hid st text pace w seen) (ht : text ≠ []) {q : Cell} (hq : q ∈ cells w seen.length) (hp : putC st seen q = true) : chAt seen q = sgn (text.getD (spotC text.length pace q) false) := by
  simp only [putC, Bool.and_eq_true, Bool.not_eq_true', decide_eq_false_iff_not] at hp
  rcases h q hq with e | e
  · exact absurd e hp.1
  · rw [opn_app, hp.2, Bool.true_and, sgnAt_spot _ _ _ ht] at e; exact e
theorem hid_bad (h : Hid st text pace w seen) {q : Cell} (hq : q ∈ cells w seen.length) : badC st seen q = false := by
  cases hb : badC st seen q with
  | false => rfl
  | true =>
    simp only [badC, Bool.and_eq_true, decide_eq_true_eq, Bool.not_eq_true'] at hb
    rcases h q hq with e | e
    · omega
    · rw [opn_app, hb.2, Bool.false_and, hb.1] at e
      exact absurd e (by decide)
theorem hid_sgs (h : Hid st text pace w seen) (ht : text ≠ []) (s : Nat) : ∀ c ∈ sgs st seen text.length pace (cells w seen.length) s, c = sgn (text.getD s false) := by
  intro c hc
  unfold sgs at hc
  obtain ⟨q, hq, rfl⟩ := List.mem_map.mp hc
  obtain ⟨h1, h2⟩ := List.mem_filter.mp hq
  simp only [Bool.and_eq_true, decide_eq_true_eq] at h2
  rw [hid_put h ht h1 h2.1, h2.2]
theorem hid_conf (h : Hid st text pace w seen) (ht : text ≠ []) (s : Nat) : conf (sgs st seen text.length pace (cells w seen.length) s) = false := by
  cases hc : conf (sgs st seen text.length pace (cells w seen.length) s) with
  | false => rfl
  | true =>
    simp only [conf, Bool.and_eq_true, decide_eq_true_eq] at hc
    have h1 := hid_sgs h ht s _ hc.1
    have h2 := hid_sgs h ht s _ hc.2
    omega
theorem hid_may (h : Hid st text pace w seen) (ht : text ≠ []) : mayM st w seen text.length pace = some (fndM st seen text.length pace (cells w seen.length)) :=
  may_some (fun q hq => hid_bad h hq) fun s _ => hid_conf h ht s
theorem hid_head (h : Hid st text pace w seen) (ht : text ≠ []) (s : Nat) : (sgs st seen text.length pace (cells w seen.length) s).headD 63 = 63 ∨ (sgs st seen text.length pace (cells w seen.length) s).headD 63 = sgn (text.getD s false) := by
  cases hg : sgs st seen text.length pace (cells w seen.length) s with
  | nil => exact .inl rfl
  | cons c r => exact .inr (hid_sgs h ht s c (by rw [hg]; exact List.mem_cons_self ..))
/-- what was put there is found -/
theorem hid_found (h : Hid st text pace w seen) (ht : text ≠ []) {q : Cell} (hq : q ∈ cells w seen.length) (hp : putC st seen q = true) : (sgs st seen text.length pace (cells w seen.length) (spotC text.length pace q)).headD 63 = chAt seen q := by
  have hm : chAt seen q ∈ sgs st seen text.length pace (cells w seen.length) (spotC text.length pace q) := by
    unfold sgs
    exact List.mem_map.mpr ⟨q, List.mem_filter.mpr ⟨hq, by simp [hp]⟩, rfl⟩
  cases hg : sgs st seen text.length pace (cells w seen.length) (spotC text.length pace q) with
  | nil => rw [hg] at hm; cases hm
  | cons c r =>
    rw [hg] at hm
    have h1 := hid_sgs h ht _ c (by rw [hg]; exact List.mem_cons_self ..)
    have h2 := hid_sgs h ht _ _ (by rw [hg]; exact hm)
    rw [List.headD_cons, h1, h2]
end
end Dat
set_option Elab.async false
set_option linter.all false
set_option maxRecDepth 100000
set_option maxHeartbeats 4000000
set_option exponentiation.threshold 2000
/-! PmC: a sheet filled. -/
namespace Dat
local macro_rules | `(tactic| symm_saturate) => `(tactic| with_reducible conv => whnf)
def fillB (l : List Nat) (z : Nat) : List Bool := l.map fun d => decide ((if d = 63 then z else d) = 46)
theorem fill_sgn {z : Nat} (hz : z = 46 ∨ z = 35) : ∀ {l : List Nat}, (∀ c ∈ l, c = 63 ∨ c = 46 ∨ c = 35) → (fillB l z).map sgn = l.map fun d => if d = 63 then z else d
  | [], _ => rfl
  | d :: l, h => by
    have ih := fill_sgn hz (l := l) fun c hc => h c (List.mem_cons_of_mem _ hc)
    unfold fillB at ih ⊢
    simp only [List.map_cons]
    rw [ih]
    congr 1
    rcases h d (List.mem_cons_self ..) with e | e | e
    · subst e; rcases hz with e | e <;> subst e <;> decide
    · subst e; rfl
    · subst e; rfl
section
variable {st : Stack} {text : List Bool} {pace w : Nat} {seen : List (List Nat)}
theorem fill_fits (hok : okSeen w seen) (h : Hid st text pace w seen) (ht : text ≠ []) {z : Nat} {q : Cell} (hq : q ∈ cells w seen.length) :
    chAt seen q ∈ [63, sgn (opn (st ++ [⟨fillB (fndM st seen text.length pace (cells w seen.length)) z, (pace : Int), 0⟩]) (q.2 : Int) (q.1 : Int))] := by
  have hpos : 0 < text.length := List.length_pos_iff.mpr ht
  simp only [List.mem_cons, List.not_mem_nil, or_false]
  by_cases h63 : chAt seen q = 63
  · exact .inl h63
  · refine .inr ?_
    rw [opn_app]
    cases ho : opn st (q.2 : Int) (q.1 : Int) with
    | false =>
      rcases h q hq with e | e
      · exact absurd e h63
      · rw [opn_app, ho, Bool.false_and] at e; rw [e, Bool.false_and]
    | true =>
      have hp : putC st seen q = true := by simp [putC, h63, ho]
      have hlen : (fillB (fndM st seen text.length pace (cells w seen.length)) z).length = text.length := by unfold fillB; rw [List.length_map, fnd_len]
      rw [Bool.true_and, sgnAt_spot _ _ _ (fun e => by rw [e] at hlen; simp at hlen; omega), hlen]
      have hs := spot_lt (pace := pace) hpos q
      rw [List.getD_eq_getElem?_getD]
      unfold fillB
      rw [List.getElem?_map, fnd_at hs, Option.map_some, Option.getD_some, hid_found h ht hq hp, if_neg h63]
      rcases ch_ok hok q with e | e | e
      · rw [e]; decide
      · rw [e]; decide
      · exact absurd e h63
theorem fnd_ok (hok : okSeen w seen) (l : List Cell) : ∀ c ∈ fndM st seen text.length pace l, c = 63 ∨ c = 46 ∨ c = 35 := by
  intro c hc
  unfold fndM at hc
  obtain ⟨s, _, rfl⟩ := List.mem_map.mp hc
  have := sgs_ok (st := st) (L := text.length) (pace := pace) hok l s
  cases hg : sgs st seen text.length pace l s with
  | nil => exact .inl rfl
  | cons d r => rw [hg] at this; exact .inr (this d (List.mem_cons_self ..))
end
theorem zip_at {α β : Type} {a : List α} {b : List β} {q : α × β} (h : q ∈ a.zip b) : ∃ i : Nat, a[i]? = some q.1 ∧ b[i]? = some q.2 := by
  obtain ⟨i, hi⟩ := List.mem_iff_getElem?.mp h
  exact ⟨i, List.getElem?_zip_eq_some.mp hi⟩
theorem not_in_pair {S : Sto} {c d : Nat} {k : DK} (hk : k (.bl (!decide (c ∈ [63, d]))) S) : oNotIn (.str [c]) (.tup [.str [63], .str [d]]) S k := by
  refine ⟨in_chT_ok c [63, d], ?_⟩
  rw [show inD (D.str [c]) (res S (D.tup [D.str [63], D.str [d]])) = decide (c ∈ [63, d]) from in_chT c [63, d]]
  exact hk
def F_law_filled_so : FSp := fun ds S k => ∃ (st : Stack) (text : List Bool) (pace w : Nat) (seen : List (List Nat)), ds = [encSt st, .int (w : Int), encW seen, .tup [encR text, .int (pace : Int)]] ∧ okSt st ∧ st.length ≤ 900 ∧ okSeen w seen ∧ w ≤ 8 ∧ seen.length ≤ 1000 ∧ text ≠ [] ∧ text.length ≤ 10 ∧ pace ≤ 10 ∧ Hid st text pace w seen ∧ k (.bl true) S
theorem p_law_filled_so : ∀ ds S k, F_law_filled_so ds S k → b_law_filled_so F_may_be F_law_shown (bodyK k) (entry 13 ds) S := by
  rintro _ S k ⟨st, text, pace, w, seen, rfl, hs, hsl9, hok, hw, hsl, ht, htl, hp10, hid, hk⟩
  have hpos : 0 < text.length := List.length_pos_iff.mpr ht
  symm_saturate
  refine ⟨rfl, ?_⟩
  symm_saturate
  rw [show ((text.map sgn).length : Int) = ((text.length : Nat) : Int) by rw [List.length_map]]
  refine call_may_be hs hok hw hsl hpos htl hp10 ?_
  rw [hid_may hid ht]
  symm_saturate
  rw [zip_map (fun c => D.str [c])]
  refine lc_pure (fun q : Nat × Nat => D.tup [.str [q.1], .str [q.2]]) (fun q => !decide (q.1 ∈ [63, q.2])) (fun _ => .int 1) ((fndM st seen text.length pace (cells w seen.length)).zip (text.map sgn)) [] (len_le (by rw [List.length_zip, fnd_len, List.length_map]; simp only [List.length_nil]; omega)) (fun q hq K1 K0 h1 h2 => ?_) ?_
  · refine ⟨rfl, ?_⟩
    symm_saturate
    refine ⟨l2, ?_⟩
    refine not_in_pair ?_
    exact br_intro h1 h2
  rw [List.nil_append]
  refine ⟨l0, ?_⟩
  refine ne_nilD (plnAll_map (f := fun _ => D.int 1) (fun _ => rfl) _) ?_
  rw [map_empty, filter_empty]
  have hfz : (((fndM st seen text.length pace (cells w seen.length)).zip (text.map sgn)).all fun a => !(!decide (a.1 ∈ [63, a.2]))) = true := by
    rw [List.all_eq_true]
    intro q hq
    obtain ⟨i, h1, h2⟩ := zip_at hq
    have hi : i < text.length := by have := (List.getElem?_eq_some_iff.mp h1).1; rw [fnd_len] at this; exact this
    rw [fnd_at hi] at h1
    rw [List.getElem?_map, List.getElem?_eq_getElem hi] at h2
    have e1 := Option.some.inj h1
    have e2 := Option.some.inj h2
    rw [Bool.not_not, decide_eq_true_eq, ← e1, ← e2]
    have e3 : text.getD i false = text[i] := by rw [List.getD_eq_getElem?_getD, List.getElem?_eq_getElem hi]; rfl
    rcases hid_head hid ht i with e | e
    · rw [e]; simp
    · rw [e, e3]; simp
  rw [hfz]
  symm_saturate
  rw [Bool.not_true]
  symm_saturate
  have hfl : (fndM st seen text.length pace (cells w seen.length)).length = text.length := fnd_len _
  refine forT_ind (fun z : Nat => D.str [z]) (fun rest env s => s = S ∧ (∀ z ∈ rest, z = 46 ∨ z = 35) ∧ ∃ (a7 a8 a9 a10 a11 a12 : Option D), env = [some (encSt st), some (.int (w : Int)), some (encW seen), some (.tup [encR text, .int (pace : Int)]), some (encR text), some (.int (pace : Int)), some (.str (fndM st seen text.length pace (cells w seen.length))), a7, a8, a9, a10, a11, a12]) ?_ ?_ [46, 35] _ S
    ⟨rfl, by decide, _, _, _, _, _, _, rfl⟩
  · rintro _ S ⟨rfl, _, a7, a8, a9, a10, a11, a12, rfl⟩
    exact hk
  · rintro z rest _ S ⟨rfl, hz, a7, a8, a9, a10, a11, a12, rfl⟩ N hN
    have hz1 := hz z (List.mem_cons_self ..)
    symm_saturate
    refine ⟨⟨by omega, by rw [hfl]; omega⟩, ?_⟩
    refine ⟨l3, ?_⟩
    have hsh : (D.tup [.str ((fndM st seen text.length pace (cells w seen.length)).map fun d => if d = 63 then z else d), .int (pace : Int), .int 0]) = encS ⟨fillB (fndM st seen text.length pace (cells w seen.length)) z, (pace : Int), 0⟩ := by
      simp only [encS]
      rw [fill_sgn hz1 (fnd_ok hok _)]
    have hfb : (fillB (fndM st seen text.length pace (cells w seen.length)) z).length = text.length := by unfold fillB; rw [List.length_map, hfl]
    have hshok : Sheet.ok ⟨fillB (fndM st seen text.length pace (cells w seen.length)) z, (pace : Int), 0⟩ := ⟨fun e => by simp only at e; rw [e] at hfb; simp at hfb; omega, by simp only; omega, by simp only; omega, by simp only; omega⟩
    rw [hsh]
    symm_saturate
    rw [show ((seen.map D.str).length : Int) = ((seen.length : Nat) : Int) by rw [List.length_map]]
    refine call_law_shown hs hsl9 hshok (by omega) hsl ?_
    symm_saturate
    rw [zip_map D.str]
    refine forT_ind (fun q : List Nat × List Nat => D.tup [.str q.1, .str q.2]) (fun rest2 env s => s = S ∧ (∀ q ∈ rest2, q ∈ (shownM st ⟨fillB (fndM st seen text.length pace (cells w seen.length)) z, (pace : Int), 0⟩ w seen.length).zip seen) ∧ ∃ (a7 a8 a9 a10 a11 a12 : Option D), env = [some (encSt st), some (.int (w : Int)), some (encW seen), some (.tup [encR text, .int (pace : Int)]), some (encR text), some (.int (pace : Int)), some (.str (fndM st seen text.length pace (cells w seen.length))), a7, a8, a9, a10, a11, a12]) ?_ ?_ _ _ S
      ⟨rfl, fun q h => h, _, _, _, _, _, _, rfl⟩
    · rintro _ S ⟨rfl, _, b7, b8, b9, b10, b11, b12, rfl⟩
      exact hN _ _ ⟨rfl, fun y hy => hz y (List.mem_cons_of_mem _ hy), _, _, _, _, _, _, rfl⟩
    · rintro ⟨one, other⟩ rest2 _ S ⟨rfl, hin, b7, b8, b9, b10, b11, b12, rfl⟩ N2 hN2
      obtain ⟨b, hb1, hb2⟩ := zip_at (hin _ (List.mem_cons_self ..))
      have hbn : b < seen.length := (List.getElem?_eq_some_iff.mp hb2).1
      rw [shown_at hbn] at hb1
      have eone := Option.some.inj hb1
      simp only at eone
      refine ⟨rfl, ?_⟩
      symm_saturate
      rw [zip_map (fun c => D.str [c])]
      have hol := (hok _ (List.mem_of_getElem? hb2)).1
      simp only at hol
      refine lc_pure (fun q : Nat × Nat => D.tup [.str [q.1], .str [q.2]]) (fun q => !decide (q.2 ∈ [63, q.1])) (fun _ => .int 1) (one.zip other) [] (len_le (by rw [List.length_zip]; simp only [List.length_nil]; omega)) (fun q hq K1 K0 h1 h2 => ?_) ?_
      · refine ⟨rfl, ?_⟩
        symm_saturate
        refine ⟨l2, ?_⟩
        refine not_in_pair ?_
        exact br_intro h1 h2
      rw [List.nil_append]
      refine ⟨l0, ?_⟩
      refine ne_nilD (plnAll_map (f := fun _ => D.int 1) (fun _ => rfl) _) ?_
      rw [map_empty, filter_empty]
      have hfz2 : ((one.zip other).all fun a => !(!decide (a.2 ∈ [63, a.1]))) = true := by
        rw [List.all_eq_true]
        intro q hq
        obtain ⟨p, h1, h2⟩ := zip_at hq
        have hpw : p < w := by have := (List.getElem?_eq_some_iff.mp h2).1; omega
        rw [← eone, row_get _ _ _ hpw] at h1
        have hc := ch_at hok hb2 hpw
        simp only at hc
        rw [hc] at h2
        have e1 := Option.some.inj h1
        have e2 := Option.some.inj h2
        rw [Bool.not_not, decide_eq_true_eq, ← e1, ← e2]
        exact fill_fits hok hid ht (q := (b, p)) (mem_cells.mpr ⟨hbn, hpw⟩)
      rw [hfz2]
      symm_saturate
      rw [Bool.not_true]
      exact hN2 _ _ ⟨rfl, fun y hy => hin y (List.mem_cons_of_mem _ hy), _, _, _, _, _, _, rfl⟩
theorem call_law_filled_so {st : Stack} {text : List Bool} {pace w : Nat} {seen : List (List Nat)} (h1 : okSt st) (h2 : st.length ≤ 900) (h3 : okSeen w seen) (h4 : w ≤ 8) (h5 : seen.length ≤ 1000) (h6 : text ≠ []) (h7 : text.length ≤ 10) (h8 : pace ≤ 10) (h9 : Hid st text pace w seen) {S : Sto} {k : DK} (hk : k (.bl true) S) :
    callP F_law_filled_so [encSt st, .int (w : Int), encW seen, .tup [encR text, .int (pace : Int)]] S k :=
  callP_intro (purC (purSt _) (purC rfl (purC (purW _) rfl))) (d := .bl true) rfl hk fun K hK => ⟨st, text, pace, w, seen, rfl, h1, h2, h3, h4, h5, h6, h7, h8, h9, hK⟩
end Dat
set_option Elab.async false
set_option linter.all false
set_option maxRecDepth 100000
set_option maxHeartbeats 4000000
set_option exponentiation.threshold 2000
/-! PmD: by how many beats a pattern is known. -/
namespace Dat
local macro_rules | `(tactic| symm_saturate) => `(tactic| with_reducible conv => whnf)
def metC (st : Stack) (L pace : Nat) (l : List Cell) (s : Nat) : Bool := l.any fun q => opn st (q.2 : Int) (q.1 : Int) && decide (spotC L pace q = s)
def allMet (st : Stack) (L pace : Nat) (l : List Cell) : Bool := (List.range L).all fun s => metC st L pace l s
def knownM (st : Stack) (w L pace : Nat) : Option Nat := ((List.range (whole st * L)).find? fun b => allMet st L pace (cells w (b + 1))).map (· + 1)
def kvI (s : Nat) : DKey × D := (.inl (s : Int), .bl true)
theorem kvI_inj {s t : Nat} : (kvI s).1 = .inl (t : Int) ↔ s = t := by
  simp only [kvI, Sum.inl.injEq]
  exact Int.ofNat_inj
theorem put_new {l : List Nat} {s : Nat} (h : s ∉ l) : putD (l.map kvI) (.inl (s : Int)) (.bl true) = (l ++ [s]).map kvI := by
  unfold putD
  have : ((l.map kvI).any fun p => decide (p.1 = .inl (s : Int))) = false := by
    rw [List.any_eq_false]
    intro p hp
    obtain ⟨t, ht, rfl⟩ := List.mem_map.mp hp
    rw [decide_eq_true_eq, kvI_inj]
    rintro rfl
    exact h ht
  rw [this, cond_false, List.map_append]
  rfl
theorem dc_true {env : Env} {k : KVs → Sto → Prop} {S : Sto} {i : Nat} (hi : ∀ d, getE (setE env i d) i = some d) : ∀ (xs acc : List Nat), (acc ++ xs).Nodup → (acc ++ xs).length < line → k ((acc ++ xs).map kvI) S →
    dcT (gName i) (dVar i) (dC (.bl true)) env (xs.map fun s : Nat => D.int (s : Int)) (acc.map kvI) S k
  | [], acc, _, _, h => by rw [List.append_nil] at h; exact h
  | x :: xs, acc, hn, hl, h => by
    unfold dcT
    show (match getE (setE env i (D.int (x : Int))) i with
      | some d => dC (.bl true) (setE env i (D.int (x : Int))) S fun z S3 => onO (dkey d) fun q => (acc.map kvI).length < line ∧ dcT (gName i) (dVar i) (dC (.bl true)) env (xs.map fun s : Nat => D.int (s : Int)) (putD (acc.map kvI) q z) S3 k
      | none => False)
    rw [hi]
    refine (show (acc.map kvI).length < line ∧ dcT (gName i) (dVar i) (dC (.bl true)) env (xs.map fun s : Nat => D.int (s : Int)) (putD (acc.map kvI) (.inl (x : Int)) (.bl true)) S k from ⟨?_, ?_⟩)
    · rw [List.length_map]; rw [List.length_append] at hl; omega
    · have hx : x ∉ acc := fun z => by
        rw [List.nodup_append] at hn
        exact hn.2.2 x z x (List.mem_cons_self ..) rfl
      rw [put_new hx]
      have e : acc ++ x :: xs = (acc ++ [x]) ++ xs := by rw [List.append_assoc]; rfl
      rw [e] at hn hl h
      exact dc_true hi xs (acc ++ [x]) hn hl h
def leftM (st : Stack) (L pace : Nat) (l : List Cell) : List Nat := (List.range L).filter fun s => !metC st L pace l s
theorem met_app (st : Stack) (L pace : Nat) (l r : List Cell) (s : Nat) : metC st L pace (l ++ r) s = (metC st L pace l s || metC st L pace r s) := by unfold metC; rw [List.any_append]
theorem left_nil (st : Stack) (L pace : Nat) : leftM st L pace [] = List.range L := by
  unfold leftM; exact List.filter_eq_self.mpr fun s _ => rfl
theorem left_skip {st : Stack} {L pace : Nat} {l : List Cell} {q : Cell} (h : opn st (q.2 : Int) (q.1 : Int) = false) : leftM st L pace (l ++ [q]) = leftM st L pace l := by
  unfold leftM
  apply List.filter_congr
  intro s _
  rw [met_app]
  simp [metC, h]
theorem left_drop {st : Stack} {L pace : Nat} {l : List Cell} {q : Cell} (h : opn st (q.2 : Int) (q.1 : Int) = true) : dropD ((leftM st L pace l).map kvI) (.inl ((spotC L pace q : Nat) : Int)) = (leftM st L pace (l ++ [q])).map kvI := by
  unfold dropD leftM
  rw [List.filter_map, List.filter_filter]
  congr 1
  apply List.filter_congr
  intro s _
  rw [met_app]
  have e : decide ((kvI s).1 = .inl ((spotC L pace q : Nat) : Int)) = decide (s = spotC L pace q) := decide_eq_decide.mpr kvI_inj
  have e2 : metC st L pace [q] s = decide (s = spotC L pace q) := by
    simp only [metC, List.any_cons, List.any_nil, Bool.or_false, h, Bool.true_and]
    exact decide_eq_decide.mpr ⟨Eq.symm, Eq.symm⟩
  simp only [Function.comp_apply, e, e2, Bool.not_or]
  exact Bool.and_comm _ _
theorem left_empty (st : Stack) (L pace : Nat) (l : List Cell) : ((leftM st L pace l).map kvI).isEmpty = allMet st L pace l := by
  rw [map_empty]
  unfold leftM allMet
  rw [filter_empty]
  simp
theorem range_pre {bd rest : List Nat} {b N : Nat} (h : bd ++ b :: rest = List.range N) : bd = List.range b ∧ b < N := by
  have hb : (List.range N)[bd.length]? = some b := by rw [← h]; simp
  have hlt : bd.length < N := by have := (List.getElem?_eq_some_iff.mp hb).1; simpa using this
  rw [List.getElem?_range hlt] at hb
  have e := Option.some.inj hb
  have hbd : bd = (List.range N).take bd.length := by rw [← h]; simp
  rw [List.take_range, Nat.min_eq_left (Nat.le_of_lt hlt)] at hbd
  rw [e] at hbd
  exact ⟨hbd, by omega⟩
theorem find_here {p : Nat → Bool} {bd rest : List Nat} {b N : Nat} (h : bd ++ b :: rest = List.range N) (hf : ∀ x ∈ bd, p x = false) (hb : p b = true) : (List.range N).find? p = some b := by
  rw [← h, List.find?_append, List.find?_eq_none.mpr fun x hx => by rw [hf x hx]; decide, Option.none_or, List.find?_cons_of_pos hb]
def F_known_by : FSp := fun ds S k => ∃ (st : Stack) (w L pace : Nat), ds = [encSt st, .int (w : Int), .int (L : Int), .int (pace : Int)] ∧ S = [] ∧ okSt st ∧ w ≤ 8 ∧ 0 < L ∧ L ≤ 10 ∧ pace ≤ 10 ∧ ∀ S', k (encON (knownM st w L pace)) S'
theorem p_known_by : ∀ ds S k, F_known_by ds S k → b_known_by F_whole_round F_is_open (bodyK k) (entry 8 ds) S := by
  rintro _ _ k ⟨st, w, L, pace, rfl, rfl, hs, hw, hL, hL10, hp10, hk⟩
  have hwl := whole_le hs
  symm_saturate
  refine ⟨⟨by omega, by omega⟩, ?_⟩
  rw [rng_map]
  refine dc_true (i := 7) (fun d => rfl) (List.range L) [] (by simpa using List.nodup_range) (by rw [List.nil_append, List.length_range]; exact Nat.lt_of_le_of_lt hL10 (by decide)) ?_
  rw [List.nil_append, ← left_nil st L pace]
  symm_saturate
  refine ⟨l1, ?_⟩
  symm_saturate
  refine call_whole hs ?_
  symm_saturate
  have hmul : (whole st : Int) * (L : Int) = ((whole st * L : Nat) : Int) := by push_cast; rfl
  have hle : whole st * L ≤ 2520 * 10 := Nat.mul_le_mul hwl hL10
  refine ⟨.inl ⟨by omega, by omega⟩, ?_⟩
  rw [hmul]
  refine ⟨⟨by omega, by omega⟩, ?_⟩
  rw [rng_map]
  symm_saturate
  refine forT_ind (fun b : Nat => D.int (b : Int)) (fun rest env S => ∃ (bd : List Nat) (a5 a6 a7 : Option D), S = [.dct ((leftM st L pace (bd.flatMap (beatC w))).map kvI)] ∧ env = [some (encSt st), some (.int (w : Int)), some (.int (L : Int)), some (.int (pace : Int)), some (.own 0), a5, a6, a7] ∧ bd ++ rest = List.range (whole st * L) ∧ ∀ b ∈ bd, allMet st L pace (cells w (b + 1)) = false) ?_ ?_ _ _ _
    ⟨[], _, _, _, rfl, rfl, rfl, fun b h => nomatch h⟩
  · rintro _ S ⟨bd, a5, a6, a7, rfl, rfl, hbd, hall⟩
    rw [List.append_nil] at hbd
    subst hbd
    have hm : knownM st w L pace = none := by
      unfold knownM
      rw [List.find?_eq_none.mpr fun x hx => by rw [hall x hx]; decide]; rfl
    have := hk [.dct ((leftM st L pace ((List.range (whole st * L)).flatMap (beatC w))).map kvI)]
    rw [hm] at this
    exact this
  · rintro b rest _ S ⟨bd, a5, a6, a7, rfl, rfl, hbd, hall⟩ N hN
    obtain ⟨hbr, hbN⟩ := range_pre hbd
    have hbd2 : (bd ++ [b]) ++ rest = List.range (whole st * L) := by rw [List.append_assoc]; exact hbd
    symm_saturate
    refine ⟨⟨by omega, by omega⟩, ?_⟩
    rw [rng_map]
    symm_saturate
    refine forT_ind (fun p : Nat => D.int (p : Int)) (fun rest2 env S => ∃ (pd : List Nat) (a6 a7 : Option D), S = [.dct ((leftM st L pace (bd.flatMap (beatC w) ++ pd.map fun p => (b, p))).map kvI)] ∧ env = [some (encSt st), some (.int (w : Int)), some (.int (L : Int)), some (.int (pace : Int)), some (.own 0), some (.int (b : Int)), a6, a7] ∧ pd ++ rest2 = List.range w) ?_ ?_ (List.range w) _ _
      ⟨[], a6, a7, by simp, rfl, rfl⟩
    · rintro _ S2 ⟨pd, b6, b7, rfl, rfl, hpd⟩
      rw [List.append_nil] at hpd
      subst hpd
      have hcell : bd.flatMap (beatC w) ++ (List.range w).map (fun p => (b, p)) = cells w (b + 1) := by rw [cells_succ, hbr]; rfl
      rw [hcell]
      symm_saturate
      rw [List.getElem?_cons_zero]
      symm_saturate
      rw [left_empty]
      refine br_intro (b := allMet st L pace (cells w (b + 1))) (fun h => ?_) fun h => ?_
      · have hm : knownM st w L pace = some (b + 1) := by
          unfold knownM
          rw [find_here hbd hall h]; rfl
        have := hk [.dct ((leftM st L pace (cells w (b + 1))).map kvI)]
        rw [hm] at this
        exact this
      · refine hN _ _ ⟨bd ++ [b], _, _, _, ?_, rfl, hbd2, fun x hx => (List.mem_append.mp hx).elim (fun z => hall x z) fun z => by rw [List.mem_singleton.mp z]; exact h⟩
        rw [List.flatMap_append, ← hcell]
        simp [beatC]
    · rintro p rest2 _ S2 ⟨pd, b6, b7, rfl, rfl, hpd⟩ N2 hN2
      have hpd2 : (pd ++ [p]) ++ rest2 = List.range w := by rw [List.append_assoc]; exact hpd
      have hpw : p < w := (range_pre hpd).2
      have eapp : bd.flatMap (beatC w) ++ (pd ++ [p]).map (fun p => (b, p)) = (bd.flatMap (beatC w) ++ pd.map fun p => (b, p)) ++ [(b, p)] := by rw [List.map_append, List.append_assoc]; rfl
      generalize (bd.flatMap (beatC w) ++ pd.map fun p => (b, p)) = ll at eapp ⊢
      symm_saturate
      refine call_open hs ?_
      refine br_intro (b := opn st (p : Int) (b : Int)) (fun ho => ?_) fun ho => ?_
      · symm_saturate
        refine ⟨.inl ⟨by omega, by omega⟩, ?_⟩
        refine ⟨by omega, ?_⟩
        have es : ((p : Int) + (pace : Int) * (b : Int)) % (L : Int) = ((spotC L pace (b, p) : Nat) : Int) := by unfold spotC; push_cast; rfl
        rw [es]
        symm_saturate
        refine hN2 _ _ ⟨pd ++ [p], _, _, ?_, rfl, hpd2⟩
        rw [eapp, ← left_drop (q := (b, p)) ho]
        rfl
      · refine hN2 _ _ ⟨pd ++ [p], _, _, ?_, rfl, hpd2⟩
        rw [eapp, left_skip (q := (b, p)) ho]
theorem call_known_by {st : Stack} {w L pace : Nat} (h1 : okSt st) (h2 : w ≤ 8) (h3 : 0 < L) (h4 : L ≤ 10) (h5 : pace ≤ 10) {S : Sto} {k : DK} (hk : k (encON (knownM st w L pace)) S) : callP F_known_by [encSt st, .int (w : Int), .int (L : Int), .int (pace : Int)] S k := by
  refine ⟨purC (purSt _) rfl, st, w, L, pace, rfl, rfl, h1, h2, h3, h4, h5, fun S' => ?_⟩
  exact onO_intro (thaw_pur (by cases knownM st w L pace <;> rfl)) hk
end Dat
set_option Elab.async false
set_option linter.all false
set_option maxRecDepth 100000
set_option maxHeartbeats 4000000
set_option exponentiation.threshold 2000
/-! PmE: by how many beats a pattern is known, by the law; what is seen so long. -/
namespace Dat
local macro_rules | `(tactic| symm_saturate) => `(tactic| with_reducible conv => whnf)
def metsM (st : Stack) (L pace : Nat) (l : List Cell) : List Nat := (l.filter fun q => opn st (q.2 : Int) (q.1 : Int)).map (spotC L pace)
theorem mets_app (st : Stack) (L pace : Nat) (l r : List Cell) : metsM st L pace (l ++ r) = metsM st L pace l ++ metsM st L pace r := by unfold metsM; rw [List.filter_append, List.map_append]
theorem mets_mem {st : Stack} {L pace : Nat} {l : List Cell} {s : Nat} : s ∈ metsM st L pace l ↔ metC st L pace l s = true := by
  unfold metsM metC
  rw [List.any_eq_true]
  simp only [List.mem_map, List.mem_filter, Bool.and_eq_true, decide_eq_true_eq]
  constructor
  · rintro ⟨q, ⟨h1, h2⟩, h3⟩; exact ⟨q, h1, h2, h3⟩
  · rintro ⟨q, h1, h2, h3⟩; exact ⟨q, ⟨h1, h2⟩, h3⟩
theorem mets_len (st : Stack) (L pace : Nat) (l : List Cell) : (metsM st L pace l).length ≤ l.length := by unfold metsM; rw [List.length_map]; exact List.length_filter_le _ _
theorem mets_count {st : Stack} {L pace : Nat} {l : List Cell} (hL : 0 < L) {ms : List Int} (hn : ms.Nodup) (hm : ∀ i, i ∈ ms ↔ i ∈ (metsM st L pace l).map fun (s : Nat) => (s : Int)) : decide ((ms.length : Int) = (L : Int)) = allMet st L pace l := by
  have hsub : ∀ i ∈ ms, i ∈ (List.range L).map fun (s : Nat) => (s : Int) := fun i hi => by
    obtain ⟨s, hs, rfl⟩ := List.mem_map.mp ((hm i).mp hi)
    unfold metsM at hs
    obtain ⟨q, _, rfl⟩ := List.mem_map.mp hs
    exact List.mem_map.mpr ⟨_, List.mem_range.mpr (spot_lt hL q), rfl⟩
  have hrn : ((List.range L).map fun (s : Nat) => (s : Int)).Nodup := nodup_map List.nodup_range fun a _ b _ h => by omega
  have hrl : ((List.range L).map fun (s : Nat) => (s : Int)).length = L := by simp
  have hle := pigeon ms _ hn hsub
  rw [hrl] at hle
  rw [Bool.eq_iff_iff, decide_eq_true_eq]
  unfold allMet
  rw [List.all_eq_true]
  constructor
  · intro e s hs
    have hp := perm_of hn hrn hsub (by rw [hrl]; omega)
    have : (s : Int) ∈ ms := hp.mem_iff.mpr (List.mem_map.mpr ⟨s, hs, rfl⟩)
    obtain ⟨t, ht, e2⟩ := List.mem_map.mp ((hm _).mp this)
    have : t = s := by omega
    subst this
    exact mets_mem.mp ht
  · intro h
    have h2 := pigeon _ ms hrn fun i hi => by
      obtain ⟨s, hs, rfl⟩ := List.mem_map.mp hi
      exact (hm _).mpr (List.mem_map.mpr ⟨s, mets_mem.mpr (h s hs), rfl⟩)
    rw [hrl] at h2
    omega
theorem cells_len (w n : Nat) : (cells w n).length ≤ w * n := by
  have := flat_len (beatC w) w (List.range n) fun q _ => by simp [beatC]
  rw [List.length_range] at this
  exact this
def F_law_known : FSp := fun ds S k => ∃ (st : Stack) (w L pace : Nat), ds = [encSt st, .int (w : Int), .int (L : Int), .int (pace : Int)] ∧ S = [] ∧ okSt st ∧ w ≤ 8 ∧ 0 < L ∧ L ≤ 10 ∧ pace ≤ 10 ∧ w * (whole st * L) ≤ 4000 ∧ ∀ S', k (encON (knownM st w L pace)) S'
theorem p_law_known : ∀ ds S k, F_law_known ds S k → b_law_known F_law_whole F_law_sign (bodyK k) (entry 8 ds) S := by
  rintro _ _ k ⟨st, w, L, pace, rfl, rfl, hs, hw, hL, hL10, hp10, h4000, hk⟩
  have hwl := whole_le hs
  refine ⟨l0, ?_⟩
  symm_saturate
  refine ⟨l1, ?_⟩
  symm_saturate
  refine call_law_whole hs ?_
  symm_saturate
  have hmul : (whole st : Int) * (L : Int) = ((whole st * L : Nat) : Int) := by push_cast; rfl
  have hle : whole st * L ≤ 2520 * 10 := Nat.mul_le_mul hwl hL10
  refine ⟨.inl ⟨by omega, by omega⟩, ?_⟩
  rw [hmul]
  refine ⟨⟨by omega, by omega⟩, ?_⟩
  rw [rng_map]
  symm_saturate
  refine forT_ind (fun b : Nat => D.int (b : Int)) (fun rest env S => ∃ (bd : List Nat) (a5 a6 a7 : Option D), S = [.lst ((metsM st L pace (bd.flatMap (beatC w))).map fun (s : Nat) => D.int (s : Int))] ∧ env = [some (encSt st), some (.int (w : Int)), some (.int (L : Int)), some (.int (pace : Int)), some (.own 0), a5, a6, a7] ∧ bd ++ rest = List.range (whole st * L) ∧ ∀ b ∈ bd, allMet st L pace (cells w (b + 1)) = false) ?_ ?_ _ _ _
    ⟨[], _, _, _, rfl, rfl, rfl, fun b h => nomatch h⟩
  · rintro _ S ⟨bd, a5, a6, a7, rfl, rfl, hbd, hall⟩
    rw [List.append_nil] at hbd
    subst hbd
    have hm : knownM st w L pace = none := by
      unfold knownM
      rw [List.find?_eq_none.mpr fun x hx => by rw [hall x hx]; decide]; rfl
    have := hk [.lst ((metsM st L pace ((List.range (whole st * L)).flatMap (beatC w))).map fun (s : Nat) => D.int (s : Int))]
    rw [hm] at this
    exact this
  · rintro b rest _ S ⟨bd, a5, a6, a7, rfl, rfl, hbd, hall⟩ N hN
    obtain ⟨hbr, hbN⟩ := range_pre hbd
    have hbd2 : (bd ++ [b]) ++ rest = List.range (whole st * L) := by rw [List.append_assoc]; exact hbd
    have hb4 : w * (b + 1) ≤ 4000 := Nat.le_trans (Nat.mul_le_mul_left w hbN) h4000
    symm_saturate
    refine ⟨⟨by omega, by omega⟩, ?_⟩
    rw [rng_map]
    symm_saturate
    refine forT_ind (fun p : Nat => D.int (p : Int)) (fun rest2 env S => ∃ (pd : List Nat) (a6 a7 : Option D), S = [.lst ((metsM st L pace (bd.flatMap (beatC w) ++ pd.map fun p => (b, p))).map fun (s : Nat) => D.int (s : Int))] ∧ env = [some (encSt st), some (.int (w : Int)), some (.int (L : Int)), some (.int (pace : Int)), some (.own 0), some (.int (b : Int)), a6, a7] ∧ pd ++ rest2 = List.range w) ?_ ?_ (List.range w) _ _
      ⟨[], a6, a7, by simp, rfl, rfl⟩
    · rintro _ S2 ⟨pd, b6, b7, rfl, rfl, hpd⟩
      rw [List.append_nil] at hpd
      subst hpd
      have hcell : bd.flatMap (beatC w) ++ (List.range w).map (fun p => (b, p)) = cells w (b + 1) := by rw [cells_succ, hbr]; rfl
      rw [hcell]
      symm_saturate
      unfold dLenSet
      symm_saturate
      rw [show res [MO.lst ((metsM st L pace (cells w (b + 1))).map fun (s : Nat) => D.int (s : Int))] (D.own 0) = .lst ((metsM st L pace (cells w (b + 1))).map fun (s : Nat) => D.int (s : Int)) from rfl]
      symm_saturate
      have hi : intsD ((metsM st L pace (cells w (b + 1))).map fun (s : Nat) => D.int (s : Int)) = some ((metsM st L pace (cells w (b + 1))).map fun (s : Nat) => (s : Int)) := by
        rw [← intsD_map, List.map_map]; rfl
      refine onO_intro hi ⟨?_, fun ms hn hm => ?_⟩
      · rw [List.length_map]
        exact Nat.le_trans (mets_len _ _ _ _) (Nat.le_trans (cells_len _ _) hb4)
      symm_saturate
      refine eq_good (e := D.int) (a := ((ms.length : Nat) : Int)) (b := ((L : Nat) : Int)) goodInt (by decide) rfl rfl ?_
      rw [mets_count hL hn hm]
      refine br_intro (b := allMet st L pace (cells w (b + 1))) (fun h => ?_) fun h => ?_
      · have hm : knownM st w L pace = some (b + 1) := by
          unfold knownM
          rw [find_here hbd hall h]; rfl
        have := hk [.lst ((metsM st L pace (cells w (b + 1))).map fun (s : Nat) => D.int (s : Int))]
        rw [hm] at this
        exact this
      · refine hN _ _ ⟨bd ++ [b], _, _, _, ?_, rfl, hbd2, fun x hx => (List.mem_append.mp hx).elim (fun z => hall x z) fun z => by rw [List.mem_singleton.mp z]; exact h⟩
        rw [List.flatMap_append, ← hcell]
        simp [beatC]
    · rintro p rest2 _ S2 ⟨pd, b6, b7, rfl, rfl, hpd⟩ N2 hN2
      have hpd2 : (pd ++ [p]) ++ rest2 = List.range w := by rw [List.append_assoc]; exact hpd
      obtain ⟨hpr, hpw⟩ := range_pre hpd
      have eapp : bd.flatMap (beatC w) ++ (pd ++ [p]).map (fun p => (b, p)) = (bd.flatMap (beatC w) ++ pd.map fun p => (b, p)) ++ [(b, p)] := by rw [List.map_append, List.append_assoc]; rfl
      have hlen : (bd.flatMap (beatC w) ++ pd.map fun p => (b, p)).length ≤ 100000 := by
        rw [List.length_append, List.length_map, hbr, hpr, List.length_range]
        have h1 := cells_len w b
        have h2 : w * b ≤ w * (b + 1) := Nat.mul_le_mul_left w (Nat.le_succ b)
        have h3 : ((List.range b).flatMap (beatC w)).length = (cells w b).length := rfl
        omega
      generalize (bd.flatMap (beatC w) ++ pd.map fun p => (b, p)) = ll at eapp hlen ⊢
      symm_saturate
      refine lc_map encS (fun s => D.str [sgn (sgnAt s (p : Int) (b : Int))]) st (len_le (by have := hs.2; omega)) (fun x hx K1 K0 h1 => call_law_sign (hs.1 x hx) h1) ?_
      refine in_open st p b ?_
      refine br_intro (b := opn st (p : Int) (b : Int)) (fun ho => ?_) fun ho => ?_
      · symm_saturate
        rw [List.getElem?_cons_zero]
        symm_saturate
        refine ⟨.inl ⟨by omega, by omega⟩, ?_⟩
        refine ⟨by omega, ?_⟩
        have es : ((p : Int) + (pace : Int) * (b : Int)) % (L : Int) = ((spotC L pace (b, p) : Nat) : Int) := by unfold spotC; push_cast; rfl
        rw [es]
        symm_saturate
        rw [List.getElem?_cons_zero]
        refine ⟨by rw [List.length_map]; exact Nat.lt_of_le_of_lt (Nat.le_trans (mets_len _ _ _ _) hlen) (by decide), ?_⟩
        refine hN2 _ _ ⟨pd ++ [p], _, _, ?_, rfl, hpd2⟩
        rw [eapp, mets_app, List.map_append]
        simp [metsM, ho]
      · refine hN2 _ _ ⟨pd ++ [p], _, _, ?_, rfl, hpd2⟩
        rw [eapp, mets_app]
        simp [metsM, ho]
theorem call_law_known {st : Stack} {w L pace : Nat} (h1 : okSt st) (h2 : w ≤ 8) (h3 : 0 < L) (h4 : L ≤ 10) (h5 : pace ≤ 10) (h6 : w * (whole st * L) ≤ 4000) {S : Sto} {k : DK} (hk : k (encON (knownM st w L pace)) S) : callP F_law_known [encSt st, .int (w : Int), .int (L : Int), .int (pace : Int)] S k := by
  refine ⟨purC (purSt _) rfl, st, w, L, pace, rfl, rfl, h1, h2, h3, h4, h5, h6, fun S' => ?_⟩
  exact onO_intro (thaw_pur (by cases knownM st w L pace <;> rfl)) hk
end Dat
set_option Elab.async false
set_option linter.all false
set_option maxRecDepth 100000
set_option maxHeartbeats 4000000
set_option exponentiation.threshold 2000
/-! PmF: what is seen so long. -/
namespace Dat
local macro_rules | `(tactic| symm_saturate) => `(tactic| with_reducible conv => whnf)
theorem known_some {st : Stack} {w L pace n : Nat} (h : knownM st w L pace = some n) : ∃ b, n = b + 1 ∧ allMet st L pace (cells w (b + 1)) = true ∧ ∀ b' < b, allMet st L pace (cells w (b' + 1)) = false := by
  unfold knownM at h
  rw [Option.map_eq_some_iff] at h
  obtain ⟨b, hb, rfl⟩ := h
  obtain ⟨hp, as, bs, hr, ha⟩ := List.find?_eq_some_iff_append.mp hb
  obtain ⟨hbr, _⟩ := range_pre hr.symm
  refine ⟨b, rfl, hp, fun b' hb' => ?_⟩
  have := ha b' (by rw [hbr]; exact List.mem_range.mpr hb')
  simpa using this
theorem met_put {st : Stack} {text : List Bool} {pace w n : Nat} {q : Cell} (hq : q ∈ cells w n) (ho : opn st (q.2 : Int) (q.1 : Int) = true) : putC st (shownM st ⟨text, (pace : Int), 0⟩ w n) q = true := by
  obtain ⟨h1, h2⟩ := mem_cells.mp hq
  unfold putC
  rw [shown_ch h1 h2, ho, Bool.and_true]
  rcases sgn_cases (opn (st ++ [⟨text, (pace : Int), 0⟩]) (q.2 : Int) (q.1 : Int)) with e | e <;> rw [e] <;> decide
theorem shown_hid (st : Stack) (text : List Bool) (pace w n : Nat) : Hid st text pace w (shownM st ⟨text, (pace : Int), 0⟩ w n) := by
  intro q hq
  rw [shown_len] at hq
  obtain ⟨h1, h2⟩ := mem_cells.mp hq
  exact .inr (shown_ch h1 h2)
theorem full_may {st : Stack} {text : List Bool} {pace w n : Nat} (ht : text ≠ []) (h : knownM st w text.length pace = some n) : mayM st w (shownM st ⟨text, (pace : Int), 0⟩ w n) text.length pace = some (text.map sgn) := by
  have hid := shown_hid st text pace w n
  rw [hid_may hid ht]
  congr 1
  apply List.ext_getElem?
  intro s
  by_cases hs : s < text.length
  · rw [fnd_at hs, List.getElem?_map, List.getElem?_eq_getElem hs]
    obtain ⟨b, rfl, hm, _⟩ := known_some h
    have := List.all_eq_true.mp hm s (List.mem_range.mpr hs)
    unfold metC at this
    obtain ⟨q, hq, hq2⟩ := List.any_eq_true.mp this
    simp only [Bool.and_eq_true, decide_eq_true_eq] at hq2
    have hp := met_put (text := text) (pace := pace) hq hq2.1
    have hq' : q ∈ cells w (shownM st ⟨text, (pace : Int), 0⟩ w (b + 1)).length := by rw [shown_len]; exact hq
    have h1 := hid_found hid ht hq' hp
    have h2 := hid_put hid ht hq' hp
    rw [hq2.2] at h1 h2
    rw [h1, h2, List.getD_eq_getElem?_getD, List.getElem?_eq_getElem hs]; rfl
  · rw [List.getElem?_eq_none (by rw [fnd_len]; omega), List.getElem?_eq_none (by rw [List.length_map]; omega)]
theorem short_may {st : Stack} {text : List Bool} {pace w n : Nat} (ht : text ≠ []) (h : knownM st w text.length pace = some n) : ∃ t, mayM st w (shownM st ⟨text, (pace : Int), 0⟩ w (n - 1)) text.length pace = some t ∧ 63 ∈ t := by
  have hid := shown_hid st text pace w (n - 1)
  have hpos : 0 < text.length := List.length_pos_iff.mpr ht
  refine ⟨_, hid_may hid ht, ?_⟩
  obtain ⟨b, rfl, _, hf⟩ := known_some h
  have hnm : allMet st text.length pace (cells w b) = false := by
    cases b with
    | zero =>
      unfold allMet
      rw [List.all_eq_false]
      exact ⟨0, List.mem_range.mpr hpos, by simp [metC, cells]⟩
    | succ b => exact hf b (Nat.lt_succ_self b)
  unfold allMet at hnm
  rw [List.all_eq_false] at hnm
  obtain ⟨s, hs, hm⟩ := hnm
  have hsL := List.mem_range.mp hs
  rw [show b + 1 - 1 = b from rfl, shown_len]
  refine List.mem_iff_getElem?.mpr ⟨s, ?_⟩
  rw [fnd_at hsL]
  have e : sgs st (shownM st ⟨text, (pace : Int), 0⟩ w b) text.length pace (cells w b) s = [] := by
    unfold sgs
    rw [List.map_eq_nil_iff, List.filter_eq_nil_iff]
    intro q hq
    simp only [Bool.and_eq_true, decide_eq_true_eq, not_and]
    intro hp hsp
    apply hm
    unfold metC
    refine List.any_eq_true.mpr ⟨q, hq, ?_⟩
    unfold putC at hp
    simp only [Bool.and_eq_true] at hp
    simp [hp.2, hsp]
  rw [e]; rfl
theorem cut_m1 {α : Type} (xs : List α) : cut xs none (some (-1)) = xs.take (xs.length - 1) := by
  unfold cut sIx
  simp only [List.drop_zero, Nat.sub_zero]
  rw [if_pos (by decide)]
  congr 1
  omega
theorem shown_take (st : Stack) (sh : Sheet) (w n : Nat) : (shownM st sh w n).take (n - 1) = shownM st sh w (n - 1) := by
  unfold shownM
  rw [← List.map_take, List.take_range, Nat.min_eq_left (Nat.sub_le _ _)]
theorem lc_rel {α β : Type} {g : DTG} {tt : DTT} {te : DTE} {env : Env} {k : List D → Sto → Prop} (e : α → D) (f : β → D) (Iv : Sto → Prop) (R : α → β → Prop) :
    ∀ (xs : List α) (acc : List β) (S : Sto), acc.length + xs.length ≤ line → Iv S →
    (∀ x ∈ xs, ∀ S, Iv S → ∀ (K1 : DK) (K0 : Sto → Prop), (∀ z S', R x z → Iv S' → K1 (f z) S') → g (e x) env S fun env2 S1 => tt env2 S1 fun b S2 => br b (te env2 S2 K1) (K0 S2)) →
    (∀ zs S', Iv S' → zs.length = xs.length → (∀ (i : Nat) x z, xs[i]? = some x → zs[i]? = some z → R x z) → k ((acc ++ zs).map f) S') → lcT g tt te env (xs.map e) (acc.map f) S k
  | [], acc, S, _, hi, _, hk => by have := hk [] S hi rfl (fun i x z h => by simp at h); rwa [List.append_nil] at this
  | x :: xs, acc, S, hl, hi, h, hk => by
    simp only [List.length_cons] at hl
    refine h x (List.mem_cons_self ..) S hi _ _ fun z S' hz hi' => ⟨by rw [List.length_map]; omega, ?_⟩
    rw [show acc.map f ++ [f z] = (acc ++ [z]).map f by rw [List.map_append]; rfl]
    refine lc_rel e f Iv R xs (acc ++ [z]) S' (by simp; omega) hi' (fun y hy => h y (List.mem_cons_of_mem _ hy)) fun zs S2 hi2 hlz hr => ?_
    rw [show acc ++ [z] ++ zs = acc ++ (z :: zs) by rw [List.append_assoc]; rfl]
    refine hk (z :: zs) S2 hi2 (by simp [hlz]) fun i y u hy hu => ?_
    cases i with
    | zero => simp at hy hu; subst hy; subst hu; exact hz
    | succ i => exact hr i y u (by simpa using hy) (by simpa using hu)
end Dat
set_option Elab.async false
set_option linter.all false
set_option maxRecDepth 100000
set_option maxHeartbeats 4000000
set_option exponentiation.threshold 2000
/-! PmG: k31's body. -/
namespace Dat
local macro_rules | `(tactic| symm_saturate) => `(tactic| with_reducible conv => whnf)
theorem whole_two {st : Stack} (h : okSt st) (hl : st.length ≤ 2) (hp : ∀ s ∈ st, s.pat.length ≤ 8) : whole st ≤ 64 := by
  have per8 : ∀ s ∈ st, per s ≤ 8 := fun s hs => Nat.le_trans rnd_le (hp s hs)
  have perp : ∀ s ∈ st, 0 < per s := fun s hs => Nat.pos_of_dvd_of_pos (per_dvd (h.1 s hs)) (by decide)
  match st, hl with
  | [], _ => decide
  | [a], _ =>
    have := per8 a (by simp)
    have e : whole [a] = per a := by simp [whole, wholeL, Nat.lcm_one_left]
    omega
  | [a, b], _ =>
    have h1 := per8 a (by simp)
    have h2 := per8 b (by simp)
    have h3 := perp a (by simp)
    have h4 := perp b (by simp)
    have e : whole [a, b] = Nat.lcm (per a) (per b) := by simp [whole, wholeL, Nat.lcm_one_left]
    rw [e]
    exact Nat.le_trans (Nat.le_of_dvd (Nat.mul_pos h3 h4) (Nat.lcm_dvd_mul _ _)) (Nat.mul_le_mul h1 h2)
theorem known_nil : knownM [] 8 8 3 = some 1 := by decide +kernel
def F_law_k31 : FSp := fun ds S k => ∃ ns : List Int, ds = [.scr ns] ∧ ns.length ≤ 63 ∧ ∀ S', k (.bl true) S'
theorem p_law_k31 : ∀ ds S k, F_law_k31 ds S k → b_law_k31 F_law_draws F_law_stack F_law_draw F_law_pattern F_law_shown F_law_of F_law_all_so F_law_filled_so F_known_by F_law_known F_may_be (bodyK k) (entry 19 ds) S := by
  rintro _ S k ⟨ns, rfl, hl, hk⟩
  symm_saturate
  obtain ⟨m, hm, em⟩ := turns6 ns.length
  rw [em]
  refine ⟨⟨by omega, by omega⟩, ?_⟩
  rw [rng_map]
  refine forT_ind (fun (i : Nat) => D.int (i : Int)) (fun rest env _ => (∀ x ∈ rest, x < 8) ∧ ∃ (a1 a2 a3 a4 a5 a6 a7 a8 a9 a10 a11 a12 a13 a14 a15 a16 a17 a18 : Option D), env = [some (.scr ns), a1, a2, a3, a4, a5, a6, a7, a8, a9, a10, a11, a12, a13, a14, a15, a16, a17, a18]) ?_ ?_ _ _ S
    ⟨fun x hx => by have := List.mem_range.mp hx; omega, _, _, _, _, _, _, _, _, _, _, _, _, _, _, _, _, _, _, rfl⟩
  · intro _ S _
    exact hk S
  rintro c rest _ S0 ⟨hc, a1, a2, a3, a4, a5, a6, a7, a8, a9, a10, a11, a12, a13, a14, a15, a16, a17, a18, rfl⟩ N hN
  have hc8 := hc c (List.mem_cons_self ..)
  have done : ∀ (env : Env) (s : Sto), (∃ (a1 a2 a3 a4 a5 a6 a7 a8 a9 a10 a11 a12 a13 a14 a15 a16 a17 a18 : Option D), env = [some (.scr ns), a1, a2, a3, a4, a5, a6, a7, a8, a9, a10, a11, a12, a13, a14, a15, a16, a17, a18]) → N env s := fun env s h => hN _ _ ⟨fun x hx => hc x (List.mem_cons_of_mem _ hx), h⟩
  refine call_draws hl (by omega) fun i j hij => ?_
  have hd0 := drw_push (S := S0) hij
  generalize (S0 ++ [MO.lst [.int i, .int j]]) = S1 at hd0 ⊢
  generalize S0.length = n at hd0 ⊢
  refine ⟨l3, ?_⟩
  symm_saturate
  refine call_draw hd0 (by decide) (by decide) fun r S2 r0 r1 hd2 _ => ?_
  obtain ⟨x, hx, ha⟩ := at_mem (xs := [D.int 3, .int 5, .int 8]) r0 (by simpa using r1)
  refine onO_intro ha ?_
  obtain ⟨mm, rfl, m1, m2⟩ : ∃ mm : Int, x = .int mm ∧ 1 ≤ mm ∧ mm ≤ 8 := by
    simp only [List.mem_cons, List.not_mem_nil, or_false] at hx
    rcases hx with rfl | rfl | rfl
    · exact ⟨_, rfl, by decide, by decide⟩
    · exact ⟨_, rfl, by decide, by decide⟩
    · exact ⟨_, rfl, by decide, by decide⟩
  symm_saturate
  refine call_stack hd2 (by decide) (by decide) m1 (by omega) fun st0 S3 hst hd3 _ => ?_
  symm_saturate
  refine call_draw hd3 (by decide) (by decide) fun r2 S4 r20 r21 hd4 _ => ?_
  obtain ⟨r2, rfl⟩ := Int.eq_ofNat_of_zero_le r20
  symm_saturate
  rw [cut_to, ← List.map_take]
  have hs0 := hst.ok (by decide)
  have hsub : ∀ s ∈ st0.take r2, s ∈ st0 := fun s h => List.mem_of_mem_take h
  have hs : okSt (st0.take r2) := ⟨fun s h => hs0.1 s (hsub s h), Nat.le_trans (by simp; omega) hs0.2⟩
  have hst2 : (st0.take r2).length ≤ 2 := by rw [List.length_take]; omega
  have hp8 : ∀ s ∈ st0.take r2, s.pat.length ≤ 8 := fun s h => by have := (hst.1 s (hsub s h)).2.1; omega
  generalize st0.take r2 = st at hs hst2 hp8 ⊢
  have hw64 := whole_two hs hst2 hp8
  symm_saturate
  refine call_draw hd4 (by decide) (by decide) fun w S5 w0 w1 hd5 _ => ?_
  obtain ⟨w, rfl⟩ := Int.eq_ofNat_of_zero_le w0
  symm_saturate
  have ew : (1 : Int) + (w : Int) = ((1 + w : Nat) : Int) := by omega
  rw [ew]
  have hw5 : 1 + w ≤ 5 := by omega
  have hw1 : 1 ≤ 1 + w := by omega
  generalize 1 + w = w at hw5 hw1 ⊢
  refine call_pattern hd5 (by decide) (by decide) fun text S6 ht htl hd6 _ => ?_
  have hpos : 0 < text.length := List.length_pos_iff.mpr ht
  symm_saturate
  rw [show ((text.map sgn).length : Int) = ((text.length : Nat) : Int) by rw [List.length_map]]
  refine call_draw hd6 (by omega) (many_ok (by omega)) fun pace S7 pc0 pc1 hd7 _ => ?_
  obtain ⟨pace, rfl⟩ := Int.eq_ofNat_of_zero_le pc0
  have htl10 : text.length ≤ 10 := by omega
  have hp10 : pace ≤ 10 := by omega
  symm_saturate
  refine ⟨l3, ?_⟩
  symm_saturate
  refine call_draw hd7 (by decide) (by decide) fun q S8 q0 q1 hd8 _ => ?_
  obtain ⟨q, rfl⟩ := Int.eq_ofNat_of_zero_le q0
  symm_saturate
  have eq1 : (1 : Int) + (q : Int) = ((1 + q : Nat) : Int) := by omega
  rw [eq1]
  have hq12 : 1 + q ≤ 12 := by omega
  have hq1 : 1 ≤ 1 + q := by omega
  generalize 1 + q = nb at hq12 hq1 ⊢
  have hshok : Sheet.ok ⟨text, (pace : Int), 0⟩ := ⟨ht, htl10, by simp only; omega, by simp only; omega⟩
  refine call_law_shown (sh := ⟨text, (pace : Int), 0⟩) hs (by omega) hshok (by omega) (by omega) ?_
  symm_saturate
  have hwok := shown_ok st ⟨text, (pace : Int), 0⟩ w nb
  have hwlen := shown_len st ⟨text, (pace : Int), 0⟩ w nb
  have hwch : ∀ q : Cell, q.1 < nb → q.2 < w → chAt (shownM st ⟨text, (pace : Int), 0⟩ w nb) q = sgn (opn (st ++ [⟨text, (pace : Int), 0⟩]) (q.2 : Int) (q.1 : Int)) := fun q h1 h2 => shown_ch h1 h2
  generalize hWdef : shownM st ⟨text, (pace : Int), 0⟩ w nb = whole' at hwok hwlen hwch ⊢
  refine lc_rel D.str D.str (fun S => Drw S n) (fun (a b : List Nat) => b.length = a.length ∧ ∀ (p : Nat) c d, a[p]? = some c → b[p]? = some d → d = 63 ∨ d = c) whole' [] S8 (by simp only [List.length_nil]; exact len_le (by omega)) hd8 (fun row hrow S9 hd9 K1 K0 hK => ?_) fun seen S9 hd9 hsl hsr => ?_
  · symm_saturate
    have hrl := (hwok row hrow).1
    refine lc_rel (fun c : Nat => D.str [c]) (fun c : Nat => D.str [c]) (fun S => Drw S n) (fun (a b : Nat) => b = 63 ∨ b = a) row [] S9 (by simp only [List.length_nil]; exact len_le (by omega)) hd9 (fun ch hch S10 hd10 K1 K0 hK2 => ?_) fun cs S10 hd10 hcl hcr => ?_
    · symm_saturate
      refine call_draw hd10 (by decide) (by decide) fun z S11 z0 z1 hd11 _ => ?_
      refine eq_good (e := D.int) (b := 0) goodInt (by decide) rfl rfl ?_
      exact br_intro (fun _ => hK2 63 _ (.inl rfl) hd11) fun _ => hK2 ch _ (.inr rfl) hd11
    · rw [List.nil_append]
      refine onO_intro (strsD_map (fun c : Nat => [c]) cs) ⟨?_, ?_⟩
      · have : ∀ l : List Nat, ((l.map fun b => [b]).map (·.length)).sum = l.length := fun l => by
          induction l with
          | nil => rfl
          | cons a l ih => simp only [List.map_cons, List.sum_cons, ih, List.length_cons, List.length_nil]; omega
        rw [this]
        exact len_le (by simp; omega)
      · refine (show K1 (.str (joinS [] (cs.map fun c => [c]))) S10 from ?_)
        rw [joinS_nil_ones]
        exact hK cs _ ⟨hcl, hcr⟩ hd10
  rw [List.nil_append]
  have hsl' : seen.length = nb := by omega
  have hok : okSeen w seen := by
    intro r hr
    obtain ⟨b, hb⟩ := List.mem_iff_getElem?.mp hr
    have hbn : b < whole'.length := by have := (List.getElem?_eq_some_iff.mp hb).1; omega
    have hwb := List.getElem?_eq_getElem hbn
    obtain ⟨e1, e2⟩ := hsr b _ r hwb hb
    have hwr := hwok _ (List.getElem_mem hbn)
    refine ⟨e1.trans hwr.1, fun ch hch => ?_⟩
    obtain ⟨p, hp⟩ := List.mem_iff_getElem?.mp hch
    have hpn : p < whole'[b].length := by have := (List.getElem?_eq_some_iff.mp hp).1; omega
    rcases e2 p _ ch (List.getElem?_eq_getElem hpn) hp with e | e
    · exact .inr (.inr e)
    · rw [e]; exact hwr.2 _ (List.getElem_mem hpn)
  have hid : Hid st text pace w seen := by
    intro q hq
    obtain ⟨h1, h2⟩ := mem_cells.mp hq
    have hbn : q.1 < whole'.length := by omega
    have hb := List.getElem?_eq_getElem h1
    obtain ⟨e1, e2⟩ := hsr q.1 _ _ (List.getElem?_eq_getElem hbn) hb
    have c1 := ch_at hok hb h2
    have c2 := ch_at hwok (List.getElem?_eq_getElem hbn) h2
    rcases e2 q.2 _ _ c2 c1 with e | e
    · exact .inl e
    · refine .inr (e.trans ?_)
      exact hwch q (by omega) h2
  symm_saturate
  rw [show ((seen.map D.str).length : Int) = ((seen.length : Nat) : Int) by rw [List.length_map]]
  refine call_draw hd9 (by omega) (many_ok (by omega)) fun av S10 av0 av1 hd10 _ => ?_
  obtain ⟨av, rfl⟩ := Int.eq_ofNat_of_zero_le av0
  have hav : av < seen.length := by omega
  symm_saturate
  refine call_draw hd10 (by omega) (many_ok (by omega)) fun pl S11 pl0 pl1 hd11 _ => ?_
  obtain ⟨pl, rfl⟩ := Int.eq_ofNat_of_zero_le pl0
  have hplw : pl < w := by omega
  have hrow := List.getElem?_eq_getElem hav
  have hrw := (hok _ (List.getElem_mem hav)).1
  have hrc := (hok _ (List.getElem_mem hav)).2
  generalize seen[av] = row at hrow hrw hrc
  symm_saturate
  refine onO_intro (w_at hrow) ?_
  symm_saturate
  refine call_ofS hd11 (by simp) (by simp) fun ch S12 hch hd12 _ => ?_
  symm_saturate
  rw [cut_to]
  refine ⟨len_le (by rw [List.length_take]; simp only [List.length_cons, List.length_nil]; omega), ?_⟩
  symm_saturate
  refine onO_intro (w_at hrow) ?_
  symm_saturate
  rw [show (pl : Int) + 1 = ((pl + 1 : Nat) : Int) by omega, cut_from]
  refine ⟨len_le (by rw [List.length_append, List.length_take, List.length_drop]; simp only [List.length_cons, List.length_nil]; omega), ?_⟩
  have hbl : (row.take pl ++ [ch] ++ row.drop (pl + 1)).length = w := by
    rw [List.length_append, List.length_append, List.length_take, List.length_drop]; simp only [List.length_cons, List.length_nil]; omega
  have hbc : ∀ d ∈ row.take pl ++ [ch] ++ row.drop (pl + 1), d = 46 ∨ d = 35 ∨ d = 63 := by
    intro d hd
    rcases List.mem_append.mp hd with hd | hd
    · rcases List.mem_append.mp hd with hd | hd
      · exact hrc d (List.mem_of_mem_take hd)
      · rw [List.mem_singleton.mp hd]
        simp only [List.mem_cons, List.not_mem_nil, or_false] at hch
        rcases hch with e | e
        · exact .inl e
        · exact .inr (.inl e)
    · exact hrc d (List.mem_of_mem_drop hd)
  generalize (row.take pl ++ [ch] ++ row.drop (pl + 1)) = bent at hbl hbc ⊢
  symm_saturate
  rw [cut_to]
  refine ⟨l1, ?_⟩
  symm_saturate
  refine ⟨len_le (by rw [List.length_take, List.length_map]; simp only [List.length_cons, List.length_nil]; omega), ?_⟩
  symm_saturate
  rw [show (av : Int) + 1 = ((av + 1 : Nat) : Int) by omega, cut_from]
  refine ⟨len_le (by rw [List.length_append, List.length_take, List.length_drop, List.length_map]; simp only [List.length_cons, List.length_nil]; omega), ?_⟩
  have eoth : (seen.map D.str).take av ++ [D.str bent] ++ (seen.map D.str).drop (av + 1) = (seen.take av ++ [bent] ++ seen.drop (av + 1)).map D.str := by
    rw [List.map_append, List.map_append, List.map_take, List.map_drop]; rfl
  rw [eoth]
  have hook : okSeen w (seen.take av ++ [bent] ++ seen.drop (av + 1)) := by
    intro r hr
    rcases List.mem_append.mp hr with hr | hr
    · rcases List.mem_append.mp hr with hr | hr
      · exact hok r (List.mem_of_mem_take hr)
      · rw [List.mem_singleton.mp hr]; exact ⟨hbl, hbc⟩
    · exact hok r (List.mem_of_mem_drop hr)
  have hool : (seen.take av ++ [bent] ++ seen.drop (av + 1)).length ≤ 1000 := by
    rw [List.length_append, List.length_append, List.length_take, List.length_drop]; simp only [List.length_cons, List.length_nil]; omega
  generalize (seen.take av ++ [bent] ++ seen.drop (av + 1)) = other at hook hool ⊢
  symm_saturate
  refine ⟨l0, ?_⟩
  refine ⟨l4, ?_⟩
  symm_saturate
  refine forT_ind encW (fun rest env s => s = S12 ∧ (∀ y ∈ rest, okSeen w y ∧ y.length ≤ 1000) ∧ ∃ (a14 : Option D), env = [some (.scr ns), some (.int (c : Int)), some (.own n), some (encSt st), some (.int (w : Int)), some (encR text), some (.int (text.length : Int)), some (.int (pace : Int)), some (encW whole'), some (encW seen), some (.int (av : Int)), some (.int (pl : Int)), some (.str bent), some (encW other), a14, a15, a16, a17, a18]) ?_ ?_ [seen, whole', other, []] _ S12
    ⟨rfl, fun y hy => by
      simp only [List.mem_cons, List.not_mem_nil, or_false] at hy
      rcases hy with rfl | rfl | rfl | rfl
      · exact ⟨hok, by omega⟩
      · exact ⟨hwok, by omega⟩
      · exact ⟨hook, hool⟩
      · exact ⟨fun r hr => (nomatch hr), by decide⟩, _, rfl⟩
  · rintro _ S13 ⟨rfl, _, b14, rfl⟩
    symm_saturate
    refine ⟨l2, ?_⟩
    refine call_law_filled_so hs (by omega) hok (by omega) (by omega) ht htl10 hp10 hid ?_
    symm_saturate
    rw [Bool.not_true]
    symm_saturate
    refine call_known_by hs (by omega) hpos htl10 hp10 ?_
    symm_saturate
    have h4000 : w * (whole st * text.length) ≤ 4000 := Nat.le_trans (Nat.mul_le_mul hw5 (Nat.mul_le_mul hw64 htl10)) (by decide)
    refine call_law_known hs (by omega) hpos htl10 hp10 h4000 ?_
    symm_saturate
    refine ne_good (e := encON) (a := knownM st w text.length pace) (b := knownM st w text.length pace) goodON (by decide) (by cases knownM st w text.length pace <;> rfl) (by cases knownM st w text.length pace <;> rfl) ?_
    rw [decide_eq_true rfl, Bool.not_true]
    symm_saturate
    refine ⟨l0, ?_⟩
    refine call_known_by (st := []) (w := 8) (L := 8) (pace := 3) ⟨fun s h => (nomatch h), by decide⟩ (by decide) (by decide) (by decide) (by decide) ?_
    rw [known_nil]
    refine ne_good (e := D.int) (a := 1) (b := 1) goodInt (by decide) rfl rfl ?_
    rw [decide_eq_true rfl, Bool.not_true]
    symm_saturate
    have fin : ∀ {s : Sto} {c16 c17 c18 : Option D}, N [some (.scr ns), some (.int (c : Int)), some (.own n), some (encSt st), some (.int (w : Int)), some (encR text), some (.int (text.length : Int)), some (.int (pace : Int)), some (encW whole'), some (encW seen), some (.int (av : Int)), some (.int (pl : Int)), some (.str bent), some (encW other), b14, some (encON (knownM st w text.length pace)), c16, c17, c18] s :=
      fun {s c16 c17 c18} => done _ _ ⟨_, _, _, _, _, _, _, _, _, _, _, _, _, _, _, _, _, _, rfl⟩
    cases hkn : knownM st w text.length pace with
    | none =>
      rw [hkn] at fin
      exact fin
    | some nn =>
      rw [hkn] at fin
      refine (show br (decide ((nn : Int) < 41)) _ _ from ?_)
      refine br_intro (fun h41 => ?_) fun _ => fin
      have hn41 : nn ≤ 40 := by have := of_decide_eq_true h41; omega
      symm_saturate
      refine ⟨l3, ?_⟩
      refine call_law_shown (sh := ⟨text, (pace : Int), 0⟩) hs (by omega) hshok (by omega) (by omega) ?_
      symm_saturate
      refine call_may_be hs (shown_ok _ _ _ _) (by omega) (by rw [shown_len]; omega) hpos htl10 hp10 ?_
      rw [full_may ht hkn]
      refine ne_same (x := encR text) rfl (by simp [encR, D.dep]) ?_
      symm_saturate
      rw [cut_m1, List.length_map, shown_len, ← List.map_take, shown_take]
      refine call_may_be hs (shown_ok _ _ _ _) (by omega) (by rw [shown_len]; omega) hpos htl10 hp10 ?_
      obtain ⟨t, hmt, h63⟩ := short_may ht hkn
      rw [hmt]
      refine ⟨rfl, ?_⟩
      refine (show br (!decide (63 ∈ t)) _ _ from ?_)
      rw [decide_eq_true h63, Bool.not_true]
      exact fin
  · rintro y rest2 _ S13 ⟨rfl, hy, b14, rfl⟩ N2 hN2
    obtain ⟨y1, y2⟩ := hy y (List.mem_cons_self ..)
    symm_saturate
    refine ⟨l2, ?_⟩
    refine call_law_all_so (c := (text.length, pace)) hs y1 (by omega) y2 ?_
    exact hN2 _ _ ⟨rfl, fun z hz => hy z (List.mem_cons_of_mem _ hz), _, rfl⟩
end Dat
set_option Elab.async false
set_option linter.all false
set_option maxRecDepth 100000
set_option maxHeartbeats 0
/-! the walk of k31 (printed by gen.py) and its head -/
namespace Wk31
open PySem PySem.Spec PyProof.Rows L2 Dat
def top (i : Nat) : Stmt := PySem.Challenge.pw_slitstack_k31_whole_what_a_sheet_may_be.main.body.getD i (.Pass ⟨0, 0, 0, 0⟩)
section
variable {P : Program} {w : World} {K : PySem.W.Frag} {mg : Str → Option Value} {base : Heap} {f : Addr} {fd : FuncData}
theorem sc_common : FnScope ["one", "other"] ["one", "other"] (defScope (top 3)) := ⟨rfl, rfl, rfl, by decide +kernel, rfl, by decide +kernel, by decide +kernel⟩
theorem ok_common (Fd : FnP K "common" (top 3) f fd)  : FnOk P w K mg base CX0 1 f fd ["one", "other"] (spOf K F_common) := by
  refine fn_data (lvl := 0) Fd sc_common (fun ds S k h => by first | (obtain ⟨rfl, _⟩ := h; rfl) | (obtain ⟨_, rfl, _⟩ := h; rfl) | (obtain ⟨_, _, rfl, _⟩ := h; rfl) | (obtain ⟨_, _, _, rfl, _⟩ := h; rfl) | (obtain ⟨_, _, _, _, rfl, _⟩ := h; rfl) | (obtain ⟨_, _, _, _, _, rfl, _⟩ := h; rfl)) (fun cdv A outer s H E hr => ?_) p_common
  have nd : (["one", "other"] : List Str).Nodup := by decide +kernel
  exact dss_cons (ds_while PassesOwn.never (dt_cmp (op_neA (hu65 hr)) (de_var 1) (de_int) (nomark _)) (dss_one (ds_par 0 1 rfl nd (de_var 1) (de_op op_modA (de_var 0) (de_var 1)) (by rfl))))
      (dss_one (ds_ret (de_var 0)))
theorem sc_sign_at : FnScope ["sheet", "place", "beat", "pattern", "pace", "first"] ["sheet", "place", "beat"] (defScope (top 5)) := ⟨rfl, rfl, rfl, by decide +kernel, rfl, by decide +kernel, by decide +kernel⟩
theorem ok_sign_at (Fd : FnP K "sign_at" (top 5) f fd) (m_len : mg "len" = none) : FnOk P w K mg base CX0 1 f fd ["sheet", "place", "beat"] (spOf K F_sign_at) := by
  refine fn_data (lvl := 0) Fd sc_sign_at (fun ds S k h => by first | (obtain ⟨rfl, _⟩ := h; rfl) | (obtain ⟨_, rfl, _⟩ := h; rfl) | (obtain ⟨_, _, rfl, _⟩ := h; rfl) | (obtain ⟨_, _, _, rfl, _⟩ := h; rfl) | (obtain ⟨_, _, _, _, rfl, _⟩ := h; rfl) | (obtain ⟨_, _, _, _, _, rfl, _⟩ := h; rfl)) (fun cdv A outer s H E hr => ?_) p_sign_at
  have nd : (["sheet", "place", "beat", "pattern", "pace", "first"] : List Str).Nodup := by decide +kernel
  exact dss_cons (ds_asg (de_var 0) (dg_tup rfl (dgs_cons (dg_name 3 nd) (dgs_cons (dg_name 4 nd) (dgs_cons (dg_name 5 nd) (dgs_nil))))))
      (dss_one (ds_ret (de_idx (de_var 3) (de_op op_modA (de_op op_addA (de_op op_addA (de_var 5) (de_var 1)) (de_op op_mulA (de_var 4) (de_var 2))) (de_cb cb_len (by rfl) m_len (by decide +kernel) (da_cons (de_var 3) (da_nil)))))))
theorem sc_law_sign : FnScope ["sheet", "place", "beat", "text", "pace", "first"] ["sheet", "place", "beat"] (defScope (top 14)) := ⟨rfl, rfl, rfl, by decide +kernel, rfl, by decide +kernel, by decide +kernel⟩
theorem ok_law_sign (Fd : FnP K "_law_sign" (top 14) f fd) (m_len : mg "len" = none) : FnOk P w K mg base CX0 1 f fd ["sheet", "place", "beat"] (spOf K F_law_sign) := by
  refine fn_data (lvl := 0) Fd sc_law_sign (fun ds S k h => by first | (obtain ⟨rfl, _⟩ := h; rfl) | (obtain ⟨_, rfl, _⟩ := h; rfl) | (obtain ⟨_, _, rfl, _⟩ := h; rfl) | (obtain ⟨_, _, _, rfl, _⟩ := h; rfl) | (obtain ⟨_, _, _, _, rfl, _⟩ := h; rfl) | (obtain ⟨_, _, _, _, _, rfl, _⟩ := h; rfl)) (fun cdv A outer s H E hr => ?_) p_law_sign
  have nd : (["sheet", "place", "beat", "text", "pace", "first"] : List Str).Nodup := by decide +kernel
  exact dss_cons (ds_asg (de_var 0) (dg_tup rfl (dgs_cons (dg_name 3 nd) (dgs_cons (dg_name 4 nd) (dgs_cons (dg_name 5 nd) (dgs_nil))))))
      (dss_one (ds_ret (de_idx (de_var 3) (de_op op_modA (de_op op_addA (de_op op_addA (de_var 5) (de_var 1)) (de_op op_mulA (de_var 4) (de_var 2))) (de_cb cb_len (by rfl) m_len (by decide +kernel) (da_cons (de_var 3) (da_nil)))))))
theorem sc_law_beats : FnScope ["sheet", "found"] ["sheet"] (defScope (top 16)) := ⟨rfl, rfl, rfl, by decide +kernel, rfl, by decide +kernel, by decide +kernel⟩
theorem ok_law_beats (Fd : FnP K "_law_beats" (top 16) f fd) (m_len : mg "len" = none) : FnOk P w K mg base CX0 1 f fd ["sheet"] (spOf K F_law_beats) := by
  refine fn_data (lvl := 0) Fd sc_law_beats (fun ds S k h => by first | (obtain ⟨rfl, _⟩ := h; rfl) | (obtain ⟨_, rfl, _⟩ := h; rfl) | (obtain ⟨_, _, rfl, _⟩ := h; rfl) | (obtain ⟨_, _, _, rfl, _⟩ := h; rfl) | (obtain ⟨_, _, _, _, rfl, _⟩ := h; rfl) | (obtain ⟨_, _, _, _, _, rfl, _⟩ := h; rfl)) (fun cdv A outer s H E hr => ?_) p_law_beats
  have nd : (["sheet", "found"] : List Str).Nodup := by decide +kernel
  exact dss_cons (ds_set 1 nd (de_int))
      (dss_cons (ds_while PassesOwn.never (dt_cmp (op_neA (hu65 hr)) (de_op op_modA (de_op op_mulA (de_idx (de_var 0) (de_int)) (de_var 1)) (de_cb cb_len (by rfl) m_len (by decide +kernel) (da_cons (de_idx (de_var 0) (de_int)) (da_nil)))) (de_int) (nomark _)) (dss_one (ds_set 1 nd (de_op op_addA (de_var 1) (de_int)))))
      (dss_one (ds_ret (de_var 1))))
theorem sc_law_draws : FnScope ["script", "k", "cell"] ["script", "k"] (defScope (top 18)) := ⟨rfl, rfl, rfl, by decide +kernel, rfl, by decide +kernel, by decide +kernel⟩
theorem ok_law_draws (Fd : FnP K "_law_draws" (top 18) f fd) (m_int : mg "int" = none) (m_len : mg "len" = none) : FnOk P w K mg base CX0 1 f fd ["script", "k"] (spOf K F_law_draws) := by
  refine fn_data (lvl := 0) Fd sc_law_draws (fun ds S k h => by first | (obtain ⟨rfl, _⟩ := h; rfl) | (obtain ⟨_, rfl, _⟩ := h; rfl) | (obtain ⟨_, _, rfl, _⟩ := h; rfl) | (obtain ⟨_, _, _, rfl, _⟩ := h; rfl) | (obtain ⟨_, _, _, _, rfl, _⟩ := h; rfl) | (obtain ⟨_, _, _, _, _, rfl, _⟩ := h; rfl)) (fun cdv A outer s H E hr => ?_) p_law_draws
  have nd : (["script", "k", "cell"] : List Str).Nodup := by decide +kernel
  exact dss_cons (ds_set 2 nd (de_op op_mulA (de_int) (de_var 1)))
      (dss_cons (ds_if (dt_cmp (op_ltA (hu0 hr)) (de_var 1) (de_cb cb_len (by rfl) m_len (by decide +kernel) (da_cons (de_var 0) (da_nil))) (nomark _)) (dss_one (ds_set 2 nd (de_op op_modA (de_idx (de_var 0) (de_var 1)) (de_op op_mulA (de_op op_mulA (de_op op_mulA (de_op op_mulA (de_op op_powA (de_int) (de_int)) (de_op op_powA (de_int) (de_int))) (de_op op_powA (de_int) (de_int))) (de_op op_powA (de_int) (de_int))) (de_op op_powA (de_int) (de_int)))))) (dss_one (ds_if (dt_cmp op_gtA (de_cb cb_len (by rfl) m_len (by decide +kernel) (da_cons (de_var 0) (da_nil))) (de_int) (nomark _)) (dss_one (ds_set 2 nd (de_op op_addA (de_op op_modA (de_idx (de_var 0) (de_op op_modA (de_var 1) (de_cb cb_len (by rfl) m_len (by decide +kernel) (da_cons (de_var 0) (da_nil))))) (de_op op_powA (de_int) (de_int))) (de_op op_mulA (de_int) (de_var 1))))) (dss_nil))))
      (dss_one (ds_retN (dn_lst (da_cons (de_op op_mulA (de_var 2) (de_cty cb_int (by rfl) m_int (by decide +kernel) (da_cons (de_cmp op_geA (de_var 2) (de_op op_powA (de_int) (de_int)) (nomark _)) (da_nil)))) (da_cons (de_op op_addA (de_int) (de_op op_modA (de_op op_addA (de_op op_mulA (de_var 2) (de_int)) (de_op op_mulA (de_int) (de_op op_addA (de_var 1) (de_int)))) (de_int))) (da_nil)))))))
theorem sc_law_draw : FnScope ["draws", "many", "found", "wide"] ["draws", "many"] (defScope (top 19)) := ⟨rfl, rfl, rfl, by decide +kernel, rfl, by decide +kernel, by decide +kernel⟩
theorem ok_law_draw (Fd : FnP K "_law_draw" (top 19) f fd)  : FnOk P w K mg base CX0 1 f fd ["draws", "many"] (spOf K F_law_draw) := by
  refine fn_data (lvl := 0) Fd sc_law_draw (fun ds S k h => by first | (obtain ⟨rfl, _⟩ := h; rfl) | (obtain ⟨_, rfl, _⟩ := h; rfl) | (obtain ⟨_, _, rfl, _⟩ := h; rfl) | (obtain ⟨_, _, _, rfl, _⟩ := h; rfl) | (obtain ⟨_, _, _, _, rfl, _⟩ := h; rfl) | (obtain ⟨_, _, _, _, _, rfl, _⟩ := h; rfl)) (fun cdv A outer s H E hr => ?_) p_law_draw
  have nd : (["draws", "many", "found", "wide"] : List Str).Nodup := by decide +kernel
  exact dss_cons (ds_if (dt_cmp op_gtA (de_idx (de_var 0) (de_int)) (de_int) (nomark _)) (dss_cons (ds_set 2 nd (de_op op_modA (de_idx (de_var 0) (de_int)) (de_var 1)))
      (dss_cons (ds_store (de_op op_divA (de_idx (de_var 0) (de_int)) (de_var 1)) (de_var 0) (de_int))
      (dss_one (ds_ret (de_var 2))))) (dss_nil))
      (dss_cons (ds_set 2 nd (de_int))
      (dss_cons (ds_set 3 nd (de_int))
      (dss_cons (ds_while PassesOwn.never (dt_cmp (op_ltA (hu0 hr)) (de_var 3) (de_var 1) (nomark _)) (dss_cons (ds_store (de_op op_modA (de_op op_mulA (de_idx (de_var 0) (de_int)) (de_int)) (de_int)) (de_var 0) (de_int))
      (dss_cons (ds_set 2 nd (de_op op_addA (de_op op_mulA (de_var 2) (de_int)) (de_op op_divA (de_op op_modA (de_op op_mulA (de_idx (de_var 0) (de_int)) (de_op op_addA (de_op op_divA (de_idx (de_var 0) (de_int)) (de_int)) (de_int))) (de_int)) (de_int))))
      (dss_one (ds_set 3 nd (de_op op_mulA (de_var 3) (de_int)))))))
      (dss_one (ds_ret (de_op op_modA (de_var 2) (de_var 1)))))))
theorem sc_goes_round : FnScope ["length", "pace"] ["length", "pace"] (defScope (top 4)) := ⟨rfl, rfl, rfl, by decide +kernel, rfl, by decide +kernel, by decide +kernel⟩
theorem ok_goes_round (Fd : FnP K "goes_round" (top 4) f fd) (c_common : Cal P w K mg base "common" 1 ["one", "other"] F_common) (m_abs : mg "abs" = none) : FnOk P w K mg base CX0 2 f fd ["length", "pace"] (spOf K F_goes_round) := by
  refine fn_data (lvl := 1) Fd sc_goes_round (fun ds S k h => by first | (obtain ⟨rfl, _⟩ := h; rfl) | (obtain ⟨_, rfl, _⟩ := h; rfl) | (obtain ⟨_, _, rfl, _⟩ := h; rfl) | (obtain ⟨_, _, _, rfl, _⟩ := h; rfl) | (obtain ⟨_, _, _, _, rfl, _⟩ := h; rfl) | (obtain ⟨_, _, _, _, _, rfl, _⟩ := h; rfl)) (fun cdv A outer s H E hr => ?_) p_goes_round
  have nd : (["length", "pace"] : List Str).Nodup := by decide +kernel
  exact dss_one (ds_ret (de_op op_divA (de_var 0) (de_call c_common (hr.mono (by decide)) (by rfl) (da_cons (de_var 0) (da_cons (de_cb cb_abs (by rfl) m_abs (by decide +kernel) (da_cons (de_var 1) (da_nil))) (da_nil))))))
theorem sc_is_open : FnScope ["stack", "place", "beat", "sheet"] ["stack", "place", "beat"] (defScope (top 6)) := ⟨rfl, rfl, rfl, by decide +kernel, rfl, by decide +kernel, by decide +kernel⟩
theorem ok_is_open (Fd : FnP K "is_open" (top 6) f fd) (c_sign_at : Cal P w K mg base "sign_at" 1 ["sheet", "place", "beat"] F_sign_at) (m_all : mg "all" = none) (m_HOLE : ∃ t, mg "HOLE" = some (.str ⟨([46] : List Nat).toArray⟩ t)) : FnOk P w K mg base CX0 2 f fd ["stack", "place", "beat"] (spOf K F_is_open) := by
  refine fn_data (lvl := 1) Fd sc_is_open (fun ds S k h => by first | (obtain ⟨rfl, _⟩ := h; rfl) | (obtain ⟨_, rfl, _⟩ := h; rfl) | (obtain ⟨_, _, rfl, _⟩ := h; rfl) | (obtain ⟨_, _, _, rfl, _⟩ := h; rfl) | (obtain ⟨_, _, _, _, rfl, _⟩ := h; rfl) | (obtain ⟨_, _, _, _, _, rfl, _⟩ := h; rfl)) (fun cdv A outer s H E hr => ?_) p_is_open
  have nd : (["stack", "place", "beat", "sheet"] : List Str).Nodup := by decide +kernel
  exact dss_one (ds_ret (de_cb (cb_all rfl) (by rfl) m_all (by decide +kernel) (da_cons (de_new (dn_lc (own := [("sheet", 3)]) rfl nd (di_val (de_var 0)) (blkOk_by (by rfl)) (fun _ _ _ _ _ => dg_name 3 nd) (fun _ _ _ _ _ => dts_nil) (fun _ _ _ _ _ => de_cmp (op_eqA (hu65 hr)) (de_call c_sign_at (hr.mono (by decide)) (by rfl) (da_cons (de_var 3) (da_cons (de_var 1) (da_cons (de_var 2) (da_nil))))) (de_gstr (by rfl) m_HOLE) (nomark _)))) (da_nil))))
theorem sc_law_row : FnScope ["stack", "wide", "beat", "found", "place", "signs", "sheet"] ["stack", "wide", "beat"] (defScope (top 15)) := ⟨rfl, rfl, rfl, by decide +kernel, rfl, by decide +kernel, by decide +kernel⟩
theorem ok_law_row (Fd : FnP K "_law_row" (top 15) f fd) (c_law_sign : Cal P w K mg base "_law_sign" 1 ["sheet", "place", "beat"] F_law_sign) (m_range : mg "range" = none) : FnOk P w K mg base CX0 2 f fd ["stack", "wide", "beat"] (spOf K F_law_row) := by
  refine fn_data (lvl := 1) Fd sc_law_row (fun ds S k h => by first | (obtain ⟨rfl, _⟩ := h; rfl) | (obtain ⟨_, rfl, _⟩ := h; rfl) | (obtain ⟨_, _, rfl, _⟩ := h; rfl) | (obtain ⟨_, _, _, rfl, _⟩ := h; rfl) | (obtain ⟨_, _, _, _, rfl, _⟩ := h; rfl) | (obtain ⟨_, _, _, _, _, rfl, _⟩ := h; rfl)) (fun cdv A outer s H E hr => ?_) p_law_row
  have nd : (["stack", "wide", "beat", "found", "place", "signs", "sheet"] : List Str).Nodup := by decide +kernel
  exact dss_cons (ds_set 3 nd (de_str (s := []) (by decide +kernel)))
      (dss_cons (ds_for PassesOwn.never rfl (di_rng1 (by rfl) m_range (de_var 1)) (dg_name 4 nd) (dss_cons (ds_setLc 5 (own := [("sheet", 6)]) rfl nd (sw_true rfl rfl rfl (by decide +kernel)) (di_val (de_var 0)) (blkOk_by (by rfl)) (fun _ _ _ _ _ => dg_name 6 nd) (fun _ _ _ _ _ => dts_nil) (fun _ _ _ _ _ => de_call c_law_sign (hr.mono (by decide)) (by rfl) (da_cons (de_var 6) (da_cons (de_var 4) (da_cons (de_var 2) (da_nil))))))
      (dss_one (ds_set 3 nd (de_op op_addA (de_var 3) (de_if (dt_cmp (op_inA (hu66 hr)) (de_str (s := [35]) (by decide +kernel)) (de_var 5) (by with_unfolding_all rfl)) (de_str (s := [35]) (by decide +kernel)) (de_str (s := [46]) (by decide +kernel))))))))
      (dss_one (ds_ret (de_var 3))))
theorem sc_law_whole : FnScope ["stacks", "found", "stack", "sheet", "step"] ["stacks"] (defScope (top 17)) := ⟨rfl, rfl, rfl, by decide +kernel, rfl, by decide +kernel, by decide +kernel⟩
theorem ok_law_whole (Fd : FnP K "_law_whole" (top 17) f fd) (c_law_beats : Cal P w K mg base "_law_beats" 1 ["sheet"] F_law_beats) : FnOk P w K mg base CX0 2 f fd ["stacks"] (spOf K F_law_whole) := by
  refine fn_data (lvl := 1) Fd sc_law_whole (fun ds S k h => by first | (obtain ⟨rfl, _⟩ := h; rfl) | (obtain ⟨_, rfl, _⟩ := h; rfl) | (obtain ⟨_, _, rfl, _⟩ := h; rfl) | (obtain ⟨_, _, _, rfl, _⟩ := h; rfl) | (obtain ⟨_, _, _, _, rfl, _⟩ := h; rfl) | (obtain ⟨_, _, _, _, _, rfl, _⟩ := h; rfl)) (fun cdv A outer s H E hr => ?_) p_law_whole
  have nd : (["stacks", "found", "stack", "sheet", "step"] : List Str).Nodup := by decide +kernel
  exact dss_cons (ds_set 1 nd (de_int))
      (dss_cons (ds_for PassesOwn.never rfl (di_val (de_var 0)) (dg_name 2 nd) (dss_one (ds_for PassesOwn.never rfl (di_val (de_var 2)) (dg_name 3 nd) (dss_cons (ds_set 4 nd (de_var 1))
      (dss_one (ds_while PassesOwn.never (dt_cmp (op_neA (hu65 hr)) (de_op op_modA (de_var 1) (de_call c_law_beats (hr.mono (by decide)) (by rfl) (da_cons (de_var 3) (da_nil)))) (de_int) (nomark _)) (dss_one (ds_set 1 nd (de_op op_addA (de_var 1) (de_var 4))))))))))
      (dss_one (ds_ret (de_var 1))))
theorem sc_law_pattern : FnScope ["draws", "most1", "share", "signs", "k"] ["draws", "most1"] (defScope (top 20)) := ⟨rfl, rfl, rfl, by decide +kernel, rfl, by decide +kernel, by decide +kernel⟩
theorem ok_law_pattern (Fd : FnP K "_law_pattern" (top 20) f fd) (c_law_draw : Cal P w K mg base "_law_draw" 1 ["draws", "many"] F_law_draw) (m_range : mg "range" = none) : FnOk P w K mg base CX0 2 f fd ["draws", "most1"] (spOf K F_law_pattern) := by
  refine fn_data (lvl := 1) Fd sc_law_pattern (fun ds S k h => by first | (obtain ⟨rfl, _⟩ := h; rfl) | (obtain ⟨_, rfl, _⟩ := h; rfl) | (obtain ⟨_, _, rfl, _⟩ := h; rfl) | (obtain ⟨_, _, _, rfl, _⟩ := h; rfl) | (obtain ⟨_, _, _, _, rfl, _⟩ := h; rfl) | (obtain ⟨_, _, _, _, _, rfl, _⟩ := h; rfl)) (fun cdv A outer s H E hr => ?_) p_law_pattern
  have nd : (["draws", "most1", "share", "signs", "k"] : List Str).Nodup := by decide +kernel
  exact dss_cons (ds_set 2 nd (de_idx (de_new (dn_lst (da_cons (de_int) (da_cons (de_int) (da_cons (de_int) (da_cons (de_int) (da_nil))))))) (de_callM c_law_draw (hr.mono (by decide)) (by rfl) (da_cons (de_var 0) (da_cons (de_int) (da_nil))))))
      (dss_cons (ds_setLc 3 (own := [("k", 4)]) rfl nd (sw_true rfl rfl rfl (by decide +kernel)) (di_rng1 (by rfl) m_range (de_op op_addA (de_int) (de_callM c_law_draw (hr.mono (by decide)) (by rfl) (da_cons (de_var 0) (da_cons (de_var 1) (da_nil)))))) (blkOk_by (by rfl)) (fun _ _ _ _ _ => dg_name 4 nd) (fun _ _ _ _ _ => dts_nil) (fun _ _ _ _ _ => de_if (dt_cmp (op_eqA (hu65 hr)) (de_callM c_law_draw (hr.mono (by decide)) (by rfl) (da_cons (de_var 0) (da_cons (de_op op_addA (de_var 2) (de_int)) (da_nil)))) (de_int) (nomark _)) (de_str (s := [35]) (by decide +kernel)) (de_str (s := [46]) (by decide +kernel))))
      (dss_one (ds_ret (de_join (de_str (s := []) (by decide +kernel)) (de_var 3)))))
theorem sc_law_of : FnScope ["draws", "some"] ["draws", "some"] (defScope (top 23)) := ⟨rfl, rfl, rfl, by decide +kernel, rfl, by decide +kernel, by decide +kernel⟩
theorem ok_law_of (Fd : FnP K "_law_of" (top 23) f fd) (c_law_draw : Cal P w K mg base "_law_draw" 1 ["draws", "many"] F_law_draw) (m_len : mg "len" = none) : FnOk P w K mg base CX0 2 f fd ["draws", "some"] (spOf K F_law_of) := by
  refine fn_data (lvl := 1) Fd sc_law_of (fun ds S k h => by first | (obtain ⟨rfl, _⟩ := h; rfl) | (obtain ⟨_, rfl, _⟩ := h; rfl) | (obtain ⟨_, _, rfl, _⟩ := h; rfl) | (obtain ⟨_, _, _, rfl, _⟩ := h; rfl) | (obtain ⟨_, _, _, _, rfl, _⟩ := h; rfl) | (obtain ⟨_, _, _, _, _, rfl, _⟩ := h; rfl)) (fun cdv A outer s H E hr => ?_) p_law_of
  have nd : (["draws", "some"] : List Str).Nodup := by decide +kernel
  exact dss_one (ds_ret (de_idx (de_var 1) (de_callM c_law_draw (hr.mono (by decide)) (by rfl) (da_cons (de_var 0) (da_cons (de_cb cb_len (by rfl) m_len (by decide +kernel) (da_cons (de_var 1) (da_nil))) (da_nil))))))
theorem sc_law_may : FnScope ["stack", "wide", "seen", "length", "pace", "found", "spot", "signs", "beat", "place", "clear", "one", "sheet"] ["stack", "wide", "seen", "length", "pace"] (defScope (top 25)) := ⟨rfl, rfl, rfl, by decide +kernel, rfl, by decide +kernel, by decide +kernel⟩
theorem ok_law_may (Fd : FnP K "_law_may" (top 25) f fd) (c_law_sign : Cal P w K mg base "_law_sign" 1 ["sheet", "place", "beat"] F_law_sign) (m_len : mg "len" = none) (m_range : mg "range" = none) : FnOk P w K mg base CX0 2 f fd ["stack", "wide", "seen", "length", "pace"] (spOf K F_law_may) := by
  refine fn_data (lvl := 1) Fd sc_law_may (fun ds S k h => by first | (obtain ⟨rfl, _⟩ := h; rfl) | (obtain ⟨_, rfl, _⟩ := h; rfl) | (obtain ⟨_, _, rfl, _⟩ := h; rfl) | (obtain ⟨_, _, _, rfl, _⟩ := h; rfl) | (obtain ⟨_, _, _, _, rfl, _⟩ := h; rfl) | (obtain ⟨_, _, _, _, _, rfl, _⟩ := h; rfl)) (fun cdv A outer s H E hr => ?_) p_law_may
  have nd : (["stack", "wide", "seen", "length", "pace", "found", "spot", "signs", "beat", "place", "clear", "one", "sheet"] : List Str).Nodup := by decide +kernel
  exact dss_cons (ds_set 5 nd (de_str (s := []) (by decide +kernel)))
      (dss_cons (ds_for PassesOwn.never rfl (di_rng1 (by rfl) m_range (de_var 3)) (dg_name 6 nd) (dss_cons (ds_own 7 nd (dn_lst (da_nil)))
      (dss_cons (ds_for PassesOwn.never rfl (di_rng1 (by rfl) m_range (de_cb cb_len (by rfl) m_len (by decide +kernel) (da_cons (de_var 2) (da_nil)))) (dg_name 8 nd) (dss_one (ds_for PassesOwn.never rfl (di_val (de_new (dn_lc (own := [("one", 11)]) rfl nd (di_rng1 (by rfl) m_range (de_var 1)) (blkOk_by (by rfl)) (fun _ _ _ _ _ => dg_name 11 nd) (fun _ _ _ _ _ => dts_one (dt_cmp (op_eqA (hu65 hr)) (de_op op_modA (de_op op_addA (de_var 11) (de_op op_mulA (de_var 4) (de_var 8))) (de_var 3)) (de_var 6) (nomark _))) (fun _ _ _ _ _ => de_var 11)))) (dg_name 9 nd) (dss_cons (ds_set 10 nd (de_cmp (op_notInA (hu66 hr)) (de_str (s := [35]) (by decide +kernel)) (de_new (dn_lc (own := [("sheet", 12)]) rfl nd (di_val (de_var 0)) (blkOk_by (by rfl)) (fun _ _ _ _ _ => dg_name 12 nd) (fun _ _ _ _ _ => dts_nil) (fun _ _ _ _ _ => de_call c_law_sign (hr.mono (by decide)) (by rfl) (da_cons (de_var 12) (da_cons (de_var 9) (da_cons (de_var 8) (da_nil))))))) (by with_unfolding_all rfl)))
      (dss_cons (ds_if (DW.dt (dw_and (dt_cmp (op_eqA (hu65 hr)) (de_idx (de_idx (de_var 2) (de_var 8)) (de_var 9)) (de_str (s := [46]) (by decide +kernel)) (nomark _)) (dw_and1 (dt_not (dt_tru (de_var 10)))))) (dss_one (ds_ret (de_non))) (dss_nil))
      (dss_one (ds_if (DW.dt (dw_and (dt_cmp (op_neA (hu65 hr)) (de_idx (de_idx (de_var 2) (de_var 8)) (de_var 9)) (de_str (s := [63]) (by decide +kernel)) (nomark _)) (dw_and1 (dt_tru (de_var 10))))) (dss_one (ds_drop (de_app (de_var 7) (de_idx (de_idx (de_var 2) (de_var 8)) (de_var 9))))) (dss_nil))))))))
      (dss_cons (ds_if (DW.dt (dw_and (dt_cmp (op_inA (hu66 hr)) (de_str (s := [46]) (by decide +kernel)) (de_var 7) (by with_unfolding_all rfl)) (dw_and1 (dt_cmp (op_inA (hu66 hr)) (de_str (s := [35]) (by decide +kernel)) (de_var 7) (by with_unfolding_all rfl))))) (dss_one (ds_ret (de_non))) (dss_nil))
      (dss_one (ds_set 5 nd (de_op op_addA (de_var 5) (de_idx (de_op op_addA (de_var 7) (de_new (dn_lst (da_cons (de_str (s := [63]) (by decide +kernel)) (da_nil))))) (de_int)))))))))
      (dss_one (ds_ret (de_var 5))))
theorem sc_whole_round : FnScope ["stacks", "found", "stack", "pattern", "pace", "first", "beats"] ["stacks"] (defScope (top 7)) := ⟨rfl, rfl, rfl, by decide +kernel, rfl, by decide +kernel, by decide +kernel⟩
theorem ok_whole_round (Fd : FnP K "whole_round" (top 7) f fd) (c_goes_round : Cal P w K mg base "goes_round" 2 ["length", "pace"] F_goes_round) (c_common : Cal P w K mg base "common" 1 ["one", "other"] F_common) (m_len : mg "len" = none) : FnOk P w K mg base CX0 3 f fd ["stacks"] (spOf K F_whole_round) := by
  refine fn_data (lvl := 2) Fd sc_whole_round (fun ds S k h => by first | (obtain ⟨rfl, _⟩ := h; rfl) | (obtain ⟨_, rfl, _⟩ := h; rfl) | (obtain ⟨_, _, rfl, _⟩ := h; rfl) | (obtain ⟨_, _, _, rfl, _⟩ := h; rfl) | (obtain ⟨_, _, _, _, rfl, _⟩ := h; rfl) | (obtain ⟨_, _, _, _, _, rfl, _⟩ := h; rfl)) (fun cdv A outer s H E hr => ?_) p_whole_round
  have nd : (["stacks", "found", "stack", "pattern", "pace", "first", "beats"] : List Str).Nodup := by decide +kernel
  exact dss_cons (ds_set 1 nd (de_int))
      (dss_cons (ds_for PassesOwn.never rfl (di_val (de_var 0)) (dg_name 2 nd) (dss_one (ds_for PassesOwn.never rfl (di_val (de_var 2)) (dg_tup rfl (dgs_cons (dg_name 3 nd) (dgs_cons (dg_name 4 nd) (dgs_cons (dg_name 5 nd) (dgs_nil))))) (dss_cons (ds_set 6 nd (de_call c_goes_round (hr.mono (by decide)) (by rfl) (da_cons (de_cb cb_len (by rfl) m_len (by decide +kernel) (da_cons (de_var 3) (da_nil))) (da_cons (de_var 4) (da_nil)))))
      (dss_one (ds_set 1 nd (de_op op_divA (de_op op_mulA (de_var 1) (de_var 6)) (de_call c_common (hr.mono (by decide)) (by rfl) (da_cons (de_var 1) (da_cons (de_var 6) (da_nil)))))))))))
      (dss_one (ds_ret (de_var 1))))
theorem sc_may_be : FnScope ["stack", "wide", "seen", "length", "pace", "found", "beat", "signs", "place", "behind", "spot"] ["stack", "wide", "seen", "length", "pace"] (defScope (top 10)) := ⟨rfl, rfl, rfl, by decide +kernel, rfl, by decide +kernel, by decide +kernel⟩
theorem ok_may_be (Fd : FnP K "may_be" (top 10) f fd) (c_is_open : Cal P w K mg base "is_open" 2 ["stack", "place", "beat"] F_is_open) (m_enumerate : mg "enumerate" = none) (m_range : mg "range" = none) (m_HOLE : ∃ t, mg "HOLE" = some (.str ⟨([46] : List Nat).toArray⟩ t)) (m_UNSEEN : ∃ t, mg "UNSEEN" = some (.str ⟨([63] : List Nat).toArray⟩ t)) : FnOk P w K mg base CX0 3 f fd ["stack", "wide", "seen", "length", "pace"] (spOf K F_may_be) := by
  refine fn_data (lvl := 2) Fd sc_may_be (fun ds S k h => by first | (obtain ⟨rfl, _⟩ := h; rfl) | (obtain ⟨_, rfl, _⟩ := h; rfl) | (obtain ⟨_, _, rfl, _⟩ := h; rfl) | (obtain ⟨_, _, _, rfl, _⟩ := h; rfl) | (obtain ⟨_, _, _, _, rfl, _⟩ := h; rfl) | (obtain ⟨_, _, _, _, _, rfl, _⟩ := h; rfl)) (fun cdv A outer s H E hr => ?_) p_may_be
  have nd : (["stack", "wide", "seen", "length", "pace", "found", "beat", "signs", "place", "behind", "spot"] : List Str).Nodup := by decide +kernel
  exact dss_cons (ds_own 5 nd (dn_mul (de_new (dn_lst (da_cons (de_gstr (by rfl) m_UNSEEN) (da_nil)))) (de_var 3)))
      (dss_cons (ds_for PassesOwn.never rfl (di_enum (by rfl) m_enumerate (de_var 2)) (dg_tup rfl (dgs_cons (dg_name 6 nd) (dgs_cons (dg_name 7 nd) (dgs_nil)))) (dss_one (ds_for PassesOwn.never rfl (di_rng1 (by rfl) m_range (de_var 1)) (dg_name 8 nd) (dss_cons (ds_set 9 nd (de_call c_is_open (hr.mono (by decide)) (by rfl) (da_cons (de_var 0) (da_cons (de_var 8) (da_cons (de_var 6) (da_nil))))))
      (dss_cons (ds_if (DW.dt (dw_and (dt_cmp (op_eqA (hu65 hr)) (de_idx (de_var 7) (de_var 8)) (de_gstr (by rfl) m_HOLE) (nomark _)) (dw_and1 (dt_not (dt_tru (de_var 9)))))) (dss_one (ds_ret (de_non))) (dss_nil))
      (dss_one (ds_if (DW.dt (dw_and (dt_cmp (op_neA (hu65 hr)) (de_idx (de_var 7) (de_var 8)) (de_gstr (by rfl) m_UNSEEN) (nomark _)) (dw_and1 (dt_tru (de_var 9))))) (dss_cons (ds_set 10 nd (de_op op_modA (de_op op_addA (de_var 8) (de_op op_mulA (de_var 4) (de_var 6))) (de_var 3)))
      (dss_cons (ds_if (dt_cmp (op_notInA (hu66 hr)) (de_idx (de_var 5) (de_var 10)) (de_tup (da_cons (de_gstr (by rfl) m_UNSEEN) (da_cons (de_idx (de_var 7) (de_var 8)) (da_nil)))) (by with_unfolding_all rfl)) (dss_one (ds_ret (de_non))) (dss_nil))
      (dss_one (ds_store (de_idx (de_var 7) (de_var 8)) (de_var 5) (de_var 10))))) (dss_nil))))))))
      (dss_one (ds_ret (de_join (de_str (s := []) (by decide +kernel)) (de_var 5)))))
theorem sc_law_sheet : FnScope ["draws", "most1", "pattern", "pace"] ["draws", "most1"] (defScope (top 21)) := ⟨rfl, rfl, rfl, by decide +kernel, rfl, by decide +kernel, by decide +kernel⟩
theorem ok_law_sheet (Fd : FnP K "_law_sheet" (top 21) f fd) (c_law_pattern : Cal P w K mg base "_law_pattern" 2 ["draws", "most1"] F_law_pattern) (c_law_draw : Cal P w K mg base "_law_draw" 1 ["draws", "many"] F_law_draw) (m_len : mg "len" = none) : FnOk P w K mg base CX0 3 f fd ["draws", "most1"] (spOf K F_law_sheet) := by
  refine fn_data (lvl := 2) Fd sc_law_sheet (fun ds S k h => by first | (obtain ⟨rfl, _⟩ := h; rfl) | (obtain ⟨_, rfl, _⟩ := h; rfl) | (obtain ⟨_, _, rfl, _⟩ := h; rfl) | (obtain ⟨_, _, _, rfl, _⟩ := h; rfl) | (obtain ⟨_, _, _, _, rfl, _⟩ := h; rfl) | (obtain ⟨_, _, _, _, _, rfl, _⟩ := h; rfl)) (fun cdv A outer s H E hr => ?_) p_law_sheet
  have nd : (["draws", "most1", "pattern", "pace"] : List Str).Nodup := by decide +kernel
  exact dss_cons (ds_set 2 nd (de_callM c_law_pattern (hr.mono (by decide)) (by rfl) (da_cons (de_var 0) (da_cons (de_var 1) (da_nil)))))
      (dss_cons (ds_set 3 nd (de_idx (de_new (dn_lst (da_cons (de_op op_subA (de_callM c_law_draw (hr.mono (by decide)) (by rfl) (da_cons (de_var 0) (da_cons (de_int) (da_nil)))) (de_int)) (da_cons (de_int) (da_cons (de_op op_subA (de_callM c_law_draw (hr.mono (by decide)) (by rfl) (da_cons (de_var 0) (da_cons (de_int) (da_nil)))) (de_int)) (da_nil)))))) (de_callM c_law_draw (hr.mono (by decide)) (by rfl) (da_cons (de_var 0) (da_cons (de_int) (da_nil))))))
      (dss_one (ds_ret (de_tup (da_cons (de_var 2) (da_cons (de_var 3) (da_cons (de_callM c_law_draw (hr.mono (by decide)) (by rfl) (da_cons (de_var 0) (da_cons (de_cb cb_len (by rfl) m_len (by decide +kernel) (da_cons (de_var 2) (da_nil))) (da_nil)))) (da_nil))))))))
theorem sc_law_shown : FnScope ["stack", "sheet", "wide", "beats", "beat"] ["stack", "sheet", "wide", "beats"] (defScope (top 24)) := ⟨rfl, rfl, rfl, by decide +kernel, rfl, by decide +kernel, by decide +kernel⟩
theorem ok_law_shown (Fd : FnP K "_law_shown" (top 24) f fd) (c_law_row : Cal P w K mg base "_law_row" 2 ["stack", "wide", "beat"] F_law_row) (m_range : mg "range" = none) : FnOk P w K mg base CX0 3 f fd ["stack", "sheet", "wide", "beats"] (spOf K F_law_shown) := by
  refine fn_data (lvl := 2) Fd sc_law_shown (fun ds S k h => by first | (obtain ⟨rfl, _⟩ := h; rfl) | (obtain ⟨_, rfl, _⟩ := h; rfl) | (obtain ⟨_, _, rfl, _⟩ := h; rfl) | (obtain ⟨_, _, _, rfl, _⟩ := h; rfl) | (obtain ⟨_, _, _, _, rfl, _⟩ := h; rfl) | (obtain ⟨_, _, _, _, _, rfl, _⟩ := h; rfl)) (fun cdv A outer s H E hr => ?_) p_law_shown
  have nd : (["stack", "sheet", "wide", "beats", "beat"] : List Str).Nodup := by decide +kernel
  exact dss_one (ds_ret (de_new (dn_lc (own := [("beat", 4)]) rfl nd (di_rng1 (by rfl) m_range (de_var 3)) (blkOk_by (by rfl)) (fun _ _ _ _ _ => dg_name 4 nd) (fun _ _ _ _ _ => dts_nil) (fun _ _ _ _ _ => de_call c_law_row (hr.mono (by decide)) (by rfl) (da_cons (de_op op_addA (de_var 0) (de_tup (da_cons (de_var 1) (da_nil)))) (da_cons (de_var 2) (da_cons (de_var 4) (da_nil))))))))
theorem sc_law_known : FnScope ["stack", "wide", "length", "pace", "met", "beat", "place", "sheet"] ["stack", "wide", "length", "pace"] (defScope (top 26)) := ⟨rfl, rfl, rfl, by decide +kernel, rfl, by decide +kernel, by decide +kernel⟩
theorem ok_law_known (Fd : FnP K "_law_known" (top 26) f fd) (c_law_whole : Cal P w K mg base "_law_whole" 2 ["stacks"] F_law_whole) (c_law_sign : Cal P w K mg base "_law_sign" 1 ["sheet", "place", "beat"] F_law_sign) (m_len : mg "len" = none) (m_range : mg "range" = none) (m_set : mg "set" = none) : FnOk P w K mg base CX0 3 f fd ["stack", "wide", "length", "pace"] (spOf K F_law_known) := by
  refine fn_data (lvl := 2) Fd sc_law_known (fun ds S k h => by first | (obtain ⟨rfl, _⟩ := h; rfl) | (obtain ⟨_, rfl, _⟩ := h; rfl) | (obtain ⟨_, _, rfl, _⟩ := h; rfl) | (obtain ⟨_, _, _, rfl, _⟩ := h; rfl) | (obtain ⟨_, _, _, _, rfl, _⟩ := h; rfl) | (obtain ⟨_, _, _, _, _, rfl, _⟩ := h; rfl)) (fun cdv A outer s H E hr => ?_) p_law_known
  have nd : (["stack", "wide", "length", "pace", "met", "beat", "place", "sheet"] : List Str).Nodup := by decide +kernel
  exact dss_cons (ds_own 4 nd (dn_lst (da_nil)))
      (dss_cons (ds_for PassesOwn.never rfl (di_rng1 (by rfl) m_range (de_op op_mulA (de_call c_law_whole (hr.mono (by decide)) (by rfl) (da_cons (de_new (dn_lst (da_cons (de_var 0) (da_nil)))) (da_nil))) (de_var 2))) (dg_name 5 nd) (dss_cons (ds_for PassesOwn.never rfl (di_rng1 (by rfl) m_range (de_var 1)) (dg_name 6 nd) (dss_one (ds_if (dt_cmp (op_notInA (hu66 hr)) (de_str (s := [35]) (by decide +kernel)) (de_new (dn_lc (own := [("sheet", 7)]) rfl nd (di_val (de_var 0)) (blkOk_by (by rfl)) (fun _ _ _ _ _ => dg_name 7 nd) (fun _ _ _ _ _ => dts_nil) (fun _ _ _ _ _ => de_call c_law_sign (hr.mono (by decide)) (by rfl) (da_cons (de_var 7) (da_cons (de_var 6) (da_cons (de_var 5) (da_nil))))))) (by with_unfolding_all rfl)) (dss_one (ds_drop (de_app (de_var 4) (de_op op_modA (de_op op_addA (de_var 6) (de_op op_mulA (de_var 3) (de_var 5))) (de_var 2))))) (dss_nil))))
      (dss_one (ds_if (dt_cmp (op_eqA (hu65 hr)) (de_lenSet rfl (by rfl) m_len (by rfl) m_set (de_var 4)) (de_var 2) (nomark _)) (dss_one (ds_ret (de_op op_addA (de_var 5) (de_int)))) (dss_nil)))))
      (dss_one (ds_ret (de_non))))
theorem sc_all_that_may : FnScope ["stack", "wide", "seen", "found", "length", "pace", "text"] ["stack", "wide", "seen"] (defScope (top 11)) := ⟨rfl, rfl, rfl, by decide +kernel, rfl, by decide +kernel, by decide +kernel⟩
theorem ok_all_that_may (Fd : FnP K "all_that_may" (top 11) f fd) (c_may_be : Cal P w K mg base "may_be" 3 ["stack", "wide", "seen", "length", "pace"] F_may_be) (m_range : mg "range" = none) (m_MOST_SIGNS : ∃ t, mg "MOST_SIGNS" = some (.int 10 t)) : FnOk P w K mg base CX0 4 f fd ["stack", "wide", "seen"] (spOf K F_all_that_may) := by
  refine fn_data (lvl := 3) Fd sc_all_that_may (fun ds S k h => by first | (obtain ⟨rfl, _⟩ := h; rfl) | (obtain ⟨_, rfl, _⟩ := h; rfl) | (obtain ⟨_, _, rfl, _⟩ := h; rfl) | (obtain ⟨_, _, _, rfl, _⟩ := h; rfl) | (obtain ⟨_, _, _, _, rfl, _⟩ := h; rfl) | (obtain ⟨_, _, _, _, _, rfl, _⟩ := h; rfl)) (fun cdv A outer s H E hr => ?_) p_all_that_may
  have nd : (["stack", "wide", "seen", "found", "length", "pace", "text"] : List Str).Nodup := by decide +kernel
  exact dss_cons (ds_own 3 nd (dn_lst (da_nil)))
      (dss_cons (ds_for PassesOwn.never rfl (di_rng2 (by rfl) m_range (de_int) (de_op op_addA (de_gint (by rfl) m_MOST_SIGNS) (de_int))) (dg_name 4 nd) (dss_one (ds_for PassesOwn.never rfl (di_rng1 (by rfl) m_range (de_var 4)) (dg_name 5 nd) (dss_cons (ds_set 6 nd (de_call c_may_be (hr.mono (by decide)) (by rfl) (da_cons (de_var 0) (da_cons (de_var 1) (da_cons (de_var 2) (da_cons (de_var 4) (da_cons (de_var 5) (da_nil))))))))
      (dss_one (ds_if (dt_notN (de_var 6)) (dss_one (ds_drop (de_app (de_var 3) (de_tup (da_cons (de_var 4) (da_cons (de_var 5) (da_cons (de_var 6) (da_nil)))))))) (dss_nil)))))))
      (dss_one (ds_ret (de_var 3))))
theorem sc_known_by : FnScope ["stack", "wide", "length", "pace", "left", "beat", "place", "spot"] ["stack", "wide", "length", "pace"] (defScope (top 12)) := ⟨rfl, rfl, rfl, by decide +kernel, rfl, by decide +kernel, by decide +kernel⟩
theorem ok_known_by (Fd : FnP K "known_by" (top 12) f fd) (c_whole_round : Cal P w K mg base "whole_round" 3 ["stacks"] F_whole_round) (c_is_open : Cal P w K mg base "is_open" 2 ["stack", "place", "beat"] F_is_open) (m_range : mg "range" = none) : FnOk P w K mg base CX0 4 f fd ["stack", "wide", "length", "pace"] (spOf K F_known_by) := by
  refine fn_data (lvl := 3) Fd sc_known_by (fun ds S k h => by first | (obtain ⟨rfl, _⟩ := h; rfl) | (obtain ⟨_, rfl, _⟩ := h; rfl) | (obtain ⟨_, _, rfl, _⟩ := h; rfl) | (obtain ⟨_, _, _, rfl, _⟩ := h; rfl) | (obtain ⟨_, _, _, _, rfl, _⟩ := h; rfl) | (obtain ⟨_, _, _, _, _, rfl, _⟩ := h; rfl)) (fun cdv A outer s H E hr => ?_) p_known_by
  have nd : (["stack", "wide", "length", "pace", "left", "beat", "place", "spot"] : List Str).Nodup := by decide +kernel
  exact dss_cons (ds_ownDc 4 (own := [("spot", 7)]) rfl nd (swd_true rfl rfl rfl (by decide +kernel)) (di_rng1 (by rfl) m_range (de_var 2)) (blkOk_by (by rfl)) (fun _ _ _ _ _ => dg_name 7 nd) (fun _ _ _ _ _ => de_var 7) (fun _ _ _ _ _ => de_bl))
      (dss_cons (ds_for PassesOwn.never rfl (di_rng1 (by rfl) m_range (de_op op_mulA (de_call c_whole_round (hr.mono (by decide)) (by rfl) (da_cons (de_new (dn_lst (da_cons (de_var 0) (da_nil)))) (da_nil))) (de_var 2))) (dg_name 5 nd) (dss_cons (ds_for PassesOwn.never rfl (di_rng1 (by rfl) m_range (de_var 1)) (dg_name 6 nd) (dss_one (ds_if (dt_tru (de_call c_is_open (hr.mono (by decide)) (by rfl) (da_cons (de_var 0) (da_cons (de_var 6) (da_cons (de_var 5) (da_nil)))))) (dss_one (ds_drop (de_popN (de_var 4) (de_op op_modA (de_op op_addA (de_var 6) (de_op op_mulA (de_var 3) (de_var 5))) (de_var 2)) ⟨by rfl, by rfl, by rfl, by rfl⟩))) (dss_nil))))
      (dss_one (ds_if (dt_eqE (hu0 hr) (de_var 4) (nomark _)) (dss_one (ds_ret (de_op op_addA (de_var 5) (de_int)))) (dss_nil)))))
      (dss_one (ds_ret (de_non))))
theorem sc_law_stack : FnScope ["draws", "many", "most1", "k"] ["draws", "many", "most1"] (defScope (top 22)) := ⟨rfl, rfl, rfl, by decide +kernel, rfl, by decide +kernel, by decide +kernel⟩
theorem ok_law_stack (Fd : FnP K "_law_stack" (top 22) f fd) (c_law_draw : Cal P w K mg base "_law_draw" 1 ["draws", "many"] F_law_draw) (c_law_sheet : Cal P w K mg base "_law_sheet" 3 ["draws", "most1"] F_law_sheet) (m_range : mg "range" = none) (m_tuple : mg "tuple" = none) : FnOk P w K mg base CX0 4 f fd ["draws", "many", "most1"] (spOf K F_law_stack) := by
  refine fn_data (lvl := 3) Fd sc_law_stack (fun ds S k h => by first | (obtain ⟨rfl, _⟩ := h; rfl) | (obtain ⟨_, rfl, _⟩ := h; rfl) | (obtain ⟨_, _, rfl, _⟩ := h; rfl) | (obtain ⟨_, _, _, rfl, _⟩ := h; rfl) | (obtain ⟨_, _, _, _, rfl, _⟩ := h; rfl) | (obtain ⟨_, _, _, _, _, rfl, _⟩ := h; rfl)) (fun cdv A outer s H E hr => ?_) p_law_stack
  have nd : (["draws", "many", "most1", "k"] : List Str).Nodup := by decide +kernel
  exact dss_one (ds_ret (de_tupOf (by rfl) m_tuple (de_new (dn_lc (own := [("k", 3)]) rfl nd (di_rng1 (by rfl) m_range (de_op op_addA (de_int) (de_callM c_law_draw (hr.mono (by decide)) (by rfl) (da_cons (de_var 0) (da_cons (de_var 1) (da_nil)))))) (blkOk_by (by rfl)) (fun _ _ _ _ _ => dg_name 3 nd) (fun _ _ _ _ _ => dts_nil) (fun _ _ _ _ _ => de_callM c_law_sheet (hr.mono (by decide)) (by rfl) (da_cons (de_var 0) (da_cons (de_var 2) (da_nil))))))))
theorem sc_law_filled_so : FnScope ["stack", "wide", "seen", "case", "text", "pace", "told", "sign", "rows", "one", "other", "left", "right"] ["stack", "wide", "seen", "case"] (defScope (top 28)) := ⟨rfl, rfl, rfl, by decide +kernel, rfl, by decide +kernel, by decide +kernel⟩
theorem ok_law_filled_so (Fd : FnP K "_law_filled_so" (top 28) f fd) (c_may_be : Cal P w K mg base "may_be" 3 ["stack", "wide", "seen", "length", "pace"] F_may_be) (c_law_shown : Cal P w K mg base "_law_shown" 3 ["stack", "sheet", "wide", "beats"] F_law_shown) (m_len : mg "len" = none) (m_zip : mg "zip" = none) : FnOk P w K mg base CX0 4 f fd ["stack", "wide", "seen", "case"] (spOf K F_law_filled_so) := by
  refine fn_data (lvl := 3) Fd sc_law_filled_so (fun ds S k h => by first | (obtain ⟨rfl, _⟩ := h; rfl) | (obtain ⟨_, rfl, _⟩ := h; rfl) | (obtain ⟨_, _, rfl, _⟩ := h; rfl) | (obtain ⟨_, _, _, rfl, _⟩ := h; rfl) | (obtain ⟨_, _, _, _, rfl, _⟩ := h; rfl) | (obtain ⟨_, _, _, _, _, rfl, _⟩ := h; rfl)) (fun cdv A outer s H E hr => ?_) p_law_filled_so
  have nd : (["stack", "wide", "seen", "case", "text", "pace", "told", "sign", "rows", "one", "other", "left", "right"] : List Str).Nodup := by decide +kernel
  exact dss_cons (ds_asg (de_var 3) (dg_tup rfl (dgs_cons (dg_name 4 nd) (dgs_cons (dg_name 5 nd) (dgs_nil)))))
      (dss_cons (ds_set 6 nd (de_call c_may_be (hr.mono (by decide)) (by rfl) (da_cons (de_var 0) (da_cons (de_var 1) (da_cons (de_var 2) (da_cons (de_cb cb_len (by rfl) m_len (by decide +kernel) (da_cons (de_var 4) (da_nil))) (da_cons (de_var 5) (da_nil))))))))
      (dss_cons (ds_if (dt_isN (de_var 6)) (dss_one (ds_ret (de_bl))) (dss_nil))
      (dss_cons (ds_if (dt_cmp (op_neA (hu65 hr)) (de_new (dn_lc (own := [("one", 9), ("sign", 7)]) rfl nd (di_zip (by rfl) m_zip (de_var 6) (de_var 4)) (blkOk_by (by rfl)) (fun _ _ _ _ _ => dg_tup rfl (dgs_cons (dg_name 9 nd) (dgs_cons (dg_name 7 nd) (dgs_nil)))) (fun _ _ _ _ _ => dts_one (dt_cmp (op_notInA (hu66 hr)) (de_var 9) (de_tup (da_cons (de_str (s := [63]) (by decide +kernel)) (da_cons (de_var 7) (da_nil)))) (by with_unfolding_all rfl))) (fun _ _ _ _ _ => de_int))) (de_new (dn_lst (da_nil))) (nomark _)) (dss_one (ds_ret (de_bl))) (dss_nil))
      (dss_cons (ds_forRaw 7 (l := [46, 35]) PassesOwn.never rfl nd (by decide +kernel) (by decide) (dssr_set 8 nd (der_call c_law_shown (hr.mono (by decide)) (by rfl) (dar_name 0 (dar_cons (der_tup (dar_cons (der_repl 6 7 (c := 63) (by decide +kernel)) (da_cons (de_var 5) (da_cons (de_int) (da_nil))))) (da_cons (de_var 1) (da_cons (de_cb cb_len (by rfl) m_len (by decide +kernel) (da_cons (de_var 2) (da_nil))) (da_nil))))))
      (dss_one (ds_for PassesOwn.never rfl (di_zip (by rfl) m_zip (de_var 8) (de_var 2)) (dg_tup rfl (dgs_cons (dg_name 9 nd) (dgs_cons (dg_name 10 nd) (dgs_nil)))) (dss_one (ds_if (dt_cmp (op_neA (hu65 hr)) (de_new (dn_lc (own := [("left", 11), ("right", 12)]) rfl nd (di_zip (by rfl) m_zip (de_var 9) (de_var 10)) (blkOk_by (by rfl)) (fun _ _ _ _ _ => dg_tup rfl (dgs_cons (dg_name 11 nd) (dgs_cons (dg_name 12 nd) (dgs_nil)))) (fun _ _ _ _ _ => dts_one (dt_cmp (op_notInA (hu66 hr)) (de_var 12) (de_tup (da_cons (de_str (s := [63]) (by decide +kernel)) (da_cons (de_var 11) (da_nil)))) (by with_unfolding_all rfl))) (fun _ _ _ _ _ => de_int))) (de_new (dn_lst (da_nil))) (nomark _)) (dss_one (ds_ret (de_bl))) (dss_nil)))))))
      (dss_one (ds_ret (de_bl)))))))
theorem sc_law_all_so : FnScope ["stack", "wide", "some", "case", "rows", "long", "step", "due"] ["stack", "wide", "some", "case"] (defScope (top 27)) := ⟨rfl, rfl, rfl, by decide +kernel, rfl, by decide +kernel, by decide +kernel⟩
theorem ok_law_all_so (Fd : FnP K "_law_all_so" (top 27) f fd) (c_law_may : Cal P w K mg base "_law_may" 2 ["stack", "wide", "seen", "length", "pace"] F_law_may) (c_may_be : Cal P w K mg base "may_be" 3 ["stack", "wide", "seen", "length", "pace"] F_may_be) (c_all_that_may : Cal P w K mg base "all_that_may" 4 ["stack", "wide", "seen"] F_all_that_may) (m_int : mg "int" = none) (m_range : mg "range" = none) : FnOk P w K mg base CX0 5 f fd ["stack", "wide", "some", "case"] (spOf K F_law_all_so) := by
  refine fn_data (lvl := 4) Fd sc_law_all_so (fun ds S k h => by first | (obtain ⟨rfl, _⟩ := h; rfl) | (obtain ⟨_, rfl, _⟩ := h; rfl) | (obtain ⟨_, _, rfl, _⟩ := h; rfl) | (obtain ⟨_, _, _, rfl, _⟩ := h; rfl) | (obtain ⟨_, _, _, _, rfl, _⟩ := h; rfl) | (obtain ⟨_, _, _, _, _, rfl, _⟩ := h; rfl)) (fun cdv A outer s H E hr => ?_) p_law_all_so
  have nd : (["stack", "wide", "some", "case", "rows", "long", "step", "due"] : List Str).Nodup := by decide +kernel
  exact dss_cons (ds_set 4 nd (de_new (dn_lst (da_nil))))
      (dss_cons (ds_for PassesOwn.never rfl (di_rng2 (by rfl) m_range (de_int) (de_int)) (dg_name 5 nd) (dss_one (ds_for PassesOwn.never rfl (di_rng1 (by rfl) m_range (de_var 5)) (dg_name 6 nd) (dss_cons (ds_set 7 nd (de_call c_law_may (hr.mono (by decide)) (by rfl) (da_cons (de_var 0) (da_cons (de_var 1) (da_cons (de_var 2) (da_cons (de_var 5) (da_cons (de_var 6) (da_nil))))))))
      (dss_cons (ds_set 4 nd (de_op op_addA (de_var 4) (de_op op_mulA (de_new (dn_lst (da_cons (de_tup (da_cons (de_var 5) (da_cons (de_var 6) (da_cons (de_var 7) (da_nil))))) (da_nil)))) (de_cty cb_int (by rfl) m_int (by decide +kernel) (da_cons (de_notN (de_var 7)) (da_nil))))))
      (dss_one (ds_if (DW.dt (dw_and (dt_cmp (op_eqA (hu65 hr)) (de_tup (da_cons (de_var 5) (da_cons (de_var 6) (da_nil)))) (de_var 3) (nomark _)) (dw_and1 (dt_cmp (op_neA (hu65 hr)) (de_call c_may_be (hr.mono (by decide)) (by rfl) (da_cons (de_var 0) (da_cons (de_var 1) (da_cons (de_var 2) (da_cons (de_var 5) (da_cons (de_var 6) (da_nil))))))) (de_var 7) (nomark _))))) (dss_one (ds_ret (de_bl))) (dss_nil))))))))
      (dss_one (ds_ret (de_cmp (op_eqA (hu65 hr)) (de_call c_all_that_may (hr.mono (by decide)) (by rfl) (da_cons (de_var 0) (da_cons (de_var 1) (da_cons (de_var 2) (da_nil))))) (de_var 4) (nomark _)))))
theorem sc_law : FnScope ["script", "k", "draws", "stack", "wide", "text", "length", "pace", "whole", "seen", "at", "place", "bent", "other", "some", "beats", "full", "one", "sign"] ["script"] (defScope (top 29)) := ⟨rfl, rfl, rfl, by decide +kernel, rfl, by decide +kernel, by decide +kernel⟩
theorem ok_law (Fd : FnP K "law" (top 29) f fd) (c_law_draws : Cal P w K mg base "_law_draws" 1 ["script", "k"] F_law_draws) (c_law_stack : Cal P w K mg base "_law_stack" 4 ["draws", "many", "most1"] F_law_stack) (c_law_draw : Cal P w K mg base "_law_draw" 1 ["draws", "many"] F_law_draw) (c_law_pattern : Cal P w K mg base "_law_pattern" 2 ["draws", "most1"] F_law_pattern) (c_law_shown : Cal P w K mg base "_law_shown" 3 ["stack", "sheet", "wide", "beats"] F_law_shown) (c_law_of : Cal P w K mg base "_law_of" 2 ["draws", "some"] F_law_of) (c_law_all_so : Cal P w K mg base "_law_all_so" 5 ["stack", "wide", "some", "case"] F_law_all_so) (c_law_filled_so : Cal P w K mg base "_law_filled_so" 4 ["stack", "wide", "seen", "case"] F_law_filled_so) (c_known_by : Cal P w K mg base "known_by" 4 ["stack", "wide", "length", "pace"] F_known_by) (c_law_known : Cal P w K mg base "_law_known" 3 ["stack", "wide", "length", "pace"] F_law_known) (c_may_be : Cal P w K mg base "may_be" 3 ["stack", "wide", "seen", "length", "pace"] F_may_be) (m_len : mg "len" = none) (m_max : mg "max" = none) (m_min : mg "min" = none) (m_range : mg "range" = none) (m_tuple : mg "tuple" = none) : FnOk P w K mg base CX0 6 f fd ["script"] (spOf K F_law_k31) := by
  refine fn_data (lvl := 5) Fd sc_law (fun ds S k h => by first | (obtain ⟨rfl, _⟩ := h; rfl) | (obtain ⟨_, rfl, _⟩ := h; rfl) | (obtain ⟨_, _, rfl, _⟩ := h; rfl) | (obtain ⟨_, _, _, rfl, _⟩ := h; rfl) | (obtain ⟨_, _, _, _, rfl, _⟩ := h; rfl) | (obtain ⟨_, _, _, _, _, rfl, _⟩ := h; rfl)) (fun cdv A outer s H E hr => ?_) p_law_k31
  have nd : (["script", "k", "draws", "stack", "wide", "text", "length", "pace", "whole", "seen", "at", "place", "bent", "other", "some", "beats", "full", "one", "sign"] : List Str).Nodup := by decide +kernel
  exact dss_cons (ds_for PassesOwn.never rfl (di_rng1 (by rfl) m_range (de_cb (cb_max2 rfl) (by rfl) m_max (by decide +kernel) (da_cons (de_int) (da_cons (de_cb (cb_min2 rfl) (by rfl) m_min (by decide +kernel) (da_cons (de_int) (da_cons (de_cb cb_len (by rfl) m_len (by decide +kernel) (da_cons (de_var 0) (da_nil))) (da_nil)))) (da_nil))))) (dg_name 1 nd) (dss_cons (ds_own 2 nd (dn_call c_law_draws (hr.mono (by decide)) (by rfl) (da_cons (de_var 0) (da_cons (de_var 1) (da_nil)))))
      (dss_cons (ds_set 3 nd (de_sl (de_callM c_law_stack (hr.mono (by decide)) (by rfl) (da_cons (de_var 2) (da_cons (de_int) (da_cons (de_idx (de_new (dn_lst (da_cons (de_int) (da_cons (de_int) (da_cons (de_int) (da_nil)))))) (de_callM c_law_draw (hr.mono (by decide)) (by rfl) (da_cons (de_var 2) (da_cons (de_int) (da_nil))))) (da_nil))))) (do_no) (do_so (de_callM c_law_draw (hr.mono (by decide)) (by rfl) (da_cons (de_var 2) (da_cons (de_int) (da_nil)))))))
      (dss_cons (ds_par 4 5 rfl nd (de_op op_addA (de_int) (de_callM c_law_draw (hr.mono (by decide)) (by rfl) (da_cons (de_var 2) (da_cons (de_int) (da_nil))))) (de_callM c_law_pattern (hr.mono (by decide)) (by rfl) (da_cons (de_var 2) (da_cons (de_int) (da_nil)))) (by rfl))
      (dss_cons (ds_par 6 7 rfl nd (de_cb cb_len (by rfl) m_len (by decide +kernel) (da_cons (de_var 5) (da_nil))) (de_callM c_law_draw (hr.mono (by decide)) (by rfl) (da_cons (de_var 2) (da_cons (de_cb cb_len (by rfl) m_len (by decide +kernel) (da_cons (de_var 5) (da_nil))) (da_nil)))) (by rfl))
      (dss_cons (ds_set 8 nd (de_tupOf (by rfl) m_tuple (de_call c_law_shown (hr.mono (by decide)) (by rfl) (da_cons (de_var 3) (da_cons (de_tup (da_cons (de_var 5) (da_cons (de_var 7) (da_cons (de_int) (da_nil))))) (da_cons (de_var 4) (da_cons (de_op op_addA (de_int) (de_callM c_law_draw (hr.mono (by decide)) (by rfl) (da_cons (de_var 2) (da_cons (de_int) (da_nil))))) (da_nil))))))))
      (dss_cons (ds_set 9 nd (de_tupOf (by rfl) m_tuple (de_new (dn_lc (own := [("one", 17)]) rfl nd (di_val (de_var 8)) (blkOk_by (by rfl)) (fun _ _ _ _ _ => dg_name 17 nd) (fun _ _ _ _ _ => dts_nil) (fun _ _ _ _ _ => de_join (de_str (s := []) (by decide +kernel)) (de_new (dn_lc (own := [("sign", 18)]) rfl nd (di_val (de_var 17)) (blkOk_by (by rfl)) (fun _ _ _ _ _ => dg_name 18 nd) (fun _ _ _ _ _ => dts_nil) (fun _ _ _ _ _ => de_if (dt_cmp (op_eqA (hu65 hr)) (de_callM c_law_draw (hr.mono (by decide)) (by rfl) (da_cons (de_var 2) (da_cons (de_int) (da_nil)))) (de_int) (nomark _)) (de_str (s := [63]) (by decide +kernel)) (de_var 18)))))))))
      (dss_cons (ds_par 10 11 rfl nd (de_callM c_law_draw (hr.mono (by decide)) (by rfl) (da_cons (de_var 2) (da_cons (de_cb cb_len (by rfl) m_len (by decide +kernel) (da_cons (de_var 9) (da_nil))) (da_nil)))) (de_callM c_law_draw (hr.mono (by decide)) (by rfl) (da_cons (de_var 2) (da_cons (de_var 4) (da_nil)))) (by rfl))
      (dss_cons (ds_set 12 nd (de_op op_addA (de_op op_addA (de_sl (de_idx (de_var 9) (de_var 10)) (do_no) (do_so (de_var 11))) (de_callM c_law_of (hr.mono (by decide)) (by rfl) (da_cons (de_var 2) (da_cons (de_str (s := [46, 35]) (by decide +kernel)) (da_nil))))) (de_sl (de_idx (de_var 9) (de_var 10)) (do_so (de_op op_addA (de_var 11) (de_int))) (do_no))))
      (dss_cons (ds_set 13 nd (de_op op_addA (de_op op_addA (de_sl (de_var 9) (do_no) (do_so (de_var 10))) (de_tup (da_cons (de_var 12) (da_nil)))) (de_sl (de_var 9) (do_so (de_op op_addA (de_var 10) (de_int))) (do_no))))
      (dss_cons (ds_for PassesOwn.never rfl (di_val (de_new (dn_lst (da_cons (de_var 9) (da_cons (de_var 8) (da_cons (de_var 13) (da_cons (de_tup (da_nil)) (da_nil)))))))) (dg_name 14 nd) (dss_one (ds_if (dt_not (dt_tru (de_call c_law_all_so (hr.mono (by decide)) (by rfl) (da_cons (de_var 3) (da_cons (de_var 4) (da_cons (de_var 14) (da_cons (de_tup (da_cons (de_var 6) (da_cons (de_var 7) (da_nil)))) (da_nil)))))))) (dss_one (ds_ret (de_bl))) (dss_nil))))
      (dss_cons (ds_if (dt_not (dt_tru (de_call c_law_filled_so (hr.mono (by decide)) (by rfl) (da_cons (de_var 3) (da_cons (de_var 4) (da_cons (de_var 9) (da_cons (de_tup (da_cons (de_var 5) (da_cons (de_var 7) (da_nil)))) (da_nil)))))))) (dss_one (ds_ret (de_bl))) (dss_nil))
      (dss_cons (ds_set 15 nd (de_call c_known_by (hr.mono (by decide)) (by rfl) (da_cons (de_var 3) (da_cons (de_var 4) (da_cons (de_var 6) (da_cons (de_var 7) (da_nil)))))))
      (dss_cons (ds_if (DW.dt (dw_or (dt_cmp (op_neA (hu65 hr)) (de_var 15) (de_call c_law_known (hr.mono (by decide)) (by rfl) (da_cons (de_var 3) (da_cons (de_var 4) (da_cons (de_var 6) (da_cons (de_var 7) (da_nil)))))) (nomark _)) (dw_or1 (dt_cmp (op_neA (hu65 hr)) (de_call c_known_by (hr.mono (by decide)) (by rfl) (da_cons (de_tup (da_nil)) (da_cons (de_int) (da_cons (de_int) (da_cons (de_int) (da_nil)))))) (de_int) (nomark _))))) (dss_one (ds_ret (de_bl))) (dss_nil))
      (dss_one (ds_if (DW.dt (dw_and (dt_notN (de_var 15)) (dw_and1 (dt_cmp (op_ltA (hu0 hr)) (de_var 15) (de_int) (nomark _))))) (dss_cons (ds_set 16 nd (de_tupOf (by rfl) m_tuple (de_call c_law_shown (hr.mono (by decide)) (by rfl) (da_cons (de_var 3) (da_cons (de_tup (da_cons (de_var 5) (da_cons (de_var 7) (da_cons (de_int) (da_nil))))) (da_cons (de_var 4) (da_cons (de_var 15) (da_nil))))))))
      (dss_cons (ds_if (dt_cmp (op_neA (hu65 hr)) (de_call c_may_be (hr.mono (by decide)) (by rfl) (da_cons (de_var 3) (da_cons (de_var 4) (da_cons (de_var 16) (da_cons (de_var 6) (da_cons (de_var 7) (da_nil))))))) (de_var 5) (nomark _)) (dss_one (ds_ret (de_bl))) (dss_nil))
      (dss_one (ds_if (dt_cmp (op_notInA (hu66 hr)) (de_str (s := [63]) (by decide +kernel)) (de_call c_may_be (hr.mono (by decide)) (by rfl) (da_cons (de_var 3) (da_cons (de_var 4) (da_cons (de_sl (de_var 16) (do_no) (do_so (de_neg (de_int)))) (da_cons (de_var 6) (da_cons (de_var 7) (da_nil))))))) (by with_unfolding_all rfl)) (dss_one (ds_ret (de_bl))) (dss_nil))))) (dss_nil)))))))))))))))))
      (dss_one (ds_ret (de_bl)))
end
def d_common : He.DefD := ⟨("common", none), "common", "common", defArgs (top 3), defBody (top 3), defScope (top 3), [], []⟩
def d_goes_round : He.DefD := ⟨("goes_round", none), "goes_round", "goes_round", defArgs (top 4), defBody (top 4), defScope (top 4), [], []⟩
def d_sign_at : He.DefD := ⟨("sign_at", none), "sign_at", "sign_at", defArgs (top 5), defBody (top 5), defScope (top 5), [], []⟩
def d_is_open : He.DefD := ⟨("is_open", none), "is_open", "is_open", defArgs (top 6), defBody (top 6), defScope (top 6), [], []⟩
def d_whole_round : He.DefD := ⟨("whole_round", none), "whole_round", "whole_round", defArgs (top 7), defBody (top 7), defScope (top 7), [], []⟩
def d_may_be : He.DefD := ⟨("may_be", none), "may_be", "may_be", defArgs (top 10), defBody (top 10), defScope (top 10), [], []⟩
def d_all_that_may : He.DefD := ⟨("all_that_may", none), "all_that_may", "all_that_may", defArgs (top 11), defBody (top 11), defScope (top 11), [], []⟩
def d_known_by : He.DefD := ⟨("known_by", none), "known_by", "known_by", defArgs (top 12), defBody (top 12), defScope (top 12), [], []⟩
def d_law_sign : He.DefD := ⟨("_law_sign", none), "_law_sign", "_law_sign", defArgs (top 14), defBody (top 14), defScope (top 14), [], []⟩
def d_law_row : He.DefD := ⟨("_law_row", none), "_law_row", "_law_row", defArgs (top 15), defBody (top 15), defScope (top 15), [], []⟩
def d_law_beats : He.DefD := ⟨("_law_beats", none), "_law_beats", "_law_beats", defArgs (top 16), defBody (top 16), defScope (top 16), [], []⟩
def d_law_whole : He.DefD := ⟨("_law_whole", none), "_law_whole", "_law_whole", defArgs (top 17), defBody (top 17), defScope (top 17), [], []⟩
def d_law_draws : He.DefD := ⟨("_law_draws", none), "_law_draws", "_law_draws", defArgs (top 18), defBody (top 18), defScope (top 18), [], []⟩
def d_law_draw : He.DefD := ⟨("_law_draw", none), "_law_draw", "_law_draw", defArgs (top 19), defBody (top 19), defScope (top 19), [], []⟩
def d_law_pattern : He.DefD := ⟨("_law_pattern", none), "_law_pattern", "_law_pattern", defArgs (top 20), defBody (top 20), defScope (top 20), [], []⟩
def d_law_sheet : He.DefD := ⟨("_law_sheet", none), "_law_sheet", "_law_sheet", defArgs (top 21), defBody (top 21), defScope (top 21), [], []⟩
def d_law_stack : He.DefD := ⟨("_law_stack", none), "_law_stack", "_law_stack", defArgs (top 22), defBody (top 22), defScope (top 22), [], []⟩
def d_law_of : He.DefD := ⟨("_law_of", none), "_law_of", "_law_of", defArgs (top 23), defBody (top 23), defScope (top 23), [], []⟩
def d_law_shown : He.DefD := ⟨("_law_shown", none), "_law_shown", "_law_shown", defArgs (top 24), defBody (top 24), defScope (top 24), [], []⟩
def d_law_may : He.DefD := ⟨("_law_may", none), "_law_may", "_law_may", defArgs (top 25), defBody (top 25), defScope (top 25), [], []⟩
def d_law_known : He.DefD := ⟨("_law_known", none), "_law_known", "_law_known", defArgs (top 26), defBody (top 26), defScope (top 26), [], []⟩
def d_law_all_so : He.DefD := ⟨("_law_all_so", none), "_law_all_so", "_law_all_so", defArgs (top 27), defBody (top 27), defScope (top 27), [], []⟩
def d_law_filled_so : He.DefD := ⟨("_law_filled_so", none), "_law_filled_so", "_law_filled_so", defArgs (top 28), defBody (top 28), defScope (top 28), [], []⟩
def d_law : He.DefD := ⟨("law", none), "law", "law", defArgs (top 29), defBody (top 29), defScope (top 29), [], []⟩
def fn : List He.DefD := [d_common, d_goes_round, d_sign_at, d_is_open, d_whole_round, d_may_be, d_all_that_may, d_known_by, d_law_sign, d_law_row, d_law_beats, d_law_whole, d_law_draws, d_law_draw, d_law_pattern, d_law_sheet, d_law_stack, d_law_of, d_law_shown, d_law_may, d_law_known, d_law_all_so, d_law_filled_so, d_law]
def fa : List He.Fa := [.glo "common", .glo "goes_round", .glo "sign_at", .glo "is_open", .glo "whole_round", .glo "may_be", .glo "all_that_may", .glo "known_by", .glo "_law_sign", .glo "_law_row", .glo "_law_beats", .glo "_law_whole", .glo "_law_draws", .glo "_law_draw", .glo "_law_pattern", .glo "_law_sheet", .glo "_law_stack", .glo "_law_of", .glo "_law_shown", .glo "_law_may", .glo "_law_known", .glo "_law_all_so", .glo "_law_filled_so", .glo "law", .free "abs", .free "all", .free "enumerate", .free "int", .free "len", .free "max", .free "min", .free "range", .free "set", .free "tuple", .free "zip", .str "HOLE" ⟨([46] : List Nat).toArray⟩, .int "MOST_SIGNS" 10, .str "UNSEEN" ⟨([63] : List Nat).toArray⟩]
abbrev R : PySem.W.OpenRow := PySem.W.OpenLaw.row PySem.Challenge.rw_slitstack_k31_whole_what_a_sheet_may_be
abbrev hk : PySem.W.Hook := He.hookD 4 fa fn
def ob (s : PySem.W.SharedT) : He.AlD := He.obsDG 4 fa fn (HandSHeadRun.getT s)
theorem ob_eq (s : PySem.W.SharedT) : ob s = hk.obs s.abs := He.obsDG_eq (HandSHeadRun.getT_eq s)
theorem run (w : World) : HandSHeadRun.RunEq R (PySem.W.view R.prog [29]) hk ob 4000 ["HOLE", "MOST_SIGNS", "common", "goes_round", "sign_at", "is_open", "whole_round", "UNSEEN", "may_be", "all_that_may", "known_by", "_law_sign", "_law_row", "_law_beats", "_law_whole", "_law_draws", "_law_draw", "_law_pattern", "_law_sheet", "_law_stack", "_law_of", "_law_shown", "_law_may", "_law_known", "_law_all_so", "_law_filled_so"] w := by
  intro os
  kernel_rfl
theorem facts {P : Program} {w : World} {K : PySem.W.Frag} {h : Heap} {mg : Str → Option Value} {f : Addr} (X : K.In h) (G : h.Ns mainGlobals mg) (hfa : mg ("law" : Str) = some (.ref f)) (c : He.SaysD fa fn K) :
    ∃ fd : FuncData, (∀ (s : Shared) (v : Value), BindsTo s fd ⟨[v], []⟩ [("script", v)]) ∧ ∀ base : Heap, K.In base → base.Ns mainGlobals mg → FnOk P w K mg base CX0 6 f fd ["script"] (spOf K F_law_k31) := by
  obtain ⟨fd_common, D_common⟩ := c.def_ 0 (d := d_common) rfl
  obtain ⟨fd_goes_round, D_goes_round⟩ := c.def_ 1 (d := d_goes_round) rfl
  obtain ⟨fd_sign_at, D_sign_at⟩ := c.def_ 2 (d := d_sign_at) rfl
  obtain ⟨fd_is_open, D_is_open⟩ := c.def_ 3 (d := d_is_open) rfl
  obtain ⟨fd_whole_round, D_whole_round⟩ := c.def_ 4 (d := d_whole_round) rfl
  obtain ⟨fd_may_be, D_may_be⟩ := c.def_ 5 (d := d_may_be) rfl
  obtain ⟨fd_all_that_may, D_all_that_may⟩ := c.def_ 6 (d := d_all_that_may) rfl
  obtain ⟨fd_known_by, D_known_by⟩ := c.def_ 7 (d := d_known_by) rfl
  obtain ⟨fd_law_sign, D_law_sign⟩ := c.def_ 8 (d := d_law_sign) rfl
  obtain ⟨fd_law_row, D_law_row⟩ := c.def_ 9 (d := d_law_row) rfl
  obtain ⟨fd_law_beats, D_law_beats⟩ := c.def_ 10 (d := d_law_beats) rfl
  obtain ⟨fd_law_whole, D_law_whole⟩ := c.def_ 11 (d := d_law_whole) rfl
  obtain ⟨fd_law_draws, D_law_draws⟩ := c.def_ 12 (d := d_law_draws) rfl
  obtain ⟨fd_law_draw, D_law_draw⟩ := c.def_ 13 (d := d_law_draw) rfl
  obtain ⟨fd_law_pattern, D_law_pattern⟩ := c.def_ 14 (d := d_law_pattern) rfl
  obtain ⟨fd_law_sheet, D_law_sheet⟩ := c.def_ 15 (d := d_law_sheet) rfl
  obtain ⟨fd_law_stack, D_law_stack⟩ := c.def_ 16 (d := d_law_stack) rfl
  obtain ⟨fd_law_of, D_law_of⟩ := c.def_ 17 (d := d_law_of) rfl
  obtain ⟨fd_law_shown, D_law_shown⟩ := c.def_ 18 (d := d_law_shown) rfl
  obtain ⟨fd_law_may, D_law_may⟩ := c.def_ 19 (d := d_law_may) rfl
  obtain ⟨fd_law_known, D_law_known⟩ := c.def_ 20 (d := d_law_known) rfl
  obtain ⟨fd_law_all_so, D_law_all_so⟩ := c.def_ 21 (d := d_law_all_so) rfl
  obtain ⟨fd_law_filled_so, D_law_filled_so⟩ := c.def_ 22 (d := d_law_filled_so) rfl
  obtain ⟨fd_law, D_law⟩ := c.def_ 23 (d := d_law) rfl
  have a_common := He.glo_ok X G (c.fact 0 (f := .glo "common") rfl)
  have a_goes_round := He.glo_ok X G (c.fact 1 (f := .glo "goes_round") rfl)
  have a_sign_at := He.glo_ok X G (c.fact 2 (f := .glo "sign_at") rfl)
  have a_is_open := He.glo_ok X G (c.fact 3 (f := .glo "is_open") rfl)
  have a_whole_round := He.glo_ok X G (c.fact 4 (f := .glo "whole_round") rfl)
  have a_may_be := He.glo_ok X G (c.fact 5 (f := .glo "may_be") rfl)
  have a_all_that_may := He.glo_ok X G (c.fact 6 (f := .glo "all_that_may") rfl)
  have a_known_by := He.glo_ok X G (c.fact 7 (f := .glo "known_by") rfl)
  have a_law_sign := He.glo_ok X G (c.fact 8 (f := .glo "_law_sign") rfl)
  have a_law_row := He.glo_ok X G (c.fact 9 (f := .glo "_law_row") rfl)
  have a_law_beats := He.glo_ok X G (c.fact 10 (f := .glo "_law_beats") rfl)
  have a_law_whole := He.glo_ok X G (c.fact 11 (f := .glo "_law_whole") rfl)
  have a_law_draws := He.glo_ok X G (c.fact 12 (f := .glo "_law_draws") rfl)
  have a_law_draw := He.glo_ok X G (c.fact 13 (f := .glo "_law_draw") rfl)
  have a_law_pattern := He.glo_ok X G (c.fact 14 (f := .glo "_law_pattern") rfl)
  have a_law_sheet := He.glo_ok X G (c.fact 15 (f := .glo "_law_sheet") rfl)
  have a_law_stack := He.glo_ok X G (c.fact 16 (f := .glo "_law_stack") rfl)
  have a_law_of := He.glo_ok X G (c.fact 17 (f := .glo "_law_of") rfl)
  have a_law_shown := He.glo_ok X G (c.fact 18 (f := .glo "_law_shown") rfl)
  have a_law_may := He.glo_ok X G (c.fact 19 (f := .glo "_law_may") rfl)
  have a_law_known := He.glo_ok X G (c.fact 20 (f := .glo "_law_known") rfl)
  have a_law_all_so := He.glo_ok X G (c.fact 21 (f := .glo "_law_all_so") rfl)
  have a_law_filled_so := He.glo_ok X G (c.fact 22 (f := .glo "_law_filled_so") rfl)
  have a_law := He.glo_ok X G (c.fact 23 (f := .glo "law") rfl)
  have m_abs := He.free_ok X G (c.fact 24 (f := .free "abs") rfl)
  have m_all := He.free_ok X G (c.fact 25 (f := .free "all") rfl)
  have m_enumerate := He.free_ok X G (c.fact 26 (f := .free "enumerate") rfl)
  have m_int := He.free_ok X G (c.fact 27 (f := .free "int") rfl)
  have m_len := He.free_ok X G (c.fact 28 (f := .free "len") rfl)
  have m_max := He.free_ok X G (c.fact 29 (f := .free "max") rfl)
  have m_min := He.free_ok X G (c.fact 30 (f := .free "min") rfl)
  have m_range := He.free_ok X G (c.fact 31 (f := .free "range") rfl)
  have m_set := He.free_ok X G (c.fact 32 (f := .free "set") rfl)
  have m_tuple := He.free_ok X G (c.fact 33 (f := .free "tuple") rfl)
  have m_zip := He.free_ok X G (c.fact 34 (f := .free "zip") rfl)
  have m_HOLE := He.str_ok X G (c.fact 35 (f := .str "HOLE" ⟨([46] : List Nat).toArray⟩) rfl)
  have m_MOST_SIGNS := He.int_ok X G (c.fact 36 (f := .int "MOST_SIGNS" 10) rfl)
  have m_UNSEEN := He.str_ok X G (c.fact 37 (f := .str "UNSEEN" ⟨([63] : List Nat).toArray⟩) rfl)
  have e := hfa.symm.trans a_law
  cases e
  have b := FunD.bindsA (ps := ["script"]) D_law fun _ _ _ _ _ _ us hl => match us, hl with | [_], _ => rfl
  refine ⟨fd_law, fun s v => b s [v] rfl, fun base _ _ => ?_⟩
  have o_common := ok_common (P := P) (w := w) (mg := mg) (base := base) D_common 
  have c_common := cal_mk (st := top 3) (ps := ["one", "other"]) D_common o_common a_common fun _ _ _ _ _ _ us hl => match us, hl with | [_, _], _ => rfl
  have o_sign_at := ok_sign_at (P := P) (w := w) (mg := mg) (base := base) D_sign_at m_len
  have c_sign_at := cal_mk (st := top 5) (ps := ["sheet", "place", "beat"]) D_sign_at o_sign_at a_sign_at fun _ _ _ _ _ _ us hl => match us, hl with | [_, _, _], _ => rfl
  have o_law_sign := ok_law_sign (P := P) (w := w) (mg := mg) (base := base) D_law_sign m_len
  have c_law_sign := cal_mk (st := top 14) (ps := ["sheet", "place", "beat"]) D_law_sign o_law_sign a_law_sign fun _ _ _ _ _ _ us hl => match us, hl with | [_, _, _], _ => rfl
  have o_law_beats := ok_law_beats (P := P) (w := w) (mg := mg) (base := base) D_law_beats m_len
  have c_law_beats := cal_mk (st := top 16) (ps := ["sheet"]) D_law_beats o_law_beats a_law_beats fun _ _ _ _ _ _ us hl => match us, hl with | [_], _ => rfl
  have o_law_draws := ok_law_draws (P := P) (w := w) (mg := mg) (base := base) D_law_draws m_int m_len
  have c_law_draws := cal_mk (st := top 18) (ps := ["script", "k"]) D_law_draws o_law_draws a_law_draws fun _ _ _ _ _ _ us hl => match us, hl with | [_, _], _ => rfl
  have o_law_draw := ok_law_draw (P := P) (w := w) (mg := mg) (base := base) D_law_draw 
  have c_law_draw := cal_mk (st := top 19) (ps := ["draws", "many"]) D_law_draw o_law_draw a_law_draw fun _ _ _ _ _ _ us hl => match us, hl with | [_, _], _ => rfl
  have o_goes_round := ok_goes_round (P := P) (w := w) (mg := mg) (base := base) D_goes_round c_common m_abs
  have c_goes_round := cal_mk (st := top 4) (ps := ["length", "pace"]) D_goes_round o_goes_round a_goes_round fun _ _ _ _ _ _ us hl => match us, hl with | [_, _], _ => rfl
  have o_is_open := ok_is_open (P := P) (w := w) (mg := mg) (base := base) D_is_open c_sign_at m_all m_HOLE
  have c_is_open := cal_mk (st := top 6) (ps := ["stack", "place", "beat"]) D_is_open o_is_open a_is_open fun _ _ _ _ _ _ us hl => match us, hl with | [_, _, _], _ => rfl
  have o_law_row := ok_law_row (P := P) (w := w) (mg := mg) (base := base) D_law_row c_law_sign m_range
  have c_law_row := cal_mk (st := top 15) (ps := ["stack", "wide", "beat"]) D_law_row o_law_row a_law_row fun _ _ _ _ _ _ us hl => match us, hl with | [_, _, _], _ => rfl
  have o_law_whole := ok_law_whole (P := P) (w := w) (mg := mg) (base := base) D_law_whole c_law_beats
  have c_law_whole := cal_mk (st := top 17) (ps := ["stacks"]) D_law_whole o_law_whole a_law_whole fun _ _ _ _ _ _ us hl => match us, hl with | [_], _ => rfl
  have o_law_pattern := ok_law_pattern (P := P) (w := w) (mg := mg) (base := base) D_law_pattern c_law_draw m_range
  have c_law_pattern := cal_mk (st := top 20) (ps := ["draws", "most1"]) D_law_pattern o_law_pattern a_law_pattern fun _ _ _ _ _ _ us hl => match us, hl with | [_, _], _ => rfl
  have o_law_of := ok_law_of (P := P) (w := w) (mg := mg) (base := base) D_law_of c_law_draw m_len
  have c_law_of := cal_mk (st := top 23) (ps := ["draws", "some"]) D_law_of o_law_of a_law_of fun _ _ _ _ _ _ us hl => match us, hl with | [_, _], _ => rfl
  have o_law_may := ok_law_may (P := P) (w := w) (mg := mg) (base := base) D_law_may c_law_sign m_len m_range
  have c_law_may := cal_mk (st := top 25) (ps := ["stack", "wide", "seen", "length", "pace"]) D_law_may o_law_may a_law_may fun _ _ _ _ _ _ us hl => match us, hl with | [_, _, _, _, _], _ => rfl
  have o_whole_round := ok_whole_round (P := P) (w := w) (mg := mg) (base := base) D_whole_round c_goes_round c_common m_len
  have c_whole_round := cal_mk (st := top 7) (ps := ["stacks"]) D_whole_round o_whole_round a_whole_round fun _ _ _ _ _ _ us hl => match us, hl with | [_], _ => rfl
  have o_may_be := ok_may_be (P := P) (w := w) (mg := mg) (base := base) D_may_be c_is_open m_enumerate m_range m_HOLE m_UNSEEN
  have c_may_be := cal_mk (st := top 10) (ps := ["stack", "wide", "seen", "length", "pace"]) D_may_be o_may_be a_may_be fun _ _ _ _ _ _ us hl => match us, hl with | [_, _, _, _, _], _ => rfl
  have o_law_sheet := ok_law_sheet (P := P) (w := w) (mg := mg) (base := base) D_law_sheet c_law_pattern c_law_draw m_len
  have c_law_sheet := cal_mk (st := top 21) (ps := ["draws", "most1"]) D_law_sheet o_law_sheet a_law_sheet fun _ _ _ _ _ _ us hl => match us, hl with | [_, _], _ => rfl
  have o_law_shown := ok_law_shown (P := P) (w := w) (mg := mg) (base := base) D_law_shown c_law_row m_range
  have c_law_shown := cal_mk (st := top 24) (ps := ["stack", "sheet", "wide", "beats"]) D_law_shown o_law_shown a_law_shown fun _ _ _ _ _ _ us hl => match us, hl with | [_, _, _, _], _ => rfl
  have o_law_known := ok_law_known (P := P) (w := w) (mg := mg) (base := base) D_law_known c_law_whole c_law_sign m_len m_range m_set
  have c_law_known := cal_mk (st := top 26) (ps := ["stack", "wide", "length", "pace"]) D_law_known o_law_known a_law_known fun _ _ _ _ _ _ us hl => match us, hl with | [_, _, _, _], _ => rfl
  have o_all_that_may := ok_all_that_may (P := P) (w := w) (mg := mg) (base := base) D_all_that_may c_may_be m_range m_MOST_SIGNS
  have c_all_that_may := cal_mk (st := top 11) (ps := ["stack", "wide", "seen"]) D_all_that_may o_all_that_may a_all_that_may fun _ _ _ _ _ _ us hl => match us, hl with | [_, _, _], _ => rfl
  have o_known_by := ok_known_by (P := P) (w := w) (mg := mg) (base := base) D_known_by c_whole_round c_is_open m_range
  have c_known_by := cal_mk (st := top 12) (ps := ["stack", "wide", "length", "pace"]) D_known_by o_known_by a_known_by fun _ _ _ _ _ _ us hl => match us, hl with | [_, _, _, _], _ => rfl
  have o_law_stack := ok_law_stack (P := P) (w := w) (mg := mg) (base := base) D_law_stack c_law_draw c_law_sheet m_range m_tuple
  have c_law_stack := cal_mk (st := top 22) (ps := ["draws", "many", "most1"]) D_law_stack o_law_stack a_law_stack fun _ _ _ _ _ _ us hl => match us, hl with | [_, _, _], _ => rfl
  have o_law_filled_so := ok_law_filled_so (P := P) (w := w) (mg := mg) (base := base) D_law_filled_so c_may_be c_law_shown m_len m_zip
  have c_law_filled_so := cal_mk (st := top 28) (ps := ["stack", "wide", "seen", "case"]) D_law_filled_so o_law_filled_so a_law_filled_so fun _ _ _ _ _ _ us hl => match us, hl with | [_, _, _, _], _ => rfl
  have o_law_all_so := ok_law_all_so (P := P) (w := w) (mg := mg) (base := base) D_law_all_so c_law_may c_may_be c_all_that_may m_int m_range
  have c_law_all_so := cal_mk (st := top 27) (ps := ["stack", "wide", "some", "case"]) D_law_all_so o_law_all_so a_law_all_so fun _ _ _ _ _ _ us hl => match us, hl with | [_, _, _, _], _ => rfl
  exact ok_law D_law c_law_draws c_law_stack c_law_draw c_law_pattern c_law_shown c_law_of c_law_all_so c_law_filled_so c_known_by c_law_known c_may_be m_len m_max m_min m_range m_tuple
end Wk31
open PySem PySem.W PySem.Calls PyProof.Rows
theorem PySem.Challenge.cw_slitstack_k31_whole_what_a_sheet_may_be_holds : PySem.Challenge.rw_slitstack_k31_whole_what_a_sheet_may_be.Holds := by
  w_on; o_law
  refine HandSHeadRun.head_any (r := OpenLaw.row PySem.Challenge.rw_slitstack_k31_whole_what_a_sheet_may_be) (q := view (OpenLaw.row PySem.Challenge.rw_slitstack_k31_whole_what_a_sheet_may_be).prog [29]) (H := Wk31.hk) (ob := Wk31.ob) (M := 4000) (loose := ["HOLE", "MOST_SIGNS", "common", "goes_round", "sign_at", "is_open", "whole_round", "UNSEEN", "may_be", "all_that_may", "known_by", "_law_sign", "_law_row", "_law_beats", "_law_whole", "_law_draws", "_law_draw", "_law_pattern", "_law_sheet", "_law_stack", "_law_of", "_law_shown", "_law_may", "_law_known", "_law_all_so", "_law_filled_so"]) (d := HandSHeadRun.topDef (OpenLaw.row PySem.Challenge.rw_slitstack_k31_whole_what_a_sheet_may_be).prog 29) (kwd := []) Wk31.ob_eq
    (by kernel_rfl) (fun s => by kernel_rfl) Wk31.run (by kernel_rfl) (by kernel_rfl) (by kernel_rfl) (by rfl) (by first | assumption | decide +kernel) (by decide +kernel) ⟨rfl, rfl, rfl, rfl, rfl, by decide +kernel⟩ ?hw ?hc
  case hw => w_witness2
  case hc =>
    refine L2.walk_ofE (l := PySem.Challenge.rw_slitstack_k31_whole_what_a_sheet_may_be) (n := 63) (k := 6) (x := "script") (CX := L2.CX0) rfl (by decide) (by kernel_rfl) ⟨rfl, by decide, by decide⟩ ?F (fun _ _ _ _ z => z)
    intro w mg fa h Y G hmg0
    obtain ⟨K, KX, c⟩ := Y
    have hmg : mg ("law" : PySem.Str) = some (.ref fa) := by
      have e : (HandSHeadRun.topDef (OpenLaw.row PySem.Challenge.rw_slitstack_k31_whole_what_a_sheet_may_be).prog 29).name = ("law" : PySem.Str) := by kernel_rfl
      rw [← e]
      exact hmg0
    obtain ⟨fd, hb, hF⟩ := Wk31.facts (P := (PySem.Challenge.rw_slitstack_k31_whole_what_a_sheet_may_be).prog) (w := w) KX G hmg c
    exact ⟨K, fd, Dat.spOf K Dat.F_law_k31, KX, hb, fun H a ns hl _ hS => Dat.sp_law hS ⟨ns, rfl, hl, fun _ => rfl⟩, hF⟩

