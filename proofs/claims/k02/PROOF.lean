import PyProof.Rows.All
import Wide.All
import OpenK.AllK
import Wide.FinOn
import HandS.ForMost
import HandS.IsInst
import HandS.DictComp
import HandS.TupAny
import HandS.NoneIn
import HandS.Zip
import HandS.ForExc
import KE.KEqNest
import HandS.Steps
import PyProof.StrLawsIn
import HandS.WordsExc
import HandS.Style
import HandS.Codes
import HandS.RaiseMore
import PyProof.ListStr
import HandS.CallSlots
import PyProof.Rows.RegReprOcc
import KE.GoesMore
import HandS.ExcInit
import HandS.ExcField
import HandS.ExcOwn
import HandS.TryMany
import HandS.Ends
import PySem.Challenge.RW_bytecuts_k02_whole_coding
/-! A small language for the program and the law: values, objects, heap, syntax, and what a text promises (weakest preconditions). Core Lean alone. -/
set_option maxRecDepth 100000
namespace Bc

/-- a value; texts are their codes, tuples stand inline, lists, dicts and instances by reference -/
inductive Val where
  | non | bool (b : Bool) | int (i : Int) | str (s : List Nat) | tup (xs : List Val) | ref (a : Nat) | cd (kvs : List (List Nat × Val))
  deriving Inhabited

/-- what stands at an address; frz: locked while a loop walks it -/
inductive Obj where
  | lst (xs : List Val) | dct (kvs : List (Val × Val)) | ins (c : Nat) (fs : List (Nat × Val)) | frz (o : Obj)
  deriving Inhabited

abbrev Heap := Nat → Option Obj
abbrev Env := List (Option Val)

def upd (h : Heap) (a : Nat) (o : Obj) : Heap := fun b => if b = a then some o else h b
theorem upd_same {h : Heap} {a : Nat} {o : Obj} : upd h a o a = some o := if_pos rfl
theorem upd_ne {h : Heap} {a b : Nat} {o : Obj} (e : b ≠ a) : upd h a o b = h b := if_neg e
theorem upd_upd {h : Heap} {a : Nat} {o u : Obj} : upd (upd h a o) a u = upd h a u := by
  funext b; unfold upd; split <;> rfl
/-- read through a lock -/
def Obj.peel : Obj → Obj
  | .frz o => o
  | o => o
def rd (h : Heap) (a : Nat) : Option Obj := (h a).map Obj.peel

/-- an exception: its class and what its one field holds -/
structure Exn where
  cls : Nat
  pay : Option Val

abbrev Post := Val → Heap → Prop
abbrev XPost := Exn → Heap → Prop
abbrev Spec := List Val → Heap → Post → XPost → Prop

structure Ctx where
  glob : Nat → Option Val
  fn : Nat → Spec
  new : Nat → Spec
  meth : Nat → Nat → Spec
  has : Nat → Nat → Bool
  sub : Nat → Nat → Bool

inductive BOp where | add | sub | mul | fdiv | mod | pow
  deriving DecidableEq
inductive COp where | eq | ne | lt | le | gt | ge | is_ | isnot | in_ | notin
  deriving DecidableEq
/-- types that isinstance is asked of -/
inductive Ty where | str | int | bool | tup | lst | dct | own (c : Nat)
  deriving DecidableEq
/-- built-ins called by name -/
inductive BI where | len | list | tuple | dict | int | str | min2 | min1 | all | any | lenset
  deriving DecidableEq
/-- built-in methods -/
inductive BM where | append | pop | popAt | insert | join | split | startswith | count | get | get2 | setdefault | index
  deriving DecidableEq

/-- what a suite may say: constants, and the field of what was caught -/
inductive SAt where | lit (v : Val) | pay
inductive Sui where | one (a : SAt) | tup (l : List SAt)
def SAt.val (p : Option Val) : SAt → Option Val
  | .lit v => some v
  | .pay => p
def allSat (p : Option Val) : List SAt → Option (List Val)
  | [] => some []
  | a :: l => match a.val p, allSat p l with
    | some v, some vs => some (v :: vs)
    | _, _ => none
def Sui.val (p : Option Val) : Sui → Option Val
  | .one a => a.val p
  | .tup l => (allSat p l).map .tup
mutual
inductive Exp where
  | var (i : Nat)
  | lit (v : Val)
  | glob (g : Nat)
  | bin (o : BOp) (a b : Exp)
  | cmp (o : COp) (a b : Exp)
  | cmp2 (o o2 : COp) (a b c : Exp)
  | not_ (a : Exp)
  | and_ (a b : Exp)
  | or_ (a b : Exp)
  | ite (t : Tst) (a b : Exp)
  | attr (a : Exp) (f : Nat)
  | sub (a i : Exp)
  | slF (a lo : Exp)
  | slT (a hi : Exp)
  | slB (a lo hi : Exp)
  | tup (es : Exps)
  | lst (es : Exps)
  | dct (kvs : Exps)
  | call (f : Nat) (es : Exps)
  | mk (c : Nat) (es : Exps)
  | meth (o : Exp) (m : Nat) (es : Exps)
  | bi (b : BI) (es : Exps)
  | bm (o : Exp) (m : BM) (es : Exps)
  | isin (a : Exp) (t : Ty)
  | comp (is : List Nat) (it : Itr) (t : Tst) (e : Exp)
  | dcomp (is : List Nat) (it : Itr) (t : Tst) (k e : Exp)
inductive Exps where
  | nil
  | cons (e : Exp) (es : Exps)
/-- tests -/
inductive Tst where
  | yes
  | cmp (o : COp) (a b : Exp)
  | cmp2 (o o2 : COp) (a b c : Exp)
  | tru (a : Exp)
  | not_ (t : Tst)
  | and_ (t u : Tst)
  | or_ (t u : Tst)
/-- what is walked -/
inductive Itr where
  | lst (e : Exp)
  | tup (e : Exp)
  | str (e : Exp)
  | dct (e : Exp)
  | rng1 (a : Exp)
  | rng2 (a b : Exp)
  | enumL (e : Exp)
  | enumT (e : Exp)
  | enumS (e : Exp)
end

mutual
inductive Stm where
  | set (i : Nat) (e : Exp)
  | unpT (is : List Nat) (e : Exp)
  | unpL (is : List Nat) (e : Exp)
  | unpS (i : Nat) (o j e : Exp)
  | par2 (i j : Nat) (a b : Exp)
  | sset (o i e : Exp)
  | aset (o : Exp) (f : Nat) (e : Exp)
  | aug (i : Nat) (o : BOp) (e : Exp)
  | auga (o : Exp) (f : Nat) (op : BOp) (e : Exp)
  | exp (e : Exp)
  | ret (e : Exp)
  | retN
  | ite (t : Tst) (a b : Stms)
  | for_ (is : List Nat) (it : Itr) (b : Stms)
  | while_ (t : Tst) (b : Stms)
  | raise (c : Nat) (es : Exps)
  | try_ (b : Stms) (hs : Hds)
  | brk
  | pass
  | never
inductive Stms where
  | nil
  | cons (s : Stm) (r : Stms)
inductive Hds where
  | nil
  | cons (c : Nat) (i : Option Nat) (t : Nat) (s : Sui) (r : Hds)
end

def Exps.len : Exps → Nat
  | .nil => 0
  | .cons _ r => r.len + 1
/-! ### values -/
def sizeMax : Nat := 16777216
/-- flat values, and == of them -/
def isFlat : Val → Bool
  | .non => true | .bool _ => true | .int _ => true | .str _ => true | _ => false
def eqF : Val → Val → Bool
  | .non, .non => true
  | .bool i, .bool j => decide (i = j)
  | .bool i, .int j => decide ((if i then 1 else 0) = j)
  | .int i, .bool j => decide (i = if j then 1 else 0)
  | .int i, .int j => decide (i = j)
  | .str s, .str t => decide (s = t)
  | _, _ => false
/-- data, read off the heap -/
inductive Dt where
  | non | bool (b : Bool) | int (i : Int) | str (s : List Nat) | lst (xs : List Dt) | tup (xs : List Dt)
def allD (f : Val → Option Dt) : List Val → Option (List Dt)
  | [] => some []
  | x :: xs => match f x, allD f xs with
    | some d, some ds => some (d :: ds)
    | _, _ => none
def dat (h : Heap) : Nat → Val → Option Dt
  | 0, _ => none
  | n + 1, x => match x with
    | .non => some .non
    | .bool b => some (.bool b)
    | .int i => some (.int i)
    | .str s => some (.str s)
    | .tup xs => (allD (dat h n) xs).map .tup
    | .ref a => match rd h a with
      | some (.lst xs) => (allD (dat h n) xs).map .lst
      | _ => none
    | _ => none
mutual
def eqD : Dt → Dt → Bool
  | .non, .non => true
  | .bool i, .bool j => decide (i = j)
  | .bool i, .int j => decide ((if i then 1 else 0) = j)
  | .int i, .bool j => decide (i = if j then 1 else 0)
  | .int i, .int j => decide (i = j)
  | .str s, .str t => decide (s = t)
  | .lst xs, .lst ys => eqDs xs ys
  | .tup xs, .tup ys => eqDs xs ys
  | _, _ => false
def eqDs : List Dt → List Dt → Bool
  | [], [] => true
  | x :: xs, y :: ys => eqD x y && eqDs xs ys
  | _, _ => false
end
/-- keys of dicts -/
def keyEq : Val → Val → Bool
  | .str s, .str t => decide (s = t)
  | .int i, .int j => decide (i = j)
  | .non, .non => true
  | _, _ => false
def isKey : Val → Bool
  | .str _ => true | .int _ => true | _ => false
def dget (kvs : List (Val × Val)) (k : Val) : Option Val := (kvs.find? fun p => keyEq p.1 k).map (·.2)
def dput (k v : Val) (kvs : List (Val × Val)) : List (Val × Val) :=
  if (kvs.any fun p => keyEq p.1 k) = true then kvs.map (fun p => if keyEq p.1 k = true then (p.1, v) else p) else kvs ++ [(k, v)]
def cdget (kvs : List (List Nat × Val)) (k : List Nat) : Option Val := (kvs.find? fun p => decide (p.1 = k)).map (·.2)
/-- a fields' list -/
def fget (fs : List (Nat × Val)) (f : Nat) : Option Val := (fs.find? fun p => decide (p.1 = f)).map (·.2)
def fput (f : Nat) (v : Val) : List (Nat × Val) → List (Nat × Val)
  | [] => [(f, v)]
  | p :: r => if p.1 = f then (f, v) :: r else p :: fput f v r
/-- an index from either end -/
def ixOf (i : Int) (n : Nat) : Option Nat := if 0 ≤ i then (if i < n then some i.toNat else none) else if -(n : Int) ≤ i then some (i + n).toNat else none
/-- slices: bounds clipped -/
def clip (n d : Nat) : Option Int → Nat
  | none => d
  | some v => if v < 0 then (v + (n : Int)).toNat else min v.toNat n
def cutL {α : Type} (xs : List α) (lo hi : Option Int) : List α := (xs.drop (clip xs.length 0 lo)).take (clip xs.length xs.length hi - clip xs.length 0 lo)
/-- a text's signs as texts -/
def signs (s : List Nat) : List Val := s.map fun c => .str [c]
def isPre (p s : List Nat) : Bool := p.isPrefixOf s

/-! ### cases, by name -/
def ifC (c : Bool) (t f : Prop) : Prop := match c with | true => t | false => f
def onB (x : Val) (Q : Bool → Prop) : Prop := match x with | .bool c => Q c | _ => False
def onI (x : Val) (Q : Int → Prop) : Prop := match x with | .int i => Q i | _ => False
def onRef (x : Val) (Q : Nat → Prop) : Prop := match x with | .ref a => Q a | _ => False
def onSome {α : Type} (o : Option α) (Q : α → Prop) : Prop := match o with | some a => Q a | none => False
def onTup (x : Val) (Q : List Val → Prop) : Prop := match x with | .tup xs => Q xs | _ => False
def onLst (o : Option Obj) (Q : List Val → Prop) : Prop := match o with | some (.lst xs) => Q xs | _ => False
def onDct (o : Option Obj) (Q : List (Val × Val) → Prop) : Prop := match o with | some (.dct xs) => Q xs | _ => False
def onIns (o : Option Obj) (Q : Nat → List (Nat × Val) → Prop) : Prop := match o with | some (.ins c fs) => Q c fs | _ => False

section
variable {t f : Prop} {c : Bool} {i : Int} {a : Nat} {v : Val} {xs : List Val} {kvs : List (Val × Val)} {fs : List (Nat × Val)}
@[simp] theorem ifC_true : ifC true t f = t := rfl
@[simp] theorem ifC_false : ifC false t f = f := rfl
@[simp] theorem onB_bool {Q : Bool → Prop} : onB (.bool c) Q = Q c := rfl
@[simp] theorem onI_int {Q : Int → Prop} : onI (.int i) Q = Q i := rfl
@[simp] theorem onRef_ref {Q : Nat → Prop} : onRef (.ref a) Q = Q a := rfl
@[simp] theorem onTup_tup {Q : List Val → Prop} : onTup (.tup xs) Q = Q xs := rfl
@[simp] theorem onSome_some {α : Type} {x : α} {Q : α → Prop} : onSome (some x) Q = Q x := rfl
@[simp] theorem onSome_none {α : Type} {Q : α → Prop} : onSome none Q = False := rfl
@[simp] theorem onLst_lst {Q : List Val → Prop} : onLst (some (.lst xs)) Q = Q xs := rfl
@[simp] theorem onDct_dct {Q : List (Val × Val) → Prop} : onDct (some (.dct kvs)) Q = Q kvs := rfl
@[simp] theorem onIns_ins {Q : Nat → List (Nat × Val) → Prop} : onIns (some (.ins a fs)) Q = Q a fs := rfl
theorem onSome_of {α : Type} {o : Option α} {Q : α → Prop} (h : onSome o Q) : ∃ x, o = some x ∧ Q x := by
  cases o with
  | none => exact h.elim
  | some x => exact ⟨x, rfl, h⟩
theorem onB_of {x : Val} {Q : Bool → Prop} (h : onB x Q) : ∃ c, x = .bool c ∧ Q c := by cases x <;> first | exact ⟨_, rfl, h⟩ | exact h.elim
theorem onI_of {x : Val} {Q : Int → Prop} (h : onI x Q) : ∃ c, x = .int c ∧ Q c := by cases x <;> first | exact ⟨_, rfl, h⟩ | exact h.elim
theorem onRef_of {x : Val} {Q : Nat → Prop} (h : onRef x Q) : ∃ c, x = .ref c ∧ Q c := by cases x <;> first | exact ⟨_, rfl, h⟩ | exact h.elim
theorem onTup_of {x : Val} {Q : List Val → Prop} (h : onTup x Q) : ∃ c, x = .tup c ∧ Q c := by cases x <;> first | exact ⟨_, rfl, h⟩ | exact h.elim
theorem onTwo_of' : True := True.intro
theorem onLst_of {o : Option Obj} {Q : List Val → Prop} (h : onLst o Q) : ∃ xs, o = some (.lst xs) ∧ Q xs := by
  unfold onLst at h; split at h
  · exact ⟨_, rfl, h⟩
  · exact h.elim
theorem onDct_of {o : Option Obj} {Q : List (Val × Val) → Prop} (h : onDct o Q) : ∃ xs, o = some (.dct xs) ∧ Q xs := by
  unfold onDct at h; split at h
  · exact ⟨_, rfl, h⟩
  · exact h.elim
theorem onIns_of {o : Option Obj} {Q : Nat → List (Nat × Val) → Prop} (h : onIns o Q) : ∃ c fs, o = some (.ins c fs) ∧ Q c fs := by
  unfold onIns at h; split at h
  · exact ⟨_, _, rfl, h⟩
  · exact h.elim
end

/-! ### operations -/
def newL (h : Heap) (xs : List Val) (Q : Post) : Prop := xs.length ≤ sizeMax ∧ ∀ p, h p = none → Q (.ref p) (upd h p (.lst xs))

def wBin : BOp → Val → Val → Heap → Post → Prop
  | .add, .int i, .int j, h, Q => Q (.int (i + j)) h
  | .add, .str s, .str t, h, Q => s.length + t.length ≤ sizeMax ∧ Q (.str (s ++ t)) h
  | .add, .tup xs, .tup ys, h, Q => xs.length + ys.length ≤ sizeMax ∧ Q (.tup (xs ++ ys)) h
  | .add, .ref a, .ref b, h, Q => match h a, h b with
    | some (.lst xs), some (.lst ys) => xs.length + ys.length ≤ sizeMax ∧ ∀ p, h p = none → Q (.ref p) (upd h p (.lst (xs ++ ys)))
    | _, _ => False
  | .sub, .int i, .int j, h, Q => Q (.int (i - j)) h
  | .mul, .int i, .int j, h, Q => (-(2 ^ 64) < j ∧ j < 2 ^ 64) ∧ Q (.int (i * j)) h
  | .fdiv, .int i, .int j, h, Q => (0 < j ∧ j < 1073741824) ∧ Q (.int (i / j)) h
  | .mod, .int i, .int j, h, Q => 0 < j ∧ Q (.int (i % j)) h
  | .pow, .int i, .int j, h, Q => (0 ≤ j ∧ j ≤ 1000 ∧ i.natAbs < 2 ^ 64) ∧ Q (.int (i ^ j.toNat)) h
  | _, _, _, _, _ => False

def inF (x : Val) (xs : List Val) : Bool := xs.any fun y => eqF y x
def wIn (neg : Bool) (x y : Val) (h : Heap) (Q : Post) : Prop :=
  match y with
  | .str t => match x with | .str [c] => Q (.bool (neg != decide (c ∈ t))) h | _ => False
  | .cd kvs => match x with | .str s => Q (.bool (neg != (cdget kvs s).isSome)) h | _ => False
  | .tup xs => isFlat x = true ∧ xs.all isFlat = true ∧ Q (.bool (neg != inF x xs)) h
  | .ref a => match rd h a with
    | some (.lst xs) => isFlat x = true ∧ xs.all isFlat = true ∧ Q (.bool (neg != inF x xs)) h
    | some (.dct kvs) => isKey x = true ∧ Q (.bool (neg != (dget kvs x).isSome)) h
    | _ => False
  | _ => False

def wEq (neg : Bool) (x y : Val) (h : Heap) (Q : Post) : Prop :=
  match dat h 8 x, dat h 8 y with
  | some d, some e => Q (.bool (neg != eqD d e)) h
  | _, _ => False
def isNon : Val → Bool
  | .non => true
  | _ => false
def wCmp : COp → Val → Val → Heap → Post → Prop
  | .eq, x, y, h, Q => wEq false x y h Q
  | .ne, x, y, h, Q => wEq true x y h Q
  | .lt, .int i, .int j, h, Q => Q (.bool (decide (i < j))) h
  | .le, .int i, .int j, h, Q => Q (.bool (decide (i ≤ j))) h
  | .gt, .int i, .int j, h, Q => Q (.bool (decide (j < i))) h
  | .ge, .int i, .int j, h, Q => Q (.bool (decide (j ≤ i))) h
  | .is_, x, .non, h, Q => Q (.bool (isNon x)) h
  | .isnot, x, .non, h, Q => Q (.bool (!isNon x)) h
  | .in_, x, y, h, Q => wIn false x y h Q
  | .notin, x, y, h, Q => wIn true x y h Q
  | _, _, _, _, _ => False

def wTru (x : Val) (h : Heap) (Q : Bool → Heap → Prop) : Prop :=
  match x with
  | .non => Q false h
  | .bool b => Q b h
  | .int i => Q (i != 0) h
  | .str s => s.length ≤ sizeMax ∧ Q (!s.isEmpty) h
  | .tup xs => Q (!xs.isEmpty) h
  | .ref a => match rd h a with
    | some (.lst xs) => Q (!xs.isEmpty) h
    | _ => False
  | _ => False

def wAttr (x : Val) (f : Nat) (h : Heap) (Q : Post) : Prop := onRef x fun a => onIns (h a) fun _ fs => onSome (fget fs f) fun v => Q v h

def wSub (x i : Val) (h : Heap) (Q : Post) : Prop :=
  match x, i with
  | .tup xs, .int i => match ixOf i xs.length with
    | some k => match xs[k]? with | some v => Q v h | none => False
    | none => False
  | .str s, .int i => s.length ≤ sizeMax ∧ match ixOf i s.length with
    | some k => match s[k]? with | some c => Q (.str [c]) h | none => False
    | none => False
  | .cd kvs, .str k => match cdget kvs k with | some v => Q v h | none => False
  | .ref a, k => match rd h a, k with
    | some (.lst xs), .int i => match ixOf i xs.length with
      | some k => match xs[k]? with | some v => Q v h | none => False
      | none => False
    | some (.dct kvs), k => isKey k = true ∧ match dget kvs k with | some v => Q v h | none => False
    | _, _ => False
  | _, _ => False

def onTwo (vs : List Val) (Q : Val → Val → Prop) : Prop := match vs with | [x, y] => Q x y | _ => False
/-- o[i] = v -/
def wSet (o i v : Val) (h : Heap) (Q : Heap → Prop) : Prop :=
  match o with
  | .ref a => match h a with
    | some (.lst xs) => onI i fun i => onSome (ixOf i xs.length) fun k => Q (upd h a (.lst (xs.set k v)))
    | some (.dct kvs) => isKey i = true ∧ kvs.length < sizeMax ∧ Q (upd h a (.dct (dput i v kvs)))
    | _ => False
  | _ => False
/-- a slice -/
def wSlice (lo hi : Option Int) (x : Val) (h : Heap) (Q : Post) : Prop :=
  match x with
  | .str s => s.length ≤ sizeMax ∧ Q (.str (cutL s lo hi)) h
  | .tup xs => Q (.tup (cutL xs lo hi)) h
  | .ref a => onLst (rd h a) fun xs => ∀ p, h p = none → Q (.ref p) (upd h p (.lst (cutL xs lo hi)))
  | _ => False

def allBool : List Val → Option (List Bool)
  | [] => some []
  | .bool b :: r => (allBool r).map (b :: ·)
  | _ => none
def allStr : List Val → Option (List (List Nat))
  | [] => some []
  | .str s :: r => (allStr r).map (s :: ·)
  | _ => none
def joinS (sep : List Nat) : List (List Nat) → List Nat
  | [] => []
  | [x] => x
  | x :: y :: r => x ++ (sep ++ joinS sep (y :: r))
/-- parts between single separators -/
def splitC (c : Nat) : List Nat → List (List Nat)
  | [] => [[]]
  | x :: r => if x = c then [] :: splitC c r else
    match splitC c r with
    | [] => [[x]]
    | p :: q => (x :: p) :: q
def cnt1 (c : Nat) (s : List Nat) : Nat := (s.filter (· = c)).length
/-- the figures of a number that is not negative -/
def digits (n : Nat) : List Nat := (toString n).toList.map (·.toNat)

def itemsOf (x : Val) (h : Heap) : Option (List Val) :=
  match x with
  | .tup xs => some xs
  | .ref a => match rd h a with | some (.lst xs) => some xs | _ => none
  | _ => none

def wBi : BI → List Val → Heap → Post → Prop
  | .len, [.str s], h, Q => s.length ≤ sizeMax ∧ Q (.int s.length) h
  | .len, [.tup xs], h, Q => Q (.int xs.length) h
  | .len, [.ref a], h, Q => match h a with
    | some (.lst xs) => Q (.int xs.length) h
    | some (.frz (.lst xs)) => Q (.int xs.length) h
    | some (.dct kvs) => Q (.int kvs.length) h
    | _ => False
  | .list, [.str s], h, Q => s.length ≤ sizeMax ∧ ∀ p, h p = none → Q (.ref p) (upd h p (.lst (signs s)))
  | .list, [.tup xs], h, Q => ∀ p, h p = none → Q (.ref p) (upd h p (.lst xs))
  | .list, [.ref a], h, Q => onLst (rd h a) fun xs => ∀ p, h p = none → Q (.ref p) (upd h p (.lst xs))
  | .tuple, [.tup xs], h, Q => Q (.tup xs) h
  | .tuple, [.ref a], h, Q => onLst (rd h a) fun xs => Q (.tup xs) h
  | .dict, [.ref a], h, Q => onDct (rd h a) fun kvs => ∀ p, h p = none → Q (.ref p) (upd h p (.dct kvs))
  | .int, [.int i], h, Q => Q (.int i) h
  | .int, [.bool b], h, Q => Q (.int (if b then 1 else 0)) h
  | .int, [.str [c]], h, Q => (48 ≤ c ∧ c ≤ 57) ∧ Q (.int ((c : Int) - 48)) h
  | .str, [.int i], h, Q => (0 ≤ i ∧ i < 10) ∧ Q (.str [48 + i.toNat]) h
  | .str, [.str s], h, Q => Q (.str s) h
  | .min2, [.int i, .int j], h, Q => Q (.int (if j < i then j else i)) h
  | .all, [.ref a], h, Q => onLst (rd h a) fun xs => onSome (allBool xs) fun bs => Q (.bool (bs.all id)) h
  | .any, [.ref a], h, Q => onLst (rd h a) fun xs => onSome (allBool xs) fun bs => Q (.bool (bs.any id)) h
  | _, _, _, _ => False

def wBm : BM → Val → List Val → Heap → Post → Prop
  | .append, .ref a, [v], h, Q => onLst (h a) fun xs => xs.length < sizeMax ∧ Q .non (upd h a (.lst (xs ++ [v])))
  | .pop, .ref a, [], h, Q => onLst (h a) fun xs => onSome (xs[xs.length - 1]?) fun v => Q v (upd h a (.lst xs.dropLast))
  | .popAt, .ref a, [.int i], h, Q => onLst (h a) fun xs => onSome (ixOf i xs.length) fun k => onSome (xs[k]?) fun v => Q v (upd h a (.lst (xs.eraseIdx k)))
  | .insert, .ref a, [.int i, v], h, Q => onLst (h a) fun xs => xs.length < sizeMax ∧ (0 ≤ i ∧ i < 2 ^ 63) ∧ Q .non (upd h a (.lst (xs.take i.toNat ++ [v] ++ xs.drop i.toNat)))
  | .join, .str s, [x], h, Q => onSome (itemsOf x h) fun xs => onSome (allStr xs) fun ys => (ys.map List.length).sum + ys.length * s.length ≤ sizeMax ∧ Q (.str (joinS s ys)) h
  | .split, .str s, [.str [c]], h, Q => s.length + 2 ≤ sizeMax ∧ c < 256 ∧ ∀ p, h p = none → Q (.ref p) (upd h p (.lst ((splitC c s).map .str)))
  | .startswith, .str s, [.str t], h, Q => Q (.bool (isPre t s)) h
  | .count, .str s, [.str [c]], h, Q => Q (.int (cnt1 c s)) h
  | .get, .ref a, [k], h, Q => onDct (rd h a) fun kvs => isKey k = true ∧ Q ((dget kvs k).getD .non) h
  | .get2, .ref a, [k, d], h, Q => onDct (rd h a) fun kvs => isKey k = true ∧ Q ((dget kvs k).getD d) h
  | _, _, _, _, _ => False

/-- the receiver is of the method's type -/
def bmOk (m : BM) (x : Val) (h : Heap) : Prop :=
  match x with
  | .str _ => (match m with | .join => True | .split => True | .startswith => True | .count => True | _ => False)
  | .ref a => (match m with
    | .append => onLst (h a) fun _ => True
    | .pop => onLst (h a) fun _ => True
    | .popAt => onLst (h a) fun _ => True
    | .insert => onLst (h a) fun _ => True
    | .get => onDct (rd h a) fun _ => True
    | .get2 => onDct (rd h a) fun _ => True
    | _ => False)
  | _ => False

def tyIs (t : Ty) (x : Val) (h : Heap) : Option Bool :=
  match x with
  | .non => some false
  | .bool _ => some (match t with | .bool => true | .int => true | _ => false)
  | .int _ => some (match t with | .int => true | _ => false)
  | .str _ => some (match t with | .str => true | _ => false)
  | .tup _ => some (match t with | .tup => true | _ => false)
  | .ref a => match h a with
    | some (.lst _) => some (match t with | .lst => true | _ => false)
    | some (.dct _) => some (match t with | .dct => true | _ => false)
    | some (.frz (.lst _)) => some (match t with | .lst => true | _ => false)
    | some (.frz (.dct _)) => some (match t with | .dct => true | _ => false)
    | some (.ins c _) => some (match t with | .own d => decide (c = d) | _ => false)
    | _ => none
  | _ => none

/-- several slots at once -/
def setMany : Env → List Nat → List Val → Option Env
  | env, [], [] => some env
  | env, i :: is, v :: vs => setMany (env.set i (some v)) is vs
  | _, _, _ => none
/-- a loop's target: a name, or names for the parts of a tuple -/
def bindT (is : List Nat) (v : Val) (env : Env) : Option Env :=
  match is with
  | [i] => some (env.set i (some v))
  | is => match v with | .tup vs => setMany env is vs | _ => none
def wipeE : Env → List Nat → Env
  | env, [] => env
  | env, i :: is => (wipeE env is).set i none

/-- what a walk goes over: its items, what must hold ahead of each turn, what is locked -/
structure Walk where
  items : List Val
  ok : Heap → Prop
  lock : Option Nat

def rangeL (i : Int) (n : Nat) : List Val := (List.range n).map fun (k : Nat) => .int (i + (k : Int))
def zipIx : Nat → List Val → List Val
  | _, [] => []
  | n, x :: xs => .tup [.int (n : Nat), x] :: zipIx (n + 1) xs
def wkL (f : List Val → List Val) (x : Val) (h : Heap) (R : Walk → Prop) : Prop := onRef x fun a => onLst (rd h a) fun xs => R ⟨f xs, fun h => rd h a = some (.lst xs), none⟩
def wkT (f : List Val → List Val) (x : Val) (R : Walk → Prop) : Prop := match x with
  | .tup xs => R ⟨f xs, fun _ => True, none⟩
  | _ => False
def wkS (f : List Val → List Val) (x : Val) (R : Walk → Prop) : Prop := match x with
  | .str s => R ⟨f (signs s), fun _ => True, none⟩
  | _ => False
def keysOf (kvs : List (Val × Val)) : List Val := kvs.map (·.1)
def wkD (x : Val) (h : Heap) (R : Walk → Prop) : Prop := onRef x fun a => match h a with
  | some (.dct kvs) => R ⟨keysOf kvs, fun h => h a = some (.frz (.dct kvs)), some a⟩
  | some (.frz (.dct kvs)) => R ⟨keysOf kvs, fun h => h a = some (.frz (.dct kvs)), none⟩
  | _ => False

/-- turn by turn -/
def goes {S : Type} (ok : S → Prop) (turn : Val → S → (S → Prop) → Prop) (done : S → Prop) : List Val → S → Prop
  | [], s => ok s ∧ done s
  | v :: vs, s => ok s ∧ turn v s fun s' => goes ok turn done vs s'

/-- a lock around -/
def lockH (l : Option Nat) (h : Heap) : Heap := match l with
  | none => h
  | some a => match h a with | some o => upd h a (.frz o) | none => h
/-- what stood at the lock is there again -/
def unlockQ (l : Option Nat) (h0 : Heap) (P : Heap → Prop) (h : Heap) : Prop := match l with
  | none => P h
  | some a => match h0 a with | some o => h a = some (.frz o) ∧ P (upd h a o) | none => False

mutual
def wpE (Γ : Ctx) : Exp → Env → Heap → Post → XPost → Prop
  | .var i, env, h, Q, _ => onSome (env[i]?.join) fun v => Q v h
  | .lit v, _, h, Q, _ => Q v h
  | .glob g, _, h, Q, _ => onSome (Γ.glob g) fun v => Q v h
  | .bin o a b, env, h, Q, E => wpE Γ a env h (fun x h => wpE Γ b env h (fun y h => wBin o x y h Q) E) E
  | .cmp o a b, env, h, Q, E => wpE Γ a env h (fun x h => wpE Γ b env h (fun y h => wCmp o x y h Q) E) E
  | .cmp2 o o2 a b c, env, h, Q, E => wpE Γ a env h (fun x h => wpE Γ b env h (fun y h => wCmp o x y h fun r h => onB r fun r => ifC r (wpE Γ c env h (fun z h => wCmp o2 y z h Q) E) (Q (.bool false) h)) E) E
  | .not_ a, env, h, Q, E => wpE Γ a env h (fun x h => onB x fun b => Q (.bool (!b)) h) E
  | .and_ a b, env, h, Q, E => wpE Γ a env h (fun x h => onB x fun c => ifC c (wpE Γ b env h Q E) (Q (.bool false) h)) E
  | .or_ a b, env, h, Q, E => wpE Γ a env h (fun x h => onB x fun c => ifC c (Q (.bool true) h) (wpE Γ b env h Q E)) E
  | .ite t a b, env, h, Q, E => wpT Γ t env h (fun c h => ifC c (wpE Γ a env h Q E) (wpE Γ b env h Q E)) E
  | .attr a f, env, h, Q, E => wpE Γ a env h (fun x h => wAttr x f h Q) E
  | .sub a i, env, h, Q, E => wpE Γ a env h (fun x h => wpE Γ i env h (fun k h => wSub x k h Q) E) E
  | .slF a lo, env, h, Q, E => wpE Γ a env h (fun x h => wpE Γ lo env h (fun k h => onI k fun i => wSlice (some i) none x h Q) E) E
  | .slT a hi, env, h, Q, E => wpE Γ a env h (fun x h => wpE Γ hi env h (fun k h => onI k fun i => wSlice none (some i) x h Q) E) E
  | .slB a lo hi, env, h, Q, E => wpE Γ a env h (fun x h => wpE Γ lo env h (fun k h => onI k fun i => wpE Γ hi env h (fun l h => onI l fun j => wSlice (some i) (some j) x h Q) E) E) E
  | .tup es, env, h, Q, E => wpEs Γ es env h (fun vs h => Q (.tup vs) h) E
  | .lst es, env, h, Q, E => wpEs Γ es env h (fun vs h => ∀ p, h p = none → Q (.ref p) (upd h p (.lst vs))) E
  | .dct kvs, env, h, Q, E => kvs = .nil ∧ ∀ p, h p = none → Q (.ref p) (upd h p (.dct []))
  | .call f es, env, h, Q, E => wpEs Γ es env h (fun vs h => Γ.fn f vs h Q E) E
  | .mk c es, env, h, Q, E => wpEs Γ es env h (fun vs h => Γ.new c vs h Q E) E
  | .meth o m es, env, h, Q, E => wpE Γ o env h (fun x h => onRef x fun a => onIns (h a) fun c _ => Γ.has c m = true ∧ wpEs Γ es env h (fun vs h => Γ.meth c m (.ref a :: vs) h Q E) E) E
  | .bi b es, env, h, Q, E => wpEs Γ es env h (fun vs h => wBi b vs h Q) E
  | .bm o m es, env, h, Q, E => wpE Γ o env h (fun x h => bmOk m x h ∧ wpEs Γ es env h (fun vs h => wBm m x vs h Q) E) E
  | .isin a t, env, h, Q, E => wpE Γ a env h (fun x h => onSome (tyIs t x h) fun b => Q (.bool b) h) E
  | .comp is it t e, env, h, Q, E => wpI Γ it env h (fun W h => goes (S := List Val × Heap) (fun s => W.ok s.2)
      (fun v s K => onSome (bindT is v (wipeE env is)) fun env' => wpT Γ t env' s.2 (fun c h => ifC c
          (wpE Γ e env' h (fun y h => s.1.length < sizeMax ∧ K (s.1 ++ [y], h)) (fun _ _ => False)) (K (s.1, h))) (fun _ _ => False))
      (fun s => unlockQ W.lock h (fun h => ∀ p, h p = none → Q (.ref p) (upd h p (.lst s.1))) s.2) W.items ([], lockH W.lock h)) E
  | .dcomp is it t k e, env, h, Q, E => wpI Γ it env h (fun W h => goes (S := List (Val × Val) × Heap) (fun s => W.ok s.2)
      (fun v s K => onSome (bindT is v (wipeE env is)) fun env' => wpT Γ t env' s.2 (fun c h => ifC c
          (wpE Γ k env' h (fun x h => wpE Γ e env' h (fun y h => isKey x = true ∧ s.1.length < sizeMax ∧ K (dput x y s.1, h)) (fun _ _ => False)) (fun _ _ => False)) (K (s.1, h))) (fun _ _ => False))
      (fun s => unlockQ W.lock h (fun h => ∀ p, h p = none → Q (.ref p) (upd h p (.dct s.1))) s.2) W.items ([], lockH W.lock h)) E
def wpEs (Γ : Ctx) : Exps → Env → Heap → (List Val → Heap → Prop) → XPost → Prop
  | .nil, _, h, Q, _ => Q [] h
  | .cons e es, env, h, Q, E => wpE Γ e env h (fun v h => wpEs Γ es env h (fun vs h => Q (v :: vs) h) E) E
def wpT (Γ : Ctx) : Tst → Env → Heap → (Bool → Heap → Prop) → XPost → Prop
  | .yes, _, h, Q, _ => Q true h
  | .cmp o a b, env, h, Q, E => wpE Γ a env h (fun x h => wpE Γ b env h (fun y h => wCmp o x y h fun r h => onB r fun c => Q c h) E) E
  | .cmp2 o o2 a b c, env, h, Q, E => wpE Γ a env h (fun x h => wpE Γ b env h (fun y h => wCmp o x y h fun r h => onB r fun r => ifC r
      (wpE Γ c env h (fun z h => wCmp o2 y z h fun r h => onB r fun c => Q c h) E) (Q false h)) E) E
  | .tru a, env, h, Q, E => wpE Γ a env h (fun x h => wTru x h Q) E
  | .not_ t, env, h, Q, E => wpT Γ t env h (fun c h => Q (!c) h) E
  | .and_ t u, env, h, Q, E => wpT Γ t env h (fun c h => ifC c (wpT Γ u env h Q E) (Q false h)) E
  | .or_ t u, env, h, Q, E => wpT Γ t env h (fun c h => ifC c (Q true h) (wpT Γ u env h Q E)) E
def wpI (Γ : Ctx) : Itr → Env → Heap → (Walk → Heap → Prop) → XPost → Prop
  | .lst e, env, h, R, E => wpE Γ e env h (fun x h => wkL id x h fun W => R W h) E
  | .tup e, env, h, R, E => wpE Γ e env h (fun x h => wkT id x fun W => R W h) E
  | .str e, env, h, R, E => wpE Γ e env h (fun x h => wkS id x fun W => R W h) E
  | .dct e, env, h, R, E => wpE Γ e env h (fun x h => wkD x h fun W => R W h) E
  | .rng1 a, env, h, R, E => wpE Γ a env h (fun x h => onI x fun j => (-(2 ^ 62) ≤ j ∧ j < 2 ^ 62) ∧ R ⟨rangeL 0 j.toNat, fun _ => True, none⟩ h) E
  | .rng2 a b, env, h, R, E => wpE Γ a env h (fun x h => wpE Γ b env h (fun y h => onI x fun i => onI y fun j => (-(2 ^ 62) ≤ i ∧ i < 2 ^ 62 ∧ -(2 ^ 62) ≤ j ∧ j < 2 ^ 62) ∧ R ⟨rangeL i (j - i).toNat, fun _ => True, none⟩ h) E) E
  | .enumL e, env, h, R, E => wpE Γ e env h (fun x h => wkL (zipIx 0) x h fun W => R W h) E
  | .enumT e, env, h, R, E => wpE Γ e env h (fun x h => wkT (zipIx 0) x fun W => R W h) E
  | .enumS e, env, h, R, E => wpE Γ e env h (fun x h => wkS (zipIx 0) x fun W => R W h) E
end

/-- where a statement may go on -/
structure Kont where
  nx : Env → Heap → Prop
  rt : Post
  bk : Env → Heap → Prop
  ex : Exn → Env → Heap → Prop

/-- the slots behind a suite: its target set, the exception's name gone -/
def afterH : Option Nat → Nat → Val → Env → Env
  | none, t, v, env => env.set t (some v)
  | some j, t, v, env => ((env.set j none).set t (some v)).set j none
def raised (c : Nat) (vs : List Val) (h : Heap) (E : XPost) : Prop :=
  match vs with
  | [] => E ⟨c, none⟩ h
  | [v] => E ⟨c, some v⟩ h
  | _ => False

mutual
def wpS (Γ : Ctx) : Stm → Kont → Env → Heap → Prop
  | .set i e, K, env, h => wpE Γ e env h (fun v h => K.nx (env.set i (some v)) h) (fun x h => K.ex x env h)
  | .unpT is e, K, env, h => wpE Γ e env h (fun v h => onTup v fun vs => onSome (setMany env is vs) fun env' => K.nx env' h) (fun x h => K.ex x env h)
  | .unpL is e, K, env, h => wpE Γ e env h (fun v h => onRef v fun a => onLst (rd h a) fun vs => onSome (setMany env is vs) fun env' => K.nx env' h) (fun x h => K.ex x env h)
  | .unpS i o j e, K, env, h => wpE Γ e env h (fun v h => onRef v fun a => onLst (rd h a) fun vs => onTwo vs fun x y => wpE Γ o (env.set i (some x)) h (fun d h => wpE Γ j (env.set i (some x)) h (fun k h => wSet d k y h fun h => K.nx (env.set i (some x)) h) (fun z h => K.ex z (env.set i (some x)) h)) (fun z h => K.ex z (env.set i (some x)) h)) (fun x h => K.ex x env h)
  | .par2 i j a b, K, env, h => wpEs Γ (.cons a (.cons b .nil)) env h (fun vs h => onTwo vs fun v w => K.nx ((env.set i (some v)).set j (some w)) h) (fun x h => K.ex x env h)
  | .sset o i e, K, env, h => wpE Γ e env h (fun v h => wpE Γ o env h (fun d h => wpE Γ i env h (fun k h => wSet d k v h fun h => K.nx env h) (fun x h => K.ex x env h)) (fun x h => K.ex x env h)) (fun x h => K.ex x env h)
  | .aset o f e, K, env, h => wpE Γ e env h (fun v h => wpE Γ o env h (fun d h => onRef d fun a => onIns (h a) fun c fs => fs.length < 100 ∧ K.nx env (upd h a (.ins c (fput f v fs)))) (fun x h => K.ex x env h)) (fun x h => K.ex x env h)
  | .aug i o e, K, env, h => onSome (env[i]?.join) fun x => wpE Γ e env h (fun y h => onI x fun a => onI y fun b => o = .add ∧ K.nx (env.set i (some (.int (a + b)))) h) (fun x h => K.ex x env h)
  | .auga o f op e, K, env, h => wpE Γ o env h (fun d h => onRef d fun a => onIns (h a) fun c fs => onSome (fget fs f) fun v => onI v fun x => wpE Γ e env h (fun y h => onI y fun b => op = .add ∧
      onIns (h a) fun c' fs => c' = c ∧ fs.length < 100 ∧ K.nx env (upd h a (.ins c (fput f (.int (x + b)) fs)))) (fun x h => K.ex x env h)) (fun x h => K.ex x env h)
  | .exp e, K, env, h => wpE Γ e env h (fun _ h => K.nx env h) (fun x h => K.ex x env h)
  | .ret e, K, env, h => wpE Γ e env h K.rt (fun x h => K.ex x env h)
  | .retN, K, _, h => K.rt .non h
  | .ite t a b, K, env, h => wpT Γ t env h (fun c h => ifC c (wpB Γ a K env h) (wpB Γ b K env h)) (fun x h => K.ex x env h)
  | .for_ is it b, K, env, h => wpI Γ it env h (fun W h => goes (S := Env × Heap) (fun s => W.ok s.2)
      (fun v s N => onSome (bindT is v s.1) fun env' => wpB Γ b { nx := fun env h => N (env, h), rt := fun v h' => unlockQ W.lock h (fun h => K.rt v h) h', bk := fun env h' => unlockQ W.lock h (fun h => K.nx env h) h', ex := fun x env h' => W.lock = none ∧ K.ex x env h' } env' s.2)
      (fun s => unlockQ W.lock h (fun h => K.nx s.1 h) s.2) W.items (env, lockH W.lock h)) (fun x h => K.ex x env h)
  | .while_ t b, K, env, h => ∃ I : Nat → Env → Heap → Prop, (∃ m, I m env h) ∧ ∀ m env h, I m env h →
      wpT Γ t env h (fun c h => ifC c (wpB Γ b { K with nx := fun env h => ∃ m', m' < m ∧ I m' env h, bk := K.nx } env h) (K.nx env h)) (fun x h => K.ex x env h)
  | .raise c es, K, env, h => wpEs Γ es env h (fun vs h => raised c vs h fun x h => K.ex x env h) (fun x h => K.ex x env h)
  | .try_ b hs, K, env, h => wpB Γ b { K with ex := fun x env h => wpH Γ hs x K env h } env h
  | .brk, K, env, h => K.bk env h
  | .pass, K, env, h => K.nx env h
  | .never, _, _, _ => False
def wpB (Γ : Ctx) : Stms → Kont → Env → Heap → Prop
  | .nil, K, env, h => K.nx env h
  | .cons s r, K, env, h => wpS Γ s { K with nx := fun env h => wpB Γ r K env h } env h
def wpH (Γ : Ctx) : Hds → Exn → Kont → Env → Heap → Prop
  | .nil, x, K, env, h => K.ex x env h
  | .cons c i t s r, x, K, env, h => ifC (Γ.sub x.cls c) ((∀ j, i = some j → j < env.length) ∧ onSome (s.val x.pay) fun v => K.nx (afterH i t v env) h) (wpH Γ r x K env h)
end

/-- a body run on its arguments -/
def startE (n : Nat) (vs : List Val) : Env := vs.map some ++ List.replicate (n - vs.length) none
def wpF (Γ : Ctx) (n : Nat) (b : Stms) (vs : List Val) (h : Heap) (Q : Post) (E : XPost) : Prop :=
  wpB Γ b { nx := fun _ h => Q .non h, rt := Q, bk := fun _ _ => False, ex := fun x _ h => E x h } (startE n vs) h
end Bc
set_option Elab.async false
set_option linter.all false
set_option maxRecDepth 100000
set_option maxHeartbeats 2000000
/-! The bridge: the small language's values and heap against the hand layer's. -/
namespace Bs
open PySem L2

/-- what the bridge is told of the text: names by numbers, the classes' places -/
structure Tab where
  fnN : Nat → Str
  clN : Nat → Str
  fdN : Nat → Str
  meN : Nat → Str
  glN : Nat → Str
  ct : Nat → Addr
  pf : Nat → Str
  kc : Nat → Bool
  ec : Nat → Bool

mutual
inductive RV (K : PySem.W.Frag) (H : Hp) : V → Bc.Val → Prop
  | non : RV K H .non .non
  | bl (b : Bool) : RV K H (.bl b) (.bool b)
  | int (i : Int) : RV K H (.int i) (.int i)
  | str (s : List Nat) (ok : ∀ c ∈ s, c < 1114112) : RV K H (.str ⟨s.toArray⟩) (.str s)
  | tup {a : Addr} {xs : List V} {vs : List Bc.Val} : SqT K H a xs → RVs K H xs vs → RV K H (.ref a) (.tup vs)
  | ref (a : Addr) : RV K H (.ref a) (.ref a)
inductive RVs (K : PySem.W.Frag) (H : Hp) : List V → List Bc.Val → Prop
  | nil : RVs K H [] []
  | cons {x : V} {xs : List V} {v : Bc.Val} {vs : List Bc.Val} : RV K H x v → RVs K H xs vs → RVs K H (x :: xs) (v :: vs)
end

section
variable {K : PySem.W.Frag} {H H' : Hp}
theorem RVs.length : ∀ {xs : List V} {vs : List Bc.Val}, RVs K H xs vs → xs.length = vs.length
  | _, _, .nil => rfl
  | _, _, .cons _ t => congrArg (· + 1) (RVs.length t)
mutual
theorem RV.mono (f : ∀ a xs, SqT K H a xs → SqT K H' a xs) : ∀ {x : V} {v : Bc.Val}, RV K H x v → RV K H' x v
  | _, _, .non => .non
  | _, _, .bl b => .bl b
  | _, _, .int i => .int i
  | _, _, .str s k => .str s k
  | _, _, .tup h r => .tup (f _ _ h) (RVs.mono f r)
  | _, _, .ref a => .ref a
theorem RVs.mono (f : ∀ a xs, SqT K H a xs → SqT K H' a xs) : ∀ {xs : List V} {vs : List Bc.Val}, RVs K H xs vs → RVs K H' xs vs
  | _, _, .nil => .nil
  | _, _, .cons r t => .cons (RV.mono f r) (RVs.mono f t)
end
theorem RVs.get : ∀ {xs : List V} {vs : List Bc.Val} {i : Nat} {v : Bc.Val}, RVs K H xs vs → vs[i]? = some v → ∃ x, xs[i]? = some x ∧ RV K H x v
  | _, _, _, _, .nil, e => by simp at e
  | _, _, 0, _, .cons r _, e => by simp at e; subst e; exact ⟨_, rfl, r⟩
  | _, _, i + 1, v, .cons _ t, e => by
    obtain ⟨x, h1, h2⟩ := RVs.get (i := i) (v := v) t (by simpa using e)
    exact ⟨x, by simpa using h1, h2⟩
theorem RVs.get' : ∀ {xs : List V} {vs : List Bc.Val} {i : Nat} {x : V}, RVs K H xs vs → xs[i]? = some x → ∃ v, vs[i]? = some v ∧ RV K H x v
  | _, _, _, _, .nil, e => by simp at e
  | _, _, 0, _, .cons r _, e => by simp at e; subst e; exact ⟨_, rfl, r⟩
  | _, _, i + 1, v, .cons _ t, e => by
    obtain ⟨x, h1, h2⟩ := RVs.get' (i := i) (x := v) t (by simpa using e)
    exact ⟨x, by simpa using h1, h2⟩
theorem RVs.append : ∀ {xs ys : List V} {vs ws : List Bc.Val}, RVs K H xs vs → RVs K H ys ws → RVs K H (xs ++ ys) (vs ++ ws)
  | _, _, _, _, .nil, t => t
  | _, _, _, _, .cons r s, t => .cons r (RVs.append s t)
theorem RVs.take : ∀ {xs : List V} {vs : List Bc.Val} (n : Nat), RVs K H xs vs → RVs K H (xs.take n) (vs.take n)
  | _, _, 0, _ => .nil
  | _, _, _ + 1, .nil => .nil
  | _, _, n + 1, .cons r t => .cons r (RVs.take n t)
theorem RVs.drop : ∀ {xs : List V} {vs : List Bc.Val} (n : Nat), RVs K H xs vs → RVs K H (xs.drop n) (vs.drop n)
  | _, _, 0, r => r
  | _, _, _ + 1, .nil => .nil
  | _, _, n + 1, .cons _ t => RVs.drop n t
theorem RVs.set {x : V} {v : Bc.Val} (r : RV K H x v) : ∀ {xs : List V} {vs : List Bc.Val} (i : Nat), RVs K H xs vs → RVs K H (xs.set i x) (vs.set i v)
  | _, _, _, .nil => .nil
  | _, _, 0, .cons _ t => .cons r t
  | _, _, i + 1, .cons q t => .cons q (RVs.set r i t)
theorem RVs.erase : ∀ {xs : List V} {vs : List Bc.Val} (i : Nat), RVs K H xs vs → RVs K H (xs.eraseIdx i) (vs.eraseIdx i)
  | _, _, _, .nil => .nil
  | _, _, 0, .cons _ t => t
  | _, _, i + 1, .cons q t => .cons q (RVs.erase i t)
theorem RVs.dropLast {xs : List V} {vs : List Bc.Val} (r : RVs K H xs vs) : RVs K H xs.dropLast vs.dropLast := by
  rw [List.dropLast_eq_take, List.dropLast_eq_take, r.length]; exact r.take _
theorem RVs.map {α : Type} {f : α → V} {g : α → Bc.Val} (h : ∀ a, RV K H (f a) (g a)) : ∀ l : List α, RVs K H (l.map f) (l.map g)
  | [] => .nil
  | a :: l => .cons (h a) (RVs.map h l)
end

/-- a dict's entries; an instance's fields -/
def RKey (x : Key) (v : Bc.Val) : Prop := match x, v with
  | .inl i, .int j => i = j
  | .inr s, .str t => s = ⟨t.toArray⟩ ∧ ∀ c ∈ t, c < 1114112
  | _, _ => False
inductive RKs (K : PySem.W.Frag) (H : Hp) : List (Key × V) → List (Bc.Val × Bc.Val) → Prop
  | nil : RKs K H [] []
  | cons {k : Key} {x : V} {r : List (Key × V)} {j v : Bc.Val} {s : List (Bc.Val × Bc.Val)} : RKey k j → RV K H x v → RKs K H r s → RKs K H ((k, x) :: r) ((j, v) :: s)
inductive RFs (T : Tab) (K : PySem.W.Frag) (H : Hp) : List (Str × V) → List (Nat × Bc.Val) → Prop
  | nil : RFs T K H [] []
  | cons {x : V} {r : List (Str × V)} {f : Nat} {v : Bc.Val} {s : List (Nat × Bc.Val)} : RV K H x v → RFs T K H r s → RFs T K H ((T.fdN f, x) :: r) ((f, v) :: s)

/-- what stands at an address, both ways -/
inductive RO0 (T : Tab) (K : PySem.W.Frag) (H : Hp) : HO → Bc.Obj → Prop
  | lst {xs : List V} {vs : List Bc.Val} : RVs K H xs vs → RO0 T K H (.lst xs) (.lst vs)
  | dct {ks : List (Key × V)} {vs : List (Bc.Val × Bc.Val)} : RKs K H ks vs → RO0 T K H (.dK ks) (.dct vs)
  | ins {c : Nat} {dx : Addr} {fs : List (Str × V)} {gs : List (Nat × Bc.Val)} : T.kc c = true → RFs T K H fs gs → RO0 T K H (.ins (T.ct c) dx fs) (.ins c gs)
inductive RO (T : Tab) (K : PySem.W.Frag) (H : Hp) : HO → Bc.Obj → Prop
  | pl {u : HO} {o : Bc.Obj} : RO0 T K H u o → RO T K H u o
  | frz {od : Obj} {u : HO} {o : Bc.Obj} : RO0 T K H u o → RO T K H (.frz od u) (.frz o)
def Rep (T : Tab) (K : PySem.W.Frag) (H : Hp) (h : Bc.Heap) : Prop := ∀ a o, h a = some o → ∃ u, H a = some u ∧ RO T K H u o
/-- all else is as it was -/
structure Fr (H : Hp) (h : Bc.Heap) (H' : Hp) (h' : Bc.Heap) : Prop where
  un : ∀ a u, H a = some u → h a = none → H' a = some u ∧ h' a = none
  fz : ∀ a od u, H a = some (.frz od u) → H' a = some (.frz od u)

section
variable {T : Tab} {K : PySem.W.Frag} {H H' H2 : Hp} {h h' h2 : Bc.Heap} {a p : Addr}
theorem RKs.mono (f : ∀ a xs, SqT K H a xs → SqT K H' a xs) : ∀ {r : List (Key × V)} {s : List (Bc.Val × Bc.Val)}, RKs K H r s → RKs K H' r s
  | _, _, .nil => .nil
  | _, _, .cons k r t => .cons k (r.mono f) (RKs.mono f t)
theorem RFs.mono (f : ∀ a xs, SqT K H a xs → SqT K H' a xs) : ∀ {r : List (Str × V)} {s : List (Nat × Bc.Val)}, RFs T K H r s → RFs T K H' r s
  | _, _, .nil => .nil
  | _, _, .cons r t => .cons (r.mono f) (RFs.mono f t)
theorem RO0.mono (f : ∀ a xs, SqT K H a xs → SqT K H' a xs) {u : HO} {o : Bc.Obj} (r : RO0 T K H u o) : RO0 T K H' u o := by
  cases r with
  | lst r => exact .lst (r.mono f)
  | dct r => exact .dct (r.mono f)
  | ins k r => exact .ins k (r.mono f)
theorem RO.mono (f : ∀ a xs, SqT K H a xs → SqT K H' a xs) {u : HO} {o : Bc.Obj} (r : RO T K H u o) : RO T K H' u o := by
  cases r with
  | pl r => exact .pl (r.mono f)
  | frz r => exact .frz (r.mono f)
theorem Rep.none_of (R : Rep T K H h) (e : H a = none) : h a = none := by
  cases q : h a with
  | none => rfl
  | some o => obtain ⟨u, e2, _⟩ := R a o q; rw [e] at e2; cases e2
theorem Rep.tup_free (R : Rep T K H h) {xs : List V} (e : H a = some (.tup xs)) : h a = none := by
  cases q : h a with
  | none => rfl
  | some o =>
    obtain ⟨u, e2, r⟩ := R a o q
    rw [e] at e2; cases e2
    cases r with
    | pl r => cases r
theorem Rep.ftup_free (R : Rep T K H h) {od : Obj} {xs : List V} (e : H a = some (.frz od (.tup xs))) : h a = none := by
  cases q : h a with
  | none => rfl
  | some o =>
    obtain ⟨u, e2, r⟩ := R a o q
    rw [e] at e2; cases e2
    cases r with
    | pl r => cases r
    | frz r => cases r
/-- tuples stay -/
theorem tups_of (f : ∀ a u, H a = some u → h a = none → H' a = some u ∧ h' a = none) (R : Rep T K H h) : ∀ a xs, SqT K H a xs → SqT K H' a xs := by
  intro a xs q
  rcases q with (q | ⟨od, q⟩) | q
  · exact .inl (.inl (f a _ q (R.tup_free q)).1)
  · exact .inl (.inr ⟨od, (f a _ q (R.ftup_free q)).1⟩)
  · exact .inr q
theorem Fr.tups (f : Fr H h H' h') (R : Rep T K H h) : ∀ a xs, SqT K H a xs → SqT K H' a xs := tups_of f.un R
theorem Fr.refl : Fr H h H h := ⟨fun _ _ e n => ⟨e, n⟩, fun _ _ _ e => e⟩
theorem Fr.trans (f : Fr H h H' h') (g : Fr H' h' H2 h2) : Fr H h H2 h2 := ⟨fun a u e n => let ⟨e1, n1⟩ := f.un a u e n; g.un a u e1 n1, fun a od u e => g.fz a od u (f.fz a od u e)⟩
theorem RV.fr {x : V} {v : Bc.Val} (r : RV K H x v) (R : Rep T K H h) (f : Fr H h H' h') : RV K H' x v := r.mono (f.tups R)
theorem RVs.fr {xs : List V} {vs : List Bc.Val} (r : RVs K H xs vs) (R : Rep T K H h) (f : Fr H h H' h') : RVs K H' xs vs := r.mono (f.tups R)

/-- a new thing that the small heap does not know -/
theorem Fr.newU {o : HO} (R : Rep T K H h) (e : H p = none) : Fr H h (upd H p o) h := ⟨fun a u q n => ⟨by rw [upd_ne (ne_of_none q e)]; exact q, n⟩, fun a od u q => by rw [upd_ne (ne_of_none q e)]; exact q⟩
theorem Rep.newU {o : HO} (R : Rep T K H h) (e : H p = none) : Rep T K (upd H p o) h := fun a ob q => by
  obtain ⟨u, e2, r⟩ := R a ob q
  exact ⟨u, by rw [upd_ne (ne_of_none e2 e)]; exact e2, r.mono ((Fr.newU R e).tups R)⟩
/-- a new object, both ways -/
theorem Fr.new {o : HO} {o' : Bc.Obj} (R : Rep T K H h) (e : H p = none) : Fr H h (upd H p o) (Bc.upd h p o') := by
  refine ⟨fun a u q n => ?_, fun a od u q => by rw [upd_ne (ne_of_none q e)]; exact q⟩
  have ne : a ≠ p := ne_of_none q e
  exact ⟨by rw [upd_ne ne]; exact q, by rw [Bc.upd_ne ne]; exact n⟩
theorem Rep.new {o : HO} {o' : Bc.Obj} (R : Rep T K H h) (e : H p = none) (r : RO T K H o o') : Rep T K (upd H p o) (Bc.upd h p o') := fun a ob q => by
  have m := (Fr.newU (o := o) R e).tups R
  by_cases hp : a = p
  · subst hp
    rw [Bc.upd_same] at q; cases q
    exact ⟨o, upd_same, r.mono m⟩
  · rw [Bc.upd_ne hp] at q
    obtain ⟨u, e2, r2⟩ := R a ob q
    exact ⟨u, by rw [upd_ne hp]; exact e2, r2.mono m⟩
/-- an object that both know is changed -/
theorem set_un {o : HO} {ob o' : Bc.Obj} (e : h a = some ob) : ∀ b u, H b = some u → h b = none → upd H a o b = some u ∧ Bc.upd h a o' b = none := fun b u q n => by
  have ne : b ≠ a := fun z => by rw [z, e] at n; cases n
  exact ⟨by rw [upd_ne ne]; exact q, by rw [Bc.upd_ne ne]; exact n⟩
theorem Rep.nofrz (R : Rep T K H h) {ob : Bc.Obj} (e : h a = some ob) (hn : ∀ o, ob ≠ .frz o) : ∀ od u, H a ≠ some (.frz od u) := fun od u z => by
  obtain ⟨u', e2, r⟩ := R a ob e
  rw [z] at e2
  cases e2
  cases r with
  | pl r => cases r
  | frz r => exact hn _ rfl
theorem Fr.set {o : HO} {ob o' : Bc.Obj} (R : Rep T K H h) (e : h a = some ob) (hn : ∀ o, ob ≠ .frz o := by intro o z; cases z) : Fr H h (upd H a o) (Bc.upd h a o') := by
  refine ⟨set_un e, fun b od u q => ?_⟩
  have ne : b ≠ a := fun z => by subst z; exact R.nofrz e hn od u q
  rw [upd_ne ne]; exact q
/-- unlocked -/
theorem Fr.unlock {u : HO} {o' : Bc.Obj} {He : Hp} {he : Bc.Heap} {o : Bc.Obj} (f : Fr H h He he) (e : he a = some o) (n : ∀ od v, H a ≠ some (.frz od v)) : Fr H h (upd He a u) (Bc.upd he a o') := by
  refine ⟨fun b v q m => ?_, fun b od v q => ?_⟩
  · obtain ⟨q1, m1⟩ := f.un b v q m
    exact set_un e b v q1 m1
  · have ne : b ≠ a := fun z => by subst z; exact n od v q
    rw [upd_ne ne]; exact f.fz b od v q
theorem Rep.set {o : HO} {ob o' : Bc.Obj} (R : Rep T K H h) (e : h a = some ob) (r : RO T K H o o') : Rep T K (upd H a o) (Bc.upd h a o') := fun b ob' q => by
  have m := tups_of (set_un (H := H) (o := o) (o' := o') e) R
  by_cases hp : b = a
  · subst hp
    rw [Bc.upd_same] at q; cases q
    exact ⟨o, upd_same, r.mono m⟩
  · rw [Bc.upd_ne hp] at q
    obtain ⟨u, e2, r2⟩ := R b ob' q
    exact ⟨u, by rw [upd_ne hp]; exact e2, r2.mono m⟩
/-- what is read -/
theorem Rep.lst (R : Rep T K H h) {vs : List Bc.Val} (e : Bc.rd h a = some (.lst vs)) : ∃ xs, SqL K H a xs ∧ RVs K H xs vs := by
  unfold Bc.rd at e
  cases q : h a with
  | none => rw [q] at e; cases e
  | some o =>
    rw [q] at e
    obtain ⟨u, e2, r⟩ := R a o q
    cases r with
    | pl r =>
      cases r with
      | lst r => cases e; exact ⟨_, .inl (.inl e2), r⟩
      | dct r => cases e
      | ins _ r => cases e
    | @frz od u o r =>
      cases r with
      | lst r => cases e; exact ⟨_, .inl (.inr ⟨od, e2⟩), r⟩
      | dct r => cases e
      | ins _ r => cases e
theorem Rep.dct (R : Rep T K H h) {vs : List (Bc.Val × Bc.Val)} (e : Bc.rd h a = some (.dct vs)) : ∃ ks, Rd H a (.dK ks) ∧ RKs K H ks vs := by
  unfold Bc.rd at e
  cases q : h a with
  | none => rw [q] at e; cases e
  | some o =>
    rw [q] at e
    obtain ⟨u, e2, r⟩ := R a o q
    cases r with
    | pl r =>
      cases r with
      | lst r => cases e
      | dct r => cases e; exact ⟨_, .inl e2, r⟩
      | ins _ r => cases e
    | @frz od u o r =>
      cases r with
      | lst r => cases e
      | dct r => cases e; exact ⟨_, .inr ⟨od, e2⟩, r⟩
      | ins _ r => cases e
theorem Rep.lstM (R : Rep T K H h) {vs : List Bc.Val} (e : h a = some (.lst vs)) : ∃ xs, H a = some (.lst xs) ∧ RVs K H xs vs := by
  obtain ⟨u, e2, r⟩ := R a _ e
  cases r with
  | pl r => cases r with | lst r => exact ⟨_, e2, r⟩
theorem Rep.dctM (R : Rep T K H h) {vs : List (Bc.Val × Bc.Val)} (e : h a = some (.dct vs)) : ∃ ks, H a = some (.dK ks) ∧ RKs K H ks vs := by
  obtain ⟨u, e2, r⟩ := R a _ e
  cases r with
  | pl r => cases r with | dct r => exact ⟨_, e2, r⟩
theorem Rep.ins (R : Rep T K H h) {c : Nat} {gs : List (Nat × Bc.Val)} (e : h a = some (.ins c gs)) : ∃ dx fs, H a = some (.ins (T.ct c) dx fs) ∧ T.kc c = true ∧ RFs T K H fs gs := by
  obtain ⟨u, e2, r⟩ := R a _ e
  cases r with
  | pl r => cases r with | ins k r => exact ⟨_, _, e2, k, r⟩
end

/-! ### operations, by values -/
/-- the end of an operation -/
def Post (T : Tab) (K : PySem.W.Frag) (Q : Bc.Post) (H : Hp) (h : Bc.Heap) (Q' : VK) : Prop := ∀ v h' H' w, Q v h' → Rep T K H' h' → Fr H h H' h' → RV K H' w v → Q' w H'
section
variable {T : Tab} {K : PySem.W.Frag} {H : Hp} {h : Bc.Heap} {Q : Bc.Post} {Q' : VK}
theorem Post.here (k : Post T K Q H h Q') (R : Rep T K H h) {w : V} {v : Bc.Val} (r : RV K H w v) (q : Q v h) : Q' w H := k v h H w q R .refl r
theorem Post.lst (k : Post T K Q H h Q') (R : Rep T K H h) {xs : List V} {vs : List Bc.Val} (r : RVs K H xs vs) (q : ∀ p, h p = none → Q (.ref p) (Bc.upd h p (.lst vs))) :
    ∀ p, H p = none → Q' (.ref p) (upd H p (.lst xs)) := fun p hp => k _ _ _ _ (q p (R.none_of hp)) (R.new hp (.pl (.lst r))) (Fr.new R hp) (.ref p)
theorem Post.tup (k : Post T K Q H h Q') (R : Rep T K H h) {xs : List V} {vs : List Bc.Val} (r : RVs K H xs vs) (q : Q (.tup vs) h) :
    ∀ p, H p = none → Q' (.ref p) (upd H p (.tup xs)) := fun p hp => by
  have f := Fr.newU (o := .tup xs) R hp
  exact k _ _ _ _ q (R.newU hp) f (.tup (.inl (.inl upd_same)) (r.fr R f))
end
end Bs
set_option Elab.async false
set_option linter.all false
set_option maxRecDepth 100000
set_option maxHeartbeats 4000000
namespace Bs
open PySem L2

theorem sz : Bc.sizeMax = sizeLine := by rw [sizeLine_eq]; rfl
theorem str_len (s : List Nat) : (⟨s.toArray⟩ : Str).length = s.length := by simp [Str.length]
theorem str_app (s t : List Nat) : (⟨s.toArray⟩ : Str) ++ (⟨t.toArray⟩ : Str) = ⟨(s ++ t).toArray⟩ := by
  show Str.append _ _ = _
  unfold Str.append
  simp
theorem str_inj {s t : List Nat} (e : (⟨s.toArray⟩ : Str) = ⟨t.toArray⟩) : s = t := by
  have := Str.mk.inj e
  simpa using this
theorem str_eq_iff (s t : List Nat) : ((⟨s.toArray⟩ : Str) = ⟨t.toArray⟩) ↔ s = t := ⟨str_inj, fun e => by rw [e]⟩

section
variable {X : Cx} {T : Tab}
/-- an operation of two values -/
def R2w (T : Tab) (K : PySem.W.Frag) (f : Bc.Val → Bc.Val → Bc.Heap → Bc.Post → Prop) : R2 := fun x y H Q' =>
  ∃ a b h Q, Rep T K H h ∧ RV K H x a ∧ RV K H y b ∧ f a b h Q ∧ Post T K Q H h Q'

def opO : Bc.BOp → Operator
  | .add => .Add | .sub => .Sub | .mul => .Mult | .fdiv => .FloorDiv | .mod => .Mod | .pow => .Pow
def opC : Bc.COp → CmpOp
  | .eq => .Eq | .ne => .NotEq | .lt => .Lt | .le => .LtE | .gt => .Gt | .ge => .GtE | .is_ => .Is | .isnot => .IsNot | .in_ => .In | .notin => .NotIn

theorem op_bin (o : Bc.BOp) : OpR X (binaryOp (opO o)) (R2w T X.K (Bc.wBin o)) := by
  intro pins s σ H x y v u Q' I rx ry hq
  obtain ⟨a, b, h, Q, R, ra, rb, w, k⟩ := hq
  cases o with
  | add =>
    cases ra with
    | int i =>
      cases rb with
      | int j => exact op_add pins s σ H _ _ v u Q' I rx ry ⟨i, j, rfl, rfl, k.here R (.int _) w⟩
      | _ => exact w.elim
    | str i ki =>
      cases rb with
      | str j kj =>
        refine op_add_str pins s σ H _ _ v u Q' I rx ry ⟨_, _, rfl, rfl, ?_, ?_⟩
        · rw [str_len, str_len, ← sz]; exact w.1
        · rw [str_app]; exact k.here R (.str _ fun c hc => (List.mem_append.mp hc).elim (ki c) (kj c)) w.2
      | _ => exact w.elim
    | @tup p xs vs hp rp =>
      cases rb with
      | @tup q ys ws hq rq =>
        obtain ⟨w1, w2⟩ := w
        rw [← rp.length, ← rq.length, sz] at w1
        refine op_catA pins s σ H _ _ v u Q' I rx ry ⟨p, q, xs, ys, rfl, rfl, hp, hq, w1, fun e => ?_, fun _ e => ?_, fun _ _ => ?_⟩
        · subst e
          cases rp
          exact k.here R (.tup hq rq) w2
        · subst e
          cases rq
          rw [List.append_nil] at w2
          exact k.here R (.tup hp rp) w2
        · exact k.tup R (rp.append rq) w2
      | _ => exact w.elim
    | ref p =>
      cases rb with
      | ref q =>
        unfold Bc.wBin at w
        dsimp only at w
        split at w
        · rename_i xs ys e1 e2
          obtain ⟨us, f1, r1⟩ := R.lstM e1
          obtain ⟨ws, f2, r2⟩ := R.lstM e2
          obtain ⟨w1, w2⟩ := w
          rw [← r1.length, ← r2.length, sz] at w1
          exact op_cat pins s σ H _ _ v u Q' I rx ry ⟨p, q, us, ws, rfl, rfl, f1, f2, w1, k.lst R (r1.append r2) w2⟩
        · exact w.elim
      | _ => exact w.elim
    | _ => exact w.elim
  | sub =>
    cases ra with
    | int i =>
      cases rb with
      | int j => exact op_sub pins s σ H _ _ v u Q' I rx ry ⟨i, j, rfl, rfl, k.here R (.int _) w⟩
      | _ => exact w.elim
    | _ => exact w.elim
  | mul =>
    cases ra with
    | int i =>
      cases rb with
      | int j => exact op_mul pins s σ H _ _ v u Q' I rx ry ⟨i, j, rfl, rfl, .inr w.1, k.here R (.int _) w.2⟩
      | _ => exact w.elim
    | _ => exact w.elim
  | fdiv =>
    cases ra with
    | int i =>
      cases rb with
      | int j => exact op_fdiv pins s σ H _ _ v u Q' I rx ry ⟨i, j, rfl, rfl, w.1, k.here R (.int _) w.2⟩
      | _ => exact w.elim
    | _ => exact w.elim
  | mod =>
    cases ra with
    | int i =>
      cases rb with
      | int j => exact op_mod pins s σ H _ _ v u Q' I rx ry ⟨i, j, rfl, rfl, w.1, k.here R (.int _) w.2⟩
      | _ => exact w.elim
    | _ => exact w.elim
  | pow =>
    cases ra with
    | int i =>
      cases rb with
      | int j => exact op_pow pins s σ H _ _ v u Q' I rx ry ⟨i, j, rfl, rfl, ⟨w.1.1, by have := w.1.2.1; omega, w.1.2.2⟩, k.here R (.int _) w.2⟩
      | _ => exact w.elim
    | _ => exact w.elim
end
end Bs
set_option Elab.async false
set_option linter.all false
set_option maxRecDepth 100000
set_option maxHeartbeats 4000000
namespace Bs
open PySem L2

/-! ### data -/
mutual
def toPy : Bc.Dt → PyData
  | .non => .none
  | .bool b => .bool b
  | .int i => .int i
  | .str s => .str ⟨s.toArray⟩
  | .lst xs => .list (toPys xs)
  | .tup xs => .tuple (toPys xs)
def toPys : List Bc.Dt → List PyData
  | [] => []
  | x :: xs => toPy x :: toPys xs
end
theorem str_beq (s t : List Nat) : ((⟨s.toArray⟩ : Str) == ⟨t.toArray⟩) = decide (s = t) := by
  by_cases e : s = t
  · subst e; simp
  · rw [decide_eq_false e]
    exact beq_eq_false_iff_ne.mpr fun z => e (str_inj z)
mutual
theorem eqv_py : ∀ d e : Bc.Dt, PyData.eqv (toPy d) (toPy e) = Bc.eqD d e
  | .non, e => by cases e <;> simp [toPy, PyData.eqv, Bc.eqD]
  | .bool b, e => by cases e <;> simp [toPy, PyData.eqv, Bc.eqD, Bool.beq_eq_decide_eq]
  | .int i, e => by cases e <;> simp [toPy, PyData.eqv, Bc.eqD, Bool.beq_eq_decide_eq]
  | .str s, e => by
    cases e with
    | str t => simp only [toPy, PyData.eqv, Bc.eqD]; exact str_beq s t
    | _ => simp [toPy, PyData.eqv, Bc.eqD]
  | .lst xs, e => by
    cases e with
    | lst ys => simp only [toPy, PyData.eqv, Bc.eqD]; exact eqv_pys xs ys
    | _ => simp [toPy, PyData.eqv, Bc.eqD]
  | .tup xs, e => by
    cases e with
    | tup ys => simp only [toPy, PyData.eqv, Bc.eqD]; exact eqv_pys xs ys
    | _ => simp [toPy, PyData.eqv, Bc.eqD]
theorem eqv_pys : ∀ ds es : List Bc.Dt, PyData.eqvAll (toPys ds) (toPys es) = Bc.eqDs ds es
  | [], [] => by simp [toPys, PyData.eqvAll, Bc.eqDs]
  | [], _ :: _ => by simp [toPys, PyData.eqvAll, Bc.eqDs]
  | _ :: _, [] => by simp [toPys, PyData.eqvAll, Bc.eqDs]
  | d :: ds, e :: es => by
    simp only [toPys, PyData.eqvAll, Bc.eqDs]
    rw [eqv_py d e, eqv_pys ds es]
end
section
variable {T : Tab} {K : PySem.W.Frag} {H : Hp} {h : Bc.Heap}
/-- what dat reads is data, of small depth and good texts -/
theorem dat_ok (R : Rep T K H h) : ∀ (n : Nat) (x : V) (v : Bc.Val) (d : Bc.Dt), RV K H x v → Bc.dat h n v = some d →
    Dp K H x (toPy d) ∧ (toPy d).canLay0 = true ∧ (toPy d).depth ≤ n := by
  intro n
  induction n with
  | zero => intro x v d _ e; cases e
  | succ n ih =>
    have all : ∀ (xs : List V) (vs : List Bc.Val) (ds : List Bc.Dt), RVs K H xs vs → Bc.allD (Bc.dat h n) vs = some ds →
        DpAll K H xs (toPys ds) ∧ PyData.canLayAll0 (toPys ds) = true ∧ PyData.depthAll (toPys ds) ≤ n := by
      intro xs
      induction xs with
      | nil =>
        intro vs ds r e
        cases r
        cases e
        exact ⟨.nil, rfl, Nat.zero_le _⟩
      | cons x xs ihx =>
        intro vs ds r e
        cases r with
        | @cons _ _ v vs r1 r2 =>
          unfold Bc.allD at e
          split at e
          · rename_i d0 ds0 e1 e2
            cases e
            obtain ⟨a1, a2, a3⟩ := ih x v d0 r1 e1
            obtain ⟨b1, b2, b3⟩ := ihx vs ds0 r2 e2
            refine ⟨.cons a1 b1, ?_, ?_⟩
            · simp only [toPys, PyData.canLayAll0, a2, b2, Bool.and_self]
            · simp only [toPys, PyData.depthAll]
              exact Nat.max_le.mpr ⟨a3, b3⟩
          · cases e
    intro x v d r e
    cases r with
    | non => cases e; exact ⟨.non, rfl, by simp [toPy, PyData.depth]⟩
    | bl b => cases e; exact ⟨.bl b, rfl, by simp [toPy, PyData.depth]⟩
    | int i => cases e; exact ⟨.int i, rfl, by simp [toPy, PyData.depth]⟩
    | str s ok =>
      cases e
      refine ⟨.str _, ?_, by simp [toPy, PyData.depth]⟩
      simp only [toPy, PyData.canLay0, PyData.strOk]
      rw [Array.all_eq_true]
      intro i hi
      have hi' : i < s.length := by simpa using hi
      have := ok s[i] (List.getElem_mem hi')
      simpa using this
    | tup hs rs =>
      have e' : (Bc.allD (Bc.dat h n) _).map Bc.Dt.tup = some d := e
      cases q : Bc.allD (Bc.dat h n) _ with
      | none => rw [q] at e'; cases e'
      | some ds =>
        rw [q] at e'
        cases e'
        obtain ⟨a1, a2, a3⟩ := all _ _ _ rs q
        refine ⟨.tup hs a1, ?_, ?_⟩
        · simpa only [toPy, PyData.canLay0] using a2
        · simp only [toPy, PyData.depth]; omega
    | ref a =>
      unfold Bc.dat at e
      dsimp only at e
      split at e
      · rename_i vs e1
        obtain ⟨xs, hs, rs⟩ := R.lst e1
        cases q : Bc.allD (Bc.dat h n) vs with
        | none => rw [q] at e; cases e
        | some ds =>
          rw [q] at e
          cases e
          obtain ⟨a1, a2, a3⟩ := all _ _ _ rs q
          refine ⟨.lst hs a1, ?_, ?_⟩
          · simpa only [toPy, PyData.canLay0] using a2
          · simp only [toPy, PyData.depth]; omega
      · cases e
theorem shaped_of {d : PyData} (a : d.canLay0 = true) (b : d.depth ≤ 8) : SeqAt.shaped d = true := by
  unfold SeqAt.shaped
  rw [a, decide_eq_true (by omega : d.depth ≤ 64)]
  rfl
/-- flat values -/
theorem flat_of {x : V} {v : Bc.Val} (r : RV K H x v) (f : Bc.isFlat v = true) : flatV x = true := by cases r <;> first | rfl | cases f
theorem flats_of : ∀ {xs : List V} {vs : List Bc.Val}, RVs K H xs vs → vs.all Bc.isFlat = true → xs.all flatV = true
  | _, _, .nil, _ => rfl
  | _, _, .cons r t, f => by
    rw [List.all_cons, Bool.and_eq_true] at f
    rw [List.all_cons, flat_of r f.1, flats_of t f.2]
    rfl
theorem eqF_of {x y : V} {v u : Bc.Val} (r : RV K H x v) (q : RV K H y u) (f : Bc.isFlat v = true) (g : Bc.isFlat u = true) : eqV x y = Bc.eqF v u := by
  cases r <;> cases q <;> first | cases f | cases g | skip
  all_goals first | rfl | (simp only [eqV, Bc.eqF, Bool.beq_eq_decide_eq]; done) | (simp only [eqV, Bc.eqF]; exact str_beq _ _) | (simp only [eqV, Bc.eqF, Bool.beq_eq_decide_eq] <;> rfl)
theorem inF_of {x : V} {v : Bc.Val} (r : RV K H x v) (f : Bc.isFlat v = true) : ∀ {xs : List V} {vs : List Bc.Val}, RVs K H xs vs → vs.all Bc.isFlat = true → inV x xs = Bc.inF v vs
  | _, _, .nil, _ => rfl
  | _, _, .cons q t, g => by
    rw [List.all_cons, Bool.and_eq_true] at g
    have ih := inF_of r f t g.2
    unfold inV Bc.inF at ih ⊢
    rw [List.any_cons, List.any_cons, eqF_of q r g.1 f, ih]

/-! ### dicts -/
theorem rkey_kV {k : Key} {v : Bc.Val} {y : V} (r : RKey k v) (q : RV K H y v) : y = kV k := by
  cases k with
  | inl i =>
    cases v <;> first | exact False.elim r | skip
    rename_i j
    cases (show i = j from r)
    cases q
    rfl
  | inr s =>
    cases v <;> first | exact False.elim r | skip
    rename_i t
    obtain ⟨e, _⟩ : s = ⟨t.toArray⟩ ∧ ∀ c ∈ t, c < 1114112 := r
    subst e
    cases q
    rfl
theorem key_of {y : V} {v : Bc.Val} (r : RV K H y v) (f : Bc.isKey v = true) : ∃ k : Key, y = kV k ∧ RKey k v := by
  cases r <;> first | cases f | skip
  · exact ⟨.inl _, rfl, rfl⟩
  · rename_i s ok
    exact ⟨.inr _, rfl, rfl, ok⟩
theorem rkey_eq {k k' : Key} {v v' : Bc.Val} (r : RKey k v) (r' : RKey k' v') : decide (k = k') = Bc.keyEq v v' := by
  cases k with
  | inl i =>
    cases v <;> first | exact False.elim r | skip
    rename_i a
    cases (show i = a from r)
    cases k' with
    | inl j =>
      cases v' <;> first | exact False.elim r' | skip
      rename_i b
      cases (show j = b from r')
      show decide ((Sum.inl i : Key) = Sum.inl j) = decide (i = j)
      by_cases e : i = j
      · subst e; simp
      · rw [decide_eq_false e]; exact decide_eq_false fun z => e (Sum.inl.inj z)
    | inr t =>
      cases v' <;> first | exact False.elim r' | skip
      exact decide_eq_false (fun q => nomatch q)
  | inr s =>
    cases v <;> first | exact False.elim r | skip
    rename_i a
    obtain ⟨e1, _⟩ : s = ⟨a.toArray⟩ ∧ ∀ c ∈ a, c < 1114112 := r
    subst e1
    cases k' with
    | inl j =>
      cases v' <;> first | exact False.elim r' | skip
      exact decide_eq_false (fun q => nomatch q)
    | inr t =>
      cases v' <;> first | exact False.elim r' | skip
      rename_i b
      obtain ⟨e2, _⟩ : t = ⟨b.toArray⟩ ∧ ∀ c ∈ b, c < 1114112 := r'
      subst e2
      show decide ((Sum.inr (⟨a.toArray⟩ : Str) : Key) = Sum.inr ⟨b.toArray⟩) = decide (a = b)
      by_cases e : a = b
      · subst e; simp
      · rw [decide_eq_false e]; exact decide_eq_false fun z => e (str_inj (Sum.inr.inj z))
theorem rks_get {k : Key} {v : Bc.Val} (rk : RKey k v) : ∀ {ks : List (Key × V)} {vs : List (Bc.Val × Bc.Val)}, RKs K H ks vs →
    (∀ x, Bc.dget vs v = some x → ∃ w, valV ks k = some w ∧ RV K H w x) ∧ (Bc.dget vs v = none → valV ks k = none)
  | _, _, .nil => ⟨fun x e => (nomatch e), fun _ => rfl⟩
  | _, _, .cons (k := k0) (j := j0) r q t => by
    have ih := rks_get rk t
    unfold Bc.dget valV at ih ⊢
    rw [List.find?_cons, List.find?_cons]
    have e := rkey_eq r rk
    by_cases z : k0 = k
    · rw [decide_eq_true z] at e
      rw [← e, decide_eq_true z]
      refine ⟨fun x h => ?_, fun h => ?_⟩
      · cases h
        exact ⟨_, rfl, q⟩
      · cases h
    · rw [decide_eq_false z] at e
      rw [← e, decide_eq_false z]
      exact ih
theorem rks_some {k : Key} {v : Bc.Val} (rk : RKey k v) {ks : List (Key × V)} {vs : List (Bc.Val × Bc.Val)} (r : RKs K H ks vs) : (valV ks k).isSome = (Bc.dget vs v).isSome := by
  have h := rks_get rk r
  cases e : Bc.dget vs v with
  | none => rw [h.2 e]; rfl
  | some x => obtain ⟨w, e2, _⟩ := h.1 x e; rw [e2]; rfl
theorem rks_len : ∀ {ks : List (Key × V)} {vs : List (Bc.Val × Bc.Val)}, RKs K H ks vs → ks.length = vs.length
  | _, _, .nil => rfl
  | _, _, .cons _ _ t => congrArg (· + 1) (rks_len t)
theorem dget_rd {a : Addr} {ks : List (Key × V)} {k : Key} (e : Rd H a (.dK ks)) : DGet H a (kV k) (valV ks k) := .inl ⟨ks, k, e, rfl, rfl⟩
end

section
variable {X : Cx} {T : Tab}
theorem op_cmp (hu : X.A.units + 64 < cLine) (o : Bc.COp) : OpR X (compareOp (opC o)) (R2w T X.K (Bc.wCmp o)) := by
  intro pins s σ H x y v u Q' I rx ry hq
  obtain ⟨a, b, h, Q, R, ra, rb, w, k⟩ := hq
  cases o with
  | lt =>
    cases ra with
    | int i => cases rb with
      | int j => exact op_lt pins s σ H _ _ v u Q' I rx ry ⟨i, j, rfl, rfl, k.here R (.bl _) w⟩
      | _ => exact w.elim
    | _ => exact w.elim
  | le =>
    cases ra with
    | int i => cases rb with
      | int j => exact op_le pins s σ H _ _ v u Q' I rx ry ⟨i, j, rfl, rfl, k.here R (.bl _) w⟩
      | _ => exact w.elim
    | _ => exact w.elim
  | gt =>
    cases ra with
    | int i => cases rb with
      | int j => exact op_gt pins s σ H _ _ v u Q' I rx ry ⟨i, j, rfl, rfl, k.here R (.bl _) w⟩
      | _ => exact w.elim
    | _ => exact w.elim
  | ge =>
    cases ra with
    | int i => cases rb with
      | int j => exact op_ge pins s σ H _ _ v u Q' I rx ry ⟨i, j, rfl, rfl, k.here R (.bl _) w⟩
      | _ => exact w.elim
    | _ => exact w.elim
  | is_ =>
    cases rb with
    | non =>
      refine op_isN pins s σ H _ _ v u Q' I rx ry ⟨rfl, ?_⟩
      have w' : Q (.bool (Bc.isNon a)) h := by cases a <;> exact w
      have e : decide (x = V.non) = Bc.isNon a := by cases ra <;> rfl
      rw [e]
      exact k.here R (.bl _) w'
    | _ => cases ra <;> exact w.elim
  | isnot =>
    cases rb with
    | non =>
      refine op_notN pins s σ H _ _ v u Q' I rx ry ⟨rfl, ?_⟩
      have w' : Q (.bool (!Bc.isNon a)) h := by cases a <;> exact w
      have e : decide (x = V.non) = Bc.isNon a := by cases ra <;> rfl
      rw [e]
      exact k.here R (.bl _) w'
    | _ => cases ra <;> exact w.elim
  | eq =>
    have w : Bc.wEq false a b h Q := by cases a <;> cases b <;> exact w
    unfold Bc.wEq at w
    split at w
    · rename_i d e e1 e2
      obtain ⟨p1, p2, p3⟩ := dat_ok R 8 x a d ra e1
      obtain ⟨q1, q2, q3⟩ := dat_ok R 8 y b e rb e2
      refine op_eqD hu pins s σ H _ _ v u Q' I rx ry ⟨_, _, p1, q1, shaped_of p2 p3, shaped_of q2 q3, ?_⟩
      rw [eqv_py]
      refine k.here R (.bl _) ?_
      simpa using w
    · exact w.elim
  | ne =>
    have w : Bc.wEq true a b h Q := by cases a <;> cases b <;> exact w
    unfold Bc.wEq at w
    split at w
    · rename_i d e e1 e2
      obtain ⟨p1, p2, p3⟩ := dat_ok R 8 x a d ra e1
      obtain ⟨q1, q2, q3⟩ := dat_ok R 8 y b e rb e2
      refine op_neD hu pins s σ H _ _ v u Q' I rx ry ⟨_, _, p1, q1, shaped_of p2 p3, shaped_of q2 q3, ?_⟩
      rw [eqv_py]
      refine k.here R (.bl _) ?_
      simpa using w
    · exact w.elim
  | in_ =>
    have w : Bc.wIn false a b h Q := by cases a <;> cases b <;> exact w
    cases rb with
    | str t ok =>
      unfold Bc.wIn at w
      dsimp only at w
      split at w
      · cases ra with
        | str _ ok2 =>
          refine op_in_sign pins s σ H _ _ v u Q' I rx ry ⟨_, _, rfl, rfl, k.here R (.bl _) ?_⟩
          simpa using w
      · exact w.elim
    | @tup p xs vs hs rs =>
      obtain ⟨w1, w2, w3⟩ := w
      refine op_in_seq pins s σ H _ _ v u Q' I rx ry ⟨p, xs, rfl, .inr hs, flat_of ra w1, flats_of rs w2, ?_⟩
      rw [inF_of ra w1 rs w2]
      refine k.here R (.bl _) ?_
      simpa using w3
    | ref p =>
      unfold Bc.wIn at w
      dsimp only at w
      split at w
      · rename_i vs e1
        obtain ⟨xs, hs, rs⟩ := R.lst e1
        obtain ⟨w1, w2, w3⟩ := w
        refine op_in_seq pins s σ H _ _ v u Q' I rx ry ⟨p, xs, rfl, .inl hs, flat_of ra w1, flats_of rs w2, ?_⟩
        rw [inF_of ra w1 rs w2]
        refine k.here R (.bl _) ?_
        simpa using w3
      · rename_i kvs e1
        obtain ⟨ks, hs, rs⟩ := R.dct e1
        obtain ⟨w1, w2⟩ := w
        obtain ⟨k0, ek, rk⟩ := key_of ra w1
        subst ek
        cases (show u = Value.ref p from ry)
        refine d_in (by omega) I (dget_rd (k := k0) hs) rx fun s' I' => ⟨.bl _, H, I', rfl, ?_⟩
        rw [rks_some rk rs]
        refine k.here R (.bl _) ?_
        simpa using w2
      · exact w.elim
    | _ => exact w.elim
  | notin =>
    have w : Bc.wIn true a b h Q := by cases a <;> cases b <;> exact w
    cases rb with
    | str t ok =>
      unfold Bc.wIn at w
      dsimp only at w
      split at w
      · cases ra with
        | str _ ok2 =>
          refine op_notIn_sign pins s σ H _ _ v u Q' I rx ry ⟨_, _, rfl, rfl, k.here R (.bl _) ?_⟩
          simpa using w
      · exact w.elim
    | @tup p xs vs hs rs =>
      obtain ⟨w1, w2, w3⟩ := w
      refine op_notIn_seq pins s σ H _ _ v u Q' I rx ry ⟨p, xs, rfl, .inr hs, flat_of ra w1, flats_of rs w2, ?_⟩
      rw [inF_of ra w1 rs w2]
      refine k.here R (.bl _) ?_
      simpa using w3
    | ref p =>
      unfold Bc.wIn at w
      dsimp only at w
      split at w
      · rename_i vs e1
        obtain ⟨xs, hs, rs⟩ := R.lst e1
        obtain ⟨w1, w2, w3⟩ := w
        refine op_notIn_seq pins s σ H _ _ v u Q' I rx ry ⟨p, xs, rfl, .inl hs, flat_of ra w1, flats_of rs w2, ?_⟩
        rw [inF_of ra w1 rs w2]
        refine k.here R (.bl _) ?_
        simpa using w3
      · rename_i kvs e1
        obtain ⟨ks, hs, rs⟩ := R.dct e1
        obtain ⟨w1, w2⟩ := w
        obtain ⟨k0, ek, rk⟩ := key_of ra w1
        subst ek
        cases (show u = Value.ref p from ry)
        refine d_notIn (by omega) I (dget_rd (k := k0) hs) rx fun s' I' => ⟨.bl _, H, I', rfl, ?_⟩
        rw [rks_some rk rs]
        refine k.here R (.bl _) ?_
        simpa using w2
      · exact w.elim
    | _ => exact w.elim
end
end Bs
set_option Elab.async false
set_option linter.all false
set_option maxRecDepth 100000
set_option maxHeartbeats 4000000
namespace Bs
open PySem L2

/-- an exception, both ways: its class, the field in its own dict -/
def XR (T : Tab) (K : PySem.W.Frag) (H : Hp) (x : Bc.Exn) (cls : Value) (d : Option Addr) : Prop :=
  cls = .ref (T.ct x.cls) ∧ T.ec x.cls = true ∧ match x.pay with
    | none => d = none
    | some v => ∃ p w, d = some p ∧ H p = some (.xd [(T.pf x.cls, w)]) ∧ RV K H w v
/-- slots -/
structure ER (K : PySem.W.Frag) (H : Hp) (σ : St) (env : Bc.Env) : Prop where
  len : σ.length = env.length
  at_ : ∀ (i : Nat) v, env[i]? = some (some v) → ∃ w, σ[i]? = some (some w) ∧ RV K H w v
def XP (T : Tab) (K : PySem.W.Frag) (E : Bc.XPost) (H : Hp) (h : Bc.Heap) (W : Value → Option Addr → Hp → Prop) : Prop :=
  ∀ x h' H' cls d, E x h' → Rep T K H' h' → Fr H h H' h' → XR T K H' x cls d → W cls d H'
section
variable {T : Tab} {K : PySem.W.Frag} {H H1 : Hp} {h h1 : Bc.Heap} {Q : Bc.Post} {Q' : VK} {E : Bc.XPost} {W : Value → Option Addr → Hp → Prop} {σ : St} {env : Bc.Env}
theorem Post.step (k : Post T K Q H h Q') (f : Fr H h H1 h1) : Post T K Q H1 h1 Q' := fun v h' H' w q R g r => k v h' H' w q R (f.trans g) r
theorem XP.step (k : XP T K E H h W) (f : Fr H h H1 h1) : XP T K E H1 h1 W := fun x h' H' c d e R g r => k x h' H' c d e R (f.trans g) r
theorem ER.fr (e : ER K H σ env) (R : Rep T K H h) (f : Fr H h H1 h1) : ER K H1 σ env := ⟨e.len, fun i v q => let ⟨w, a, b⟩ := e.at_ i v q; ⟨w, a, b.fr R f⟩⟩
theorem ER.set (e : ER K H σ env) {w : V} {v : Bc.Val} (r : RV K H w v) (i : Nat) : ER K H (σ.set i (some w)) (env.set i (some v)) := by
  refine ⟨by rw [List.length_set, List.length_set]; exact e.len, fun j u q => ?_⟩
  by_cases hj : i = j
  · subst hj
    by_cases hl : i < env.length
    · rw [List.getElem?_set_self hl] at q
      cases q
      exact ⟨w, by rw [List.getElem?_set_self (by rw [e.len]; exact hl)], r⟩
    · rw [List.getElem?_eq_none (by rw [List.length_set]; omega)] at q
      cases q
  · rw [List.getElem?_set_ne hj] at q
    obtain ⟨a, b, c⟩ := e.at_ j u q
    exact ⟨a, by rw [List.getElem?_set_ne hj]; exact b, c⟩
theorem ER.unset (e : ER K H σ env) (i : Nat) : ER K H (σ.set i none) (env.set i none) := by
  refine ⟨by rw [List.length_set, List.length_set]; exact e.len, fun j u q => ?_⟩
  by_cases hj : i = j
  · subst hj
    by_cases hl : i < env.length
    · rw [List.getElem?_set_self hl] at q
      cases q
    · rw [List.getElem?_eq_none (by rw [List.length_set]; omega)] at q
      cases q
  · rw [List.getElem?_set_ne hj] at q
    obtain ⟨a, b, c⟩ := e.at_ j u q
    exact ⟨a, by rw [List.getElem?_set_ne hj]; exact b, c⟩
theorem ER.wipe (e : ER K H σ env) : ∀ is : List Nat, ER K H (wipe σ is) (Bc.wipeE env is)
  | [] => e
  | i :: is => by
    unfold L2.wipe Bc.wipeE
    exact (ER.wipe e is).unset i
end

/-- the reading of an expression of the small language -/
def tE (T : Tab) (K : PySem.W.Frag) (Γ : Bc.Ctx) (W : WX) (e : Bc.Exp) : TE := fun σ H Q' =>
  ∃ env h Q E, Rep T K H h ∧ ER K H σ env ∧ Bc.wpE Γ e env h Q E ∧ Post T K Q H h Q' ∧ XP T K E H h (fun c d H' => W c d σ H')
/-- of a list of them -/
def PostA (T : Tab) (K : PySem.W.Frag) (n : Nat) (Q : List Bc.Val → Bc.Heap → Prop) (H : Hp) (h : Bc.Heap) (Q' : List V → Hp → Prop) : Prop :=
  ∀ vs h' H' ws, vs.length = n → Q vs h' → Rep T K H' h' → Fr H h H' h' → RVs K H' ws vs → Q' ws H'
def tA (T : Tab) (K : PySem.W.Frag) (Γ : Bc.Ctx) (W : WX) (es : Bc.Exps) : TA := fun σ H Q' =>
  ∃ env h Q E, Rep T K H h ∧ ER K H σ env ∧ Bc.wpEs Γ es env h Q E ∧ PostA T K es.len Q H h Q' ∧ XP T K E H h (fun c d H' => W c d σ H')
/-- of a test -/
def PostT (T : Tab) (K : PySem.W.Frag) (Q : Bool → Bc.Heap → Prop) (H : Hp) (h : Bc.Heap) (Q' : Bool → Hp → Prop) : Prop :=
  ∀ b h' H', Q b h' → Rep T K H' h' → Fr H h H' h' → Q' b H'
def tT (T : Tab) (K : PySem.W.Frag) (Γ : Bc.Ctx) (W : WX) (t : Bc.Tst) : TT := fun σ H Q' =>
  ∃ env h Q E, Rep T K H h ∧ ER K H σ env ∧ Bc.wpT Γ t env h Q E ∧ PostT T K Q H h Q' ∧ XP T K E H h (fun c d H' => W c d σ H')
theorem PostA.step {T : Tab} {K : PySem.W.Frag} {n : Nat} {Q : List Bc.Val → Bc.Heap → Prop} {H H1 : Hp} {h h1 : Bc.Heap} {Q' : List V → Hp → Prop} (k : PostA T K n Q H h Q') (f : Fr H h H1 h1) : PostA T K n Q H1 h1 Q' := fun v h' H' w l q R g r => k v h' H' w l q R (f.trans g) r
theorem PostT.step {T : Tab} {K : PySem.W.Frag} {Q : Bool → Bc.Heap → Prop} {H H1 : Hp} {h h1 : Bc.Heap} {Q' : Bool → Hp → Prop} (k : PostT T K Q H h Q') (f : Fr H h H1 h1) : PostT T K Q H1 h1 Q' := fun b h' H' q R g => k b h' H' q R (f.trans g)

theorem _root_.L2.PE.imp {X : Cx} {e : Expr} {t t' : TE} (p : PE X e t) (f : ∀ σ H Q, t' σ H Q → t σ H Q) : PE X e t' := ⟨fun pins s σ H Q I h => p.run pins s σ H Q I (f σ H Q h)⟩
theorem _root_.L2.PA.imp {X : Cx} {e : List Expr} {t t' : TA} (p : PA X e t) (f : ∀ σ H Q, t' σ H Q → t σ H Q) : PA X e t' := ⟨fun pos pins s σ H Q I h => p.run pos pins s σ H Q I (f σ H Q h)⟩
theorem _root_.L2.PT.imp {X : Cx} {e : Expr} {t t' : TT} (p : PT X e t) (f : ∀ σ H Q, t' σ H Q → t σ H Q) : PT X e t' := ⟨fun pins s σ H Q I h => p.run pins s σ H Q I (f σ H Q h)⟩
theorem _root_.L2.PW.imp {X : Cx} {e : Expr} {t t' : TT} (p : PW X e t) (f : ∀ σ H Q, t' σ H Q → t σ H Q) : PW X e t' := ⟨fun wh pins s σ H Q I h => p.run wh pins s σ H Q I (f σ H Q h)⟩
theorem _root_.L2.PS.imp {X : Cx} {e : Stmt} {t t' : TS} (p : PS X e t) (f : ∀ D σ H, t' D σ H → t D σ H) : PS X e t' := ⟨fun pins s σ H D I h => p.run pins s σ H D I (f D σ H h)⟩
theorem _root_.L2.PSs.imp {X : Cx} {e : List Stmt} {t t' : TS} (p : PSs X e t) (f : ∀ D σ H, t' D σ H → t D σ H) : PSs X e t' := ⟨fun pins s σ H D I h => p.run pins s σ H D I (f D σ H h)⟩

section
variable {X : Cx} {T : Tab} {Γ : Bc.Ctx} {W : WX} {a b c : Expr} {ea eb ec : Bc.Exp} {pos : Pos} {es : List Expr} {ees : Bc.Exps} {t u : Bc.Tst}

/-- two after one another -/
theorem two {r : R2} {f : Bc.Val → Bc.Val → Bc.Heap → Bc.Post → Prop} {σ : St} {H : Hp} {Q' : VK}
    (q : ∃ env h Q E, Rep T X.K H h ∧ ER X.K H σ env ∧ Bc.wpE Γ ea env h (fun x h => Bc.wpE Γ eb env h (fun y h => f x y h Q) E) E ∧ Post T X.K Q H h Q' ∧ XP T X.K E H h (fun c d H' => W c d σ H'))
    (hr : ∀ x y H Q', R2w T X.K f x y H Q' → r x y H Q') : tOp r (tE T X.K Γ W ea) (tE T X.K Γ W eb) σ H Q' := by
  obtain ⟨env, h, Q, E, R, S, w, k, kx⟩ := q
  refine ⟨env, h, _, E, R, S, w, fun v h1 H1 x q1 R1 f1 r1 => ?_, kx⟩
  refine ⟨env, h1, _, E, R1, S.fr R f1, q1, fun v2 h2 H2 y q2 R2' f2 r2 => ?_, kx.step f1⟩
  exact hr _ _ _ _ ⟨v, v2, h2, Q, R2', r1.fr R1 f2, r2, q2, k.step (f1.trans f2)⟩

theorem e_var {i : Nat} {x : Str} (hN : X.N[i]? = some x) (hv : Vis X.env.scope x) (hd : (x == ("__debug__" : Str)) = false) (hcd : (x == ("__classdict__" : Str)) = false) : PE X (.Name x pos) (tE T X.K Γ W (.var i)) :=
  (pe_var hN hv hd hcd).imp fun σ H Q' ⟨env, h, Q, E, R, S, w, k, kx⟩ => by
    simp only [Bc.wpE] at w
    obtain ⟨v, e, w⟩ := Bc.onSome_of w
    obtain ⟨x, e2, r⟩ := S.at_ i v (Option.join_eq_some_iff.mp e)
    exact ⟨x, e2, k.here R r w⟩
theorem e_lit {cst : PySem.Const} {kk : Nat} {v : Bc.Val} {x : V} (p : PE X (.Constant cst kk pos) (tC x)) (r : ∀ H, RV X.K H x v) : PE X (.Constant cst kk pos) (tE T X.K Γ W (.lit v)) :=
  p.imp fun σ H Q' ⟨env, h, Q, E, R, S, w, k, kx⟩ => k.here R (r H) (by simpa [Bc.wpE] using w)
theorem e_glob {g : Nat} {x : Str} {v : Bc.Val} {w0 : V} (hv : Γ.glob g = some v) (p : PE X (.Name x pos) (tC w0)) (r : ∀ H, RV X.K H w0 v) : PE X (.Name x pos) (tE T X.K Γ W (.glob g)) :=
  p.imp fun σ H Q' ⟨env, h, Q, E, R, S, w, k, kx⟩ => by
    simp only [Bc.wpE, hv, Bc.onSome_some] at w
    exact k.here R (r H) w
theorem e_bin {o : Bc.BOp} (ha : PE X a (tE T X.K Γ W ea)) (hb : PE X b (tE T X.K Γ W eb)) : PE X (.BinOp a (opO o) b pos) (tE T X.K Γ W (.bin o ea eb)) :=
  (pe_op (op_bin (T := T) o) ha hb).imp fun σ H Q' ⟨env, h, Q, E, R, S, w, k, kx⟩ =>
    two (f := Bc.wBin o) ⟨env, h, Q, E, R, S, by simpa only [Bc.wpE] using w, k, kx⟩ fun _ _ _ _ z => z
theorem e_cmp {o : Bc.COp} (hu : X.A.units + 64 < cLine) (ha : PE X a (tE T X.K Γ W ea)) (hb : PE X b (tE T X.K Γ W eb)) (hm : behindInMarks (opC o) b = false) : PE X (.Compare a [opC o] [b] pos) (tE T X.K Γ W (.cmp o ea eb)) :=
  (pe_cmpR (op_cmp (T := T) hu o) ha hb hm).imp fun σ H Q' ⟨env, h, Q, E, R, S, w, k, kx⟩ =>
    two (f := Bc.wCmp o) ⟨env, h, Q, E, R, S, by simpa only [Bc.wpE] using w, k, kx⟩ fun _ _ _ _ z => z
theorem t_cmp {o : Bc.COp} (hu : X.A.units + 64 < cLine) (ha : PE X a (tE T X.K Γ W ea)) (hb : PE X b (tE T X.K Γ W eb)) (hm : behindInMarks (opC o) b = false) : PT X (.Compare a [opC o] [b] pos) (tT T X.K Γ W (.cmp o ea eb)) :=
  (pt_cmpR (op_cmp (T := T) hu o) ha hb hm).imp fun σ H Q' ⟨env, h, Q, E, R, S, w, k, kx⟩ => by
    refine two (f := Bc.wCmp o) (Q' := fun x H' => ∃ k, x = .bl k ∧ Q' k H') ⟨env, h, (fun r h => Bc.onB r fun c => Q c h), E, R, S, by simpa only [Bc.wpT] using w, ?_, kx⟩ fun _ _ _ _ z => z
    intro v h' H' w q R' f r
    cases r <;> first | exact q.elim | skip
    rename_i b
    exact ⟨b, rfl, k b h' H' q R' f⟩
/-- a op b op2 c -/
theorem chain3 {o o2 : Bc.COp} {σ : St} {H : Hp} {Q' : VK} {Q2 : Bc.Post} {Q3 : Bool → Bc.Heap → Prop}
    (q : ∃ env h E, Rep T X.K H h ∧ ER X.K H σ env ∧ Bc.wpE Γ ea env h (fun x h => Bc.wpE Γ eb env h (fun y h => Bc.wCmp o x y h fun r h => Bc.onB r fun r => Bc.ifC r (Bc.wpE Γ ec env h (fun z h => Bc.wCmp o2 y z h Q2) E) (Q3 false h)) E) E ∧ Post T X.K Q2 H h Q' ∧ (∀ h' H', Q3 false h' → Rep T X.K H' h' → Fr H h H' h' → Q' (.bl false) H') ∧ XP T X.K E H h (fun c d H' => W c d σ H')) :
    tChain (R2w T X.K (Bc.wCmp o)) (R2w T X.K (Bc.wCmp o2)) (tE T X.K Γ W ea) (tE T X.K Γ W eb) (tE T X.K Γ W ec) σ H Q' := by
  obtain ⟨env, h, E, R, S, w, k, k3, kx⟩ := q
  refine ⟨env, h, _, E, R, S, w, fun v h1 H1 x q1 R1 f1 r1 => ?_, kx⟩
  refine ⟨env, h1, _, E, R1, S.fr R f1, q1, fun v2 h2 H2 y q2 R2' f2 r2 => ?_, kx.step f1⟩
  refine ⟨v, v2, h2, _, R2', r1.fr R1 f2, r2, q2, fun v3 h3 H3 z q3 R3 f3 r3 => ?_⟩
  cases r3 <;> first | exact q3.elim | skip
  rename_i bb
  refine ⟨bb, rfl, ?_⟩
  have ff := (f1.trans f2).trans f3
  cases bb with
  | false => exact k3 h3 H3 q3 R3 ff
  | true =>
    refine ⟨env, h3, _, E, R3, S.fr R ff, q3, fun v4 h4 H4 z4 q4 R4 f4 r4 => ?_, kx.step ff⟩
    exact ⟨v2, v4, h4, Q2, R4, (r2.fr R2' f3).fr R3 f4, r4, q4, k.step (ff.trans f4)⟩
end
end Bs
set_option Elab.async false
set_option linter.all false
set_option maxRecDepth 100000
set_option maxHeartbeats 4000000
namespace Bs
open PySem L2 PyProof.Rows

section
variable {T : Tab} {K : PySem.W.Frag} {H : Hp} {h : Bc.Heap}
theorem ixOf_eq (i : Int) (n : Nat) : Bc.ixOf i n = ixN n i := rfl
theorem atI_of {α : Type} {xs : List α} {i : Int} {k : Nat} {v : α} (h1 : Bc.ixOf i xs.length = some k) (h2 : xs[k]? = some v) : atI xs i = some v := by
  unfold atI
  rw [← ixOf_eq, h1]
  exact h2
theorem clip_eq (n d : Nat) (o : Option Int) : Bc.clip n d o = HT.sIx n d o := by cases o <;> rfl
theorem cutL_eq (xs : List V) (lo hi : Option Int) : Bc.cutL xs lo hi = cutV xs lo hi := by
  unfold Bc.cutL cutV
  rw [clip_eq, clip_eq]
theorem RVs.cut {xs : List V} {vs : List Bc.Val} (r : RVs K H xs vs) (lo hi : Option Int) : RVs K H (cutV xs lo hi) (Bc.cutL vs lo hi) := by
  rw [← cutL_eq]
  unfold Bc.cutL
  rw [r.length]
  exact (r.drop _).take _
theorem cutS_eq (s : List Nat) (lo hi : Option Int) : cutS ⟨s.toArray⟩ lo hi = ⟨(Bc.cutL s lo hi).toArray⟩ := by
  unfold cutS Bc.cutL
  rw [clip_eq, clip_eq, str_len]
theorem cutL_mem {α : Type} {xs : List α} {lo hi : Option Int} {c : α} (h : c ∈ Bc.cutL xs lo hi) : c ∈ xs := List.mem_of_mem_drop (List.mem_of_mem_take h)
end

section
variable {X : Cx} {T : Tab} {Γ : Bc.Ctx} {W : WX} {a b c : Expr} {ea eb ec : Bc.Exp} {pos p2 : Pos} {es : List Expr} {ees : Bc.Exps} {t u : Bc.Tst}

theorem ix_any (hu : X.A.units + 64 < cLine) : IxR X (R2w T X.K Bc.wSub) := by
  intro value slice pins s σ H x y v u Q' I rx ry hq hs
  obtain ⟨a, b, h, Q, R, ra, rb, w, k⟩ := hq
  cases ra with
  | @tup p xs vs hp rp =>
    cases rb with
    | int i =>
      unfold Bc.wSub at w
      dsimp only at w
      split at w
      · rename_i j e1
        split at w
        · rename_i z e2
          obtain ⟨q, eq, rq⟩ := rp.get e2
          exact ix_tup value slice pins s σ H _ _ v u Q' I rx ry ⟨p, xs, i, q, rfl, rfl, hp, atI_of (by rw [rp.length]; exact e1) eq, k.here R rq w⟩ hs
        · exact w.elim
      · exact w.elim
    | _ => exact w.elim
  | str s ok =>
    cases rb with
    | int i =>
      unfold Bc.wSub at w
      dsimp only at w
      obtain ⟨w0, w⟩ := w
      split at w
      · rename_i j e1
        split at w
        · rename_i z e2
          refine ix_str value slice pins _ σ H _ _ v u Q' I rx ry ⟨_, i, z, rfl, rfl, by rw [str_len, ← sz]; exact w0, atI_of (xs := s) e1 e2, k.here R (.str [z] ?_) w⟩ hs
          intro c hc
          rw [List.mem_singleton] at hc
          subst hc
          exact ok _ (List.mem_of_getElem? e2)
        · exact w.elim
      · exact w.elim
    | _ => exact w.elim
  | ref p =>
    unfold Bc.wSub at w
    dsimp only at w
    split at w
    · rename_i vs i e0
      obtain ⟨xs, hp, rp⟩ := R.lst e0
      cases rb
      split at w
      · rename_i j e1
        split at w
        · rename_i z e2
          obtain ⟨q, eq, rq⟩ := rp.get e2
          exact ix_list value slice pins s σ H _ _ v u Q' I rx ry ⟨p, xs, i, q, rfl, rfl, hp, atI_of (by rw [rp.length]; exact e1) eq, k.here R rq w⟩ hs
        · exact w.elim
      · exact w.elim
    · rename_i kvs kk e0
      obtain ⟨ks, hp, rp⟩ := R.dct e0
      obtain ⟨w1, w⟩ := w
      obtain ⟨k0, ek, rk⟩ := key_of rb w1
      subst ek
      cases (show v = Value.ref p from rx)
      split at w
      · rename_i z e1
        obtain ⟨q, eq, rq⟩ := (rks_get rk rp).1 z e1
        have g : DGet H p (kV k0) (some q) := by rw [← eq]; exact dget_rd hp
        exact tail_any (dict_typeIs I g) PySem.F.slot_dict_getitem.lookup (d_getItem (by omega) I g ry fun w' s' I' rw' => ⟨q, H, I', rw', k.here R rq w⟩) hs
      · exact w.elim
    · exact w.elim
  | _ => exact w.elim
theorem e_sub (hu : X.A.units + 64 < cLine) (ha : PE X a (tE T X.K Γ W ea)) (hb : PE X b (tE T X.K Γ W eb)) (hs : PlainIx b) : PE X (.Subscript a b pos) (tE T X.K Γ W (.sub ea eb)) :=
  (pe_ix (ix_any (T := T) hu) ha hb hs).imp fun σ H Q' ⟨env, h, Q, E, R, S, w, k, kx⟩ =>
    two (f := Bc.wSub) ⟨env, h, Q, E, R, S, by simpa only [Bc.wpE] using w, k, kx⟩ fun _ _ _ _ z => z

def rSl (T : Tab) (K : PySem.W.Frag) : V → Option Int → Option Int → Hp → VK → Prop := fun x lo hi H Q' => ∃ v h Q, Rep T K H h ∧ RV K H x v ∧ Bc.wSlice lo hi v h Q ∧ Post T K Q H h Q'
theorem sl_any : SlR X (rSl T X.K) := by
  intro pins s σ H x v vl vu lo hi sl Q' I rx hs pl pu hq
  obtain ⟨a, h, Q, R, ra, w, k⟩ := hq
  cases ra with
  | str s0 ok =>
    obtain ⟨w0, w⟩ := w
    refine sl_str pins s σ H _ v vl vu lo hi sl Q' I rx hs pl pu ⟨_, rfl, by rw [str_len, ← sz]; exact w0, ?_⟩
    rw [cutS_eq]
    exact k.here R (.str _ fun c hc => ok c (cutL_mem hc)) w
  | @tup p xs vs hp rp =>
    refine sl_tupA pins s σ H _ v vl vu lo hi sl Q' I rx hs pl pu ⟨p, xs, rfl, hp, fun e => ?_, fun _ => ?_⟩
    · have e2 : cutV xs lo hi = xs := by
        unfold cutV
        rw [e.1, e.2, List.drop_zero, Nat.sub_zero, List.take_length]
      refine k.here R (.tup hp ?_) w
      have := rp.cut lo hi
      rw [e2] at this
      exact this
    · exact k.tup R (rp.cut lo hi) w
  | ref p =>
    obtain ⟨vs, e, w⟩ := Bc.onLst_of (show Bc.onLst (Bc.rd h p) _ from w)
    obtain ⟨xs, hp, rp⟩ := R.lst e
    exact sl_list pins s σ H _ v vl vu lo hi sl Q' I rx hs pl pu ⟨p, xs, rfl, hp, k.lst R (rp.cut lo hi) w⟩
  | _ => exact w.elim
/-- a bound of a slice, an int -/
theorem bound {σ : L2.St} {H : Hp} {env : Bc.Env} {h : Bc.Heap} {E : Bc.XPost} {QI : Int → Bc.Heap → Prop} {P : Option Int → Hp → Prop} (R : Rep T X.K H h) (S : ER X.K H σ env)
    (w : Bc.wpE Γ ea env h (fun k h => Bc.onI k fun i => QI i h) E) (kx : XP T X.K E H h (fun c d H' => W c d σ H')) (hp : ∀ i h' H', QI i h' → Rep T X.K H' h' → Fr H h H' h' → P (some i) H') : tPart (tE T X.K Γ W ea) σ H P := by
  refine ⟨env, h, _, E, R, S, w, fun v h' H' x q R' f r => ?_, kx⟩
  obtain ⟨i, rfl, q⟩ := Bc.onI_of q
  cases r
  exact ⟨i, rfl, hp i h' H' q R' f⟩
theorem e_slF (ha : PE X a (tE T X.K Γ W ea)) (hb : PE X b (tE T X.K Γ W eb)) : PE X (.Subscript a (.Slice (some b) none none p2) pos) (tE T X.K Γ W (.slF ea eb)) :=
  (pe_slice (sl_any (T := T)) ha (po_some hb) po_none).imp fun σ H Q' ⟨env, h, Q, E, R, S, w, k, kx⟩ => by
    simp only [Bc.wpE] at w
    refine ⟨env, h, _, E, R, S, w, fun v h1 H1 x q1 R1 f1 r1 => ?_, kx⟩
    exact bound R1 (S.fr R f1) q1 (kx.step f1) fun i h2 H2 q2 R2' f2 => ⟨v, h2, Q, R2', r1.fr R1 f2, q2, k.step (f1.trans f2)⟩
theorem e_slT (ha : PE X a (tE T X.K Γ W ea)) (hb : PE X b (tE T X.K Γ W eb)) : PE X (.Subscript a (.Slice none (some b) none p2) pos) (tE T X.K Γ W (.slT ea eb)) :=
  (pe_slice (sl_any (T := T)) ha po_none (po_some hb)).imp fun σ H Q' ⟨env, h, Q, E, R, S, w, k, kx⟩ => by
    simp only [Bc.wpE] at w
    refine ⟨env, h, _, E, R, S, w, fun v h1 H1 x q1 R1 f1 r1 => ?_, kx⟩
    show tPart (tE T X.K Γ W eb) σ H1 (fun u H3 => rSl T X.K x none u H3 Q')
    exact bound R1 (S.fr R f1) q1 (kx.step f1) fun i h2 H2 q2 R2' f2 => ⟨v, h2, Q, R2', r1.fr R1 f2, q2, k.step (f1.trans f2)⟩
theorem e_slB (ha : PE X a (tE T X.K Γ W ea)) (hb : PE X b (tE T X.K Γ W eb)) (hc : PE X c (tE T X.K Γ W ec)) : PE X (.Subscript a (.Slice (some b) (some c) none p2) pos) (tE T X.K Γ W (.slB ea eb ec)) :=
  (pe_slice (sl_any (T := T)) ha (po_some hb) (po_some hc)).imp fun σ H Q' ⟨env, h, Q, E, R, S, w, k, kx⟩ => by
    simp only [Bc.wpE] at w
    refine ⟨env, h, _, E, R, S, w, fun v h1 H1 x q1 R1 f1 r1 => ?_, kx⟩
    refine bound R1 (S.fr R f1) q1 (kx.step f1) fun i h2 H2 q2 R2' f2 => ?_
    have f := f1.trans f2
    exact bound R2' (S.fr R f) q2 (kx.step f) fun j h3 H3 q3 R3 f3 => ⟨v, h3, Q, R3, (r1.fr R1 f2).fr R2' f3, q3, k.step (f.trans f3)⟩

/-! ### lists of expressions -/
theorem a_nil : PA X [] (tA T X.K Γ W .nil) := pa_nil.imp fun σ H Q' ⟨env, h, Q, E, R, S, w, k, kx⟩ => k [] h H [] rfl (by simpa [Bc.wpEs] using w) R .refl .nil
theorem a_cons (ha : PE X a (tE T X.K Γ W ea)) (hr : PA X es (tA T X.K Γ W ees)) (hs : starEach (a :: es) X.env = (false, eval a X.env) :: starEach es X.env) : PA X (a :: es) (tA T X.K Γ W (.cons ea ees)) :=
  (pa_cons ha hr hs).imp fun σ H Q' ⟨env, h, Q, E, R, S, w, k, kx⟩ => by
    simp only [Bc.wpEs] at w
    refine ⟨env, h, _, E, R, S, w, fun v h1 H1 x q1 R1 f1 r1 => ?_, kx⟩
    refine ⟨env, h1, _, E, R1, S.fr R f1, q1, fun vs h2 H2 xs l q2 R2' f2 r2 => ?_, kx.step f1⟩
    exact k (v :: vs) h2 H2 (x :: xs) (by rw [List.length_cons, l]; rfl) q2 R2' (f1.trans f2) (.cons (r1.fr R1 f2) r2)
/-- behind the arguments -/
theorem args {F : List Bc.Val → Bc.Heap → Prop} {G : List V → Hp → Prop} {σ : L2.St} {H : Hp} {env : Bc.Env} {h : Bc.Heap} {E : Bc.XPost} (R : Rep T X.K H h) (S : ER X.K H σ env) (w : Bc.wpEs Γ ees env h F E)
    (kx : XP T X.K E H h (fun c d H' => W c d σ H')) (hp : ∀ vs h' H' ws, vs.length = ees.len → F vs h' → Rep T X.K H' h' → Fr H h H' h' → RVs X.K H' ws vs → G ws H') : tA T X.K Γ W ees σ H G := ⟨env, h, F, E, R, S, w, hp, kx⟩
theorem e_tup {kk : Nat} (h : PA X es (tA T X.K Γ W ees)) (hn : ees.len ≤ 1000) : PE X (.Tuple es kk pos) (tE T X.K Γ W (.tup ees)) :=
  (pe_tup h).imp fun σ H Q' ⟨env, h, Q, E, R, S, w, k, kx⟩ => by
    simp only [Bc.wpE] at w
    refine args R S w kx fun vs h1 H1 ws l q R1 f1 r1 => ⟨?_, (k.step f1).tup R1 r1 q⟩
    rw [r1.length, l, sizeLine_eq]; omega
theorem e_lst (h : PA X es (tA T X.K Γ W ees)) (hn : ees.len ≤ 1000) : PE X (.List es pos) (tE T X.K Γ W (.lst ees)) :=
  (pe_lst h).imp fun σ H Q' ⟨env, h, Q, E, R, S, w, k, kx⟩ => by
    simp only [Bc.wpE] at w
    refine args R S w kx fun vs h1 H1 ws l q R1 f1 r1 => ⟨?_, (k.step f1).lst R1 r1 q⟩
    rw [r1.length, l, sizeLine_eq]; omega
theorem e_dct : PE X (.Dict [] [] pos) (tE T X.K Γ W (.dct .nil)) :=
  pe_dnewK.imp fun σ H Q' ⟨env, h, Q, E, R, S, w, k, kx⟩ => by
    simp only [Bc.wpE] at w
    exact fun p hp => k _ _ _ _ (w.2 p (R.none_of hp)) (R.new hp (.pl (.dct .nil))) (Fr.new R hp) (.ref p)

/-! ### truth and conditions -/
theorem e_not (ha : PE X a (tE T X.K Γ W ea)) : PE X (.UnaryOp .Not a pos) (tE T X.K Γ W (.not_ ea)) :=
  (pe_not ha).imp fun σ H Q' ⟨env, h, Q, E, R, S, w, k, kx⟩ => by
    simp only [Bc.wpE] at w
    refine ⟨env, h, _, E, R, S, w, fun v h1 H1 x q R1 f1 r1 => ?_, kx⟩
    obtain ⟨c, rfl, q⟩ := Bc.onB_of q
    cases r1
    exact ⟨c, rfl, k _ _ _ _ q R1 f1 (.bl _)⟩
theorem e_and {rest : List Expr} {b : Expr} (ha : PE X a (tE T X.K Γ W ea)) (hb : PE X (.BoolOp .And (b :: rest) pos) (tE T X.K Γ W eb)) : PE X (.BoolOp .And (a :: b :: rest) pos) (tE T X.K Γ W (.and_ ea eb)) :=
  (pe_and ha hb).imp fun σ H Q' ⟨env, h, Q, E, R, S, w, k, kx⟩ => by
    simp only [Bc.wpE] at w
    refine ⟨env, h, _, E, R, S, w, fun v h1 H1 x q R1 f1 r1 => ?_, kx⟩
    obtain ⟨c, rfl, q⟩ := Bc.onB_of q
    cases r1
    refine ⟨c, rfl, ?_⟩
    cases c with
    | true => exact ⟨env, h1, Q, E, R1, S.fr R f1, q, k.step f1, kx.step f1⟩
    | false => exact k _ _ _ _ q R1 f1 (.bl _)
theorem e_or {rest : List Expr} {b : Expr} (ha : PE X a (tE T X.K Γ W ea)) (hb : PE X (.BoolOp .Or (b :: rest) pos) (tE T X.K Γ W eb)) : PE X (.BoolOp .Or (a :: b :: rest) pos) (tE T X.K Γ W (.or_ ea eb)) :=
  (pe_or ha hb).imp fun σ H Q' ⟨env, h, Q, E, R, S, w, k, kx⟩ => by
    simp only [Bc.wpE] at w
    refine ⟨env, h, _, E, R, S, w, fun v h1 H1 x q R1 f1 r1 => ?_, kx⟩
    obtain ⟨c, rfl, q⟩ := Bc.onB_of q
    cases r1
    refine ⟨c, rfl, ?_⟩
    cases c with
    | true => exact k _ _ _ _ q R1 f1 (.bl _)
    | false => exact ⟨env, h1, Q, E, R1, S.fr R f1, q, k.step f1, kx.step f1⟩
theorem e_one {op : BoolOp} (ha : PE X a (tE T X.K Γ W ea)) : PE X (.BoolOp op [a] pos) (tE T X.K Γ W ea) := pe_one ha
theorem e_ite (ht : PT X c (tT T X.K Γ W t)) (ha : PE X a (tE T X.K Γ W ea)) (hb : PE X b (tE T X.K Γ W eb)) : PE X (.IfExp c a b pos) (tE T X.K Γ W (.ite t ea eb)) :=
  (pe_ifExp ht ha hb).imp fun σ H Q' ⟨env, h, Q, E, R, S, w, k, kx⟩ => by
    simp only [Bc.wpE] at w
    refine ⟨env, h, _, E, R, S, w, fun c h1 H1 q R1 f1 => ?_, kx⟩
    cases c with
    | true => exact ⟨env, h1, Q, E, R1, S.fr R f1, q, k.step f1, kx.step f1⟩
    | false => exact ⟨env, h1, Q, E, R1, S.fr R f1, q, k.step f1, kx.step f1⟩
theorem e_cmp2 {o o2 : Bc.COp} (hu : X.A.units + 64 < cLine) (ha : PE X a (tE T X.K Γ W ea)) (hb : PE X b (tE T X.K Γ W eb)) (hc : PE X c (tE T X.K Γ W ec)) (hm : lastMarks [opC o, opC o2] [b, c] = false) :
    PE X (.Compare a [opC o, opC o2] [b, c] pos) (tE T X.K Γ W (.cmp2 o o2 ea eb ec)) :=
  (pe_chain (op_cmp (T := T) hu o) (op_cmp (T := T) hu o2) ha hb hc hm).imp fun σ H Q' ⟨env, h, Q, E, R, S, w, k, kx⟩ =>
    chain3 (Q2 := Q) (Q3 := fun b h => Q (.bool b) h) ⟨env, h, E, R, S, by simpa only [Bc.wpE] using w, k, fun h' H' q R' f => k _ _ _ _ q R' f (.bl _), kx⟩
theorem t_cmp2 {o o2 : Bc.COp} (hu : X.A.units + 64 < cLine) (ha : PE X a (tE T X.K Γ W ea)) (hb : PE X b (tE T X.K Γ W eb)) (hc : PE X c (tE T X.K Γ W ec)) (hm : lastMarks [opC o, opC o2] [b, c] = false) :
    PT X (.Compare a [opC o, opC o2] [b, c] pos) (tT T X.K Γ W (.cmp2 o o2 ea eb ec)) :=
  (pt_chain (op_cmp (T := T) hu o) (op_cmp (T := T) hu o2) ha hb hc hm).imp fun σ H Q' ⟨env, h, Q, E, R, S, w, k, kx⟩ => by
    refine chain3 (Q' := fun x H' => ∃ k, x = .bl k ∧ Q' k H') (Q2 := fun r h => Bc.onB r fun c => Q c h) (Q3 := Q) ⟨env, h, E, R, S, by simpa only [Bc.wpT] using w, ?_, fun h' H' q R' f => ⟨false, rfl, k _ _ _ q R' f⟩, kx⟩
    intro v h' H' w q R' f r
    obtain ⟨c, rfl, q⟩ := Bc.onB_of q
    cases r
    exact ⟨c, rfl, k c h' H' q R' f⟩
theorem t_not (ht : PT X a (tT T X.K Γ W t)) : PT X (.UnaryOp .Not a pos) (tT T X.K Γ W (.not_ t)) :=
  (pt_not ht).imp fun σ H Q' ⟨env, h, Q, E, R, S, w, k, kx⟩ => by
    simp only [Bc.wpT] at w
    exact ⟨env, h, _, E, R, S, w, fun c h1 H1 q R1 f1 => k _ _ _ q R1 f1, kx⟩
theorem t_tru (ha : PE X a (tE T X.K Γ W ea)) (he : ∀ whole, isTrue a X.env whole = (do let v ← whole; standAt a.pos; holding [v] (truthy v))) : PT X a (tT T X.K Γ W (.tru ea)) :=
  (pt_truth ha he).imp fun σ H Q' ⟨env, h, Q, E, R, S, w, k, kx⟩ => by
    simp only [Bc.wpT] at w
    refine ⟨env, h, _, E, R, S, w, fun v h1 H1 x q R1 f1 r1 => ?_, kx⟩
    cases r1 with
    | non => exact ⟨false, rfl, k _ _ _ q R1 f1⟩
    | bl b => exact ⟨b, rfl, k _ _ _ q R1 f1⟩
    | int i => exact ⟨_, rfl, k _ _ _ q R1 f1⟩
    | str s ok =>
      obtain ⟨q0, q⟩ := q
      refine ⟨_, ⟨by rw [str_len, ← sz]; exact q0, rfl⟩, ?_⟩
      have e : (((⟨s.toArray⟩ : Str).length : Int) != 0) = !s.isEmpty := by
        rw [str_len]
        cases s with
        | nil => rfl
        | cons c r =>
        simp
        omega
      rw [e]
      exact k _ _ _ q R1 f1
    | @tup p xs vs hp rp =>
      refine ⟨_, .inr (.inl ⟨xs, hp, rfl⟩), ?_⟩
      have e : (!xs.isEmpty) = !vs.isEmpty := by cases rp <;> rfl
      rw [e]
      exact k _ _ _ q R1 f1
    | ref p =>
      unfold Bc.wTru at q
      dsimp only at q
      split at q
      · rename_i vs e0
        obtain ⟨xs, hp, rp⟩ := R1.lst e0
        refine ⟨_, .inl ⟨xs, hp, rfl⟩, ?_⟩
        have e : (!xs.isEmpty) = !vs.isEmpty := by cases rp <;> rfl
        rw [e]
        exact k _ _ _ q R1 f1
      · exact q.elim
theorem w_one_and (ha : PT X a (tT T X.K Γ W t)) : PW X (.BoolOp .And [a] pos) (tT T X.K Γ W t) := pw_and1 ha
theorem w_one_or (ha : PT X a (tT T X.K Γ W t)) : PW X (.BoolOp .Or [a] pos) (tT T X.K Γ W t) := pw_or1 ha
theorem w_and {rest : List Expr} (ha : PT X a (tT T X.K Γ W t)) (hb : PW X (.BoolOp .And (b :: rest) pos) (tT T X.K Γ W u)) : PW X (.BoolOp .And (a :: b :: rest) pos) (tT T X.K Γ W (.and_ t u)) :=
  (pw_and ha hb).imp fun σ H Q' ⟨env, h, Q, E, R, S, w, k, kx⟩ => by
    simp only [Bc.wpT] at w
    refine ⟨env, h, _, E, R, S, w, fun c h1 H1 q R1 f1 => ?_, kx⟩
    cases c with
    | true => exact ⟨env, h1, Q, E, R1, S.fr R f1, q, k.step f1, kx.step f1⟩
    | false => exact k _ _ _ q R1 f1
theorem w_or {rest : List Expr} (ha : PT X a (tT T X.K Γ W t)) (hb : PW X (.BoolOp .Or (b :: rest) pos) (tT T X.K Γ W u)) : PW X (.BoolOp .Or (a :: b :: rest) pos) (tT T X.K Γ W (.or_ t u)) :=
  (pw_or ha hb).imp fun σ H Q' ⟨env, h, Q, E, R, S, w, k, kx⟩ => by
    simp only [Bc.wpT] at w
    refine ⟨env, h, _, E, R, S, w, fun c h1 H1 q R1 f1 => ?_, kx⟩
    cases c with
    | true => exact k _ _ _ q R1 f1
    | false => exact ⟨env, h1, Q, E, R1, S.fr R f1, q, k.step f1, kx.step f1⟩
end
end Bs
set_option Elab.async false
set_option linter.all false
set_option maxRecDepth 100000
set_option maxHeartbeats 4000000
namespace Bs
open PySem L2 PyProof.Rows

/-- a def's promise, by the small language's spec -/
def spM (T : Tab) (K : PySem.W.Frag) (n : Nat) (sp : Bc.Spec) : Sp := fun vs H Q' E' =>
  ∃ args h Q E, Rep T K H h ∧ RVs K H vs args ∧ args.length = n ∧ sp args h Q E ∧ Post T K Q H h Q' ∧ XP T K E H h E'

/-- what is known of a def that may be called -/
structure FnF (P : Program) (w : World) (K : PySem.W.Frag) (mg : Str → Option Value) (base : Heap) (T : Tab) (k : Nat) (x : Str) (sp : Bc.Spec) : Prop where
  ex : ∃ (f : Addr) (fd : FuncData) (ps : List Str) (j n : Nat), mg x = some (.ref f) ∧ PySem.W.keepIn K (.ref f) = true ∧ Binds K fd ps [] ∧ j ≤ k ∧
    FnOk P w K mg base (L2.CX P w) j f fd ps (spM T K n sp) ∧ ∀ vs h Q E, sp vs h Q E → vs.length = n
/-- a method -/
structure MeF (P : Program) (w : World) (K : PySem.W.Frag) (mg : Str → Option Value) (base : Heap) (T : Tab) (k : Nat) (C : Addr) (m : Str) (sp : Bc.Spec) : Prop where
  ex : ∃ (f : Addr) (fd : FuncData) (ps : List Str) (j n : Nat), Meth K C m f ∧ Binds K fd ps [] ∧ j ≤ k ∧
    FnOk P w K mg base (L2.CX P w) j f fd ps (spM T K n sp) ∧ ∀ vs h Q E, sp vs h Q E → vs.length = n
/-- a class that may be called: what its __init__ makes of a new instance -/
structure NeF (P : Program) (w : World) (K : PySem.W.Frag) (mg : Str → Option Value) (base : Heap) (T : Tab) (k : Nat) (c : Nat) (x : Str) (sp : Bc.Spec) : Prop where
  ex : ∃ (f : Addr) (fd : FuncData) (ps : List Str) (j n : Nat) (si : Bc.Spec), mg x = some (.ref (T.ct c)) ∧ Mk K (T.ct c) f ∧ Binds K fd ps [] ∧ j + 1 ≤ k ∧
    FnOk P w K mg base (L2.CX P w) j f fd ps (spM T K n si) ∧
    ∀ vs h Q E, sp vs h Q E → vs.length + 1 = n ∧ ∀ p, h p = none → si (.ref p :: vs) (Bc.upd h p (.ins c [])) (fun v h' => v = .non ∧ Q (.ref p) h') E
/-- what is known of a class -/
structure ClF (K : PySem.W.Frag) (C : Addr) : Prop where
  cl : Cls K C
  ha : PySem.W.findIn K (.ref C) "__class__" = some (some (.builtin "object.__class__"))
  hn : PySem.W.specialIn K (.builtin "object.__class__") "__get__" = some (some (.builtin "getset_descriptor.__get__"))
  htk : PySem.W.takesIn K (.builtin "object.__class__") = some true
  hm : PySem.W.mroIn K C (.type "object") = some true

/-- what may be named -/
structure Av where
  gs : List Nat
  fs : List Nat
  cs : List Nat
  ms : List Nat
  ff : List Nat
def bltNames : List Str := ["len", "list", "tuple", "dict", "int", "str", "bool", "min", "all", "any", "range", "enumerate", "isinstance", "sorted", "set"]
def tyNames : List String := ["NoneType", "bool", "int", "str", "list", "tuple", "dict"]
/-- what holds in a context -/
structure Ok (X : Cx) (T : Tab) (Γ : Bc.Ctx) (W : WX) (k : Nat) (av : Av) : Prop where
  room : Room k X.A
  un : X.A.units + 64 < cLine
  nd : X.N.Nodup
  calm : X.calm = true
  tk : Takes X W
  pass : PassesOwn (model X.prog X.w) X.A X.env X.xe
  blt : ∀ x ∈ bltNames, X.mg x = none
  glob : ∀ g v, g ∈ av.gs → Γ.glob g = some v → ∃ u w, X.mg (T.glN g) = some u ∧ RelV w u ∧ ∀ H, RV X.K H w v
  fn : ∀ f ∈ av.fs, FnF X.prog X.w X.K X.mg X.base T k (T.fnN f) (Γ.fn f)
  new : ∀ c ∈ av.cs, T.kc c = true ∧ NeF X.prog X.w X.K X.mg X.base T k c (T.clN c) (Γ.new c)
  meth : ∀ m ∈ av.ms, ∀ c, T.kc c = true → Γ.has c m = true → MeF X.prog X.w X.K X.mg X.base T k (T.ct c) (T.meN m) (Γ.meth c m)
  cls : ∀ c, T.kc c = true → ClF X.K (T.ct c) ∧ X.mg (T.clN c) = some (.ref (T.ct c))
  attr : ∀ c f, T.kc c = true → f ∈ av.ff → NoAttr X.K (T.ct c) (T.fdN f)
  dis : ∀ f m, m ∈ av.ms → T.fdN f ≠ T.meN m
  inj : ∀ f g, g ∈ av.ff → T.fdN f = T.fdN g → f = g
  kOT : ∀ c n, T.kc c = true → n ∈ tyNames → PySem.W.kitOne X.K (.ref (T.ct c)) (.type n) = some false
  kTO : ∀ c n, T.kc c = true → n ∈ tyNames → PySem.W.kitOne X.K (.type n) (.ref (T.ct c)) = some false
  kOO : ∀ c d, T.kc c = true → T.kc d = true → PySem.W.kitOne X.K (.ref (T.ct c)) (.ref (T.ct d)) = some (decide (c = d))

section
variable {T : Tab} {K : PySem.W.Frag} {H : Hp} {h : Bc.Heap}
/-- fields -/
theorem rfs_get {g : Nat} (inj : ∀ f, T.fdN f = T.fdN g → f = g) : ∀ {fs : List (Str × V)} {gs : List (Nat × Bc.Val)}, RFs T K H fs gs → ∀ v, Bc.fget gs g = some v → ∃ w, fs.lookup (T.fdN g) = some w ∧ RV K H w v
  | _, _, .nil, v, e => nomatch e
  | _, _, .cons (f := f0) r t, v, e => by
    unfold Bc.fget at e
    rw [List.find?_cons] at e
    by_cases z : f0 = g
    · subst z
      rw [decide_eq_true rfl] at e
      cases e
      exact ⟨_, by rw [List.lookup_cons_self], r⟩
    · rw [decide_eq_false z] at e
      obtain ⟨w, e1, r1⟩ := rfs_get inj t v e
      refine ⟨w, ?_, r1⟩
      rw [List.lookup_cons, show (T.fdN g == T.fdN f0) = false from beq_eq_false_iff_ne.mpr fun q => z (inj f0 q.symm)]
      exact e1
theorem rfs_none {m : Str} (dis : ∀ f, T.fdN f ≠ m) : ∀ {fs : List (Str × V)} {gs : List (Nat × Bc.Val)}, RFs T K H fs gs → fs.lookup m = none
  | _, _, .nil => rfl
  | _, _, .cons (f := f0) r t => by
    rw [List.lookup_cons, show (m == T.fdN f0) = false from beq_eq_false_iff_ne.mpr fun q => dis f0 q.symm]
    exact rfs_none dis t
theorem rfs_len : ∀ {fs : List (Str × V)} {gs : List (Nat × Bc.Val)}, RFs T K H fs gs → fs.length = gs.length
  | _, _, .nil => rfl
  | _, _, .cons _ t => congrArg (· + 1) (rfs_len t)
theorem rfs_put {g : Nat} (inj : ∀ f, T.fdN f = T.fdN g → f = g) {w : V} {v : Bc.Val} (r : RV K H w v) : ∀ {fs : List (Str × V)} {gs : List (Nat × Bc.Val)}, RFs T K H fs gs → RFs T K H (putF (T.fdN g) w fs) (Bc.fput g v gs)
  | _, _, .nil => .cons r .nil
  | _, _, .cons (x := x0) (r := r0) (f := f0) (v := v0) (s := s0) q t => by
    unfold Bc.fput
    show RFs T K H (if T.fdN f0 = T.fdN g then (T.fdN f0, w) :: r0 else (T.fdN f0, x0) :: putF (T.fdN g) w r0) _
    by_cases z : f0 = g
    · subst z
      rw [if_pos rfl, if_pos rfl]
      exact .cons r t
    · rw [if_neg fun e => z (inj f0 e), if_neg z]
      exact .cons q (rfs_put inj r t)
theorem Post.call {Q : Bc.Post} {Q' : VK} (k : Post T K Q H h Q') : Post T K Q H h Q' := k
end

section
variable {X : Cx} {T : Tab} {Γ : Bc.Ctx} {W : WX} {k : Nat} {av : Av} {a b c : Expr} {ea eb ec : Bc.Exp} {pos p p2 apos : Pos} {es : List Expr} {ees : Bc.Exps} {t u : Bc.Tst}

theorem e_attr (ok : Ok X T Γ W k av) {f : Nat} (hf : f ∈ av.ff) (ha : PE X a (tE T X.K Γ W ea)) (hb : attributeBase a (T.fdN f) X.env (eval a X.env) = eval a X.env) : PE X (.Attribute a (T.fdN f) pos) (tE T X.K Γ W (.attr ea f)) :=
  (pe_fld ha hb).imp fun σ H Q' ⟨env, h, Q, E, R, S, w, kq, kx⟩ => by
    simp only [Bc.wpE] at w
    refine ⟨env, h, _, E, R, S, w, fun v h1 H1 x q R1 f1 r1 => ?_, kx⟩
    obtain ⟨p, rfl, q⟩ := Bc.onRef_of q
    obtain ⟨c, gs, e, q⟩ := Bc.onIns_of q
    obtain ⟨v, e2, q⟩ := Bc.onSome_of q
    cases r1
    obtain ⟨dx, fs, e3, kc, rf⟩ := R1.ins e
    obtain ⟨x, e4, rx⟩ := rfs_get (fun f' z => ok.inj f' f hf z) rf v e2
    exact ⟨p, T.ct c, dx, fs, x, rfl, e3, (ok.cls c kc).1.cl, ok.attr c f kc hf, e4, kq _ _ _ _ q R1 f1 rx⟩

/-- a call of a def, by values -/
theorem run_spec (ok : Ok X T Γ W k av) {sp : Bc.Spec} {f : Addr} {fd : FuncData} {ps : List Str} {j n : Nat} (hj : j ≤ k) (hb : Binds X.K fd ps []) (F : FnOk X.prog X.w X.K X.mg X.base (L2.CX X.prog X.w) j f fd ps (spM T X.K n sp))
    {pins : List (Addr × Obj)} {σ : L2.St} {H : Hp} {s : Shared} {Q' : VK} {us : List Value} {ws : List V} {vs : List Bc.Val} {h : Bc.Heap} {Q : Bc.Post} {E : Bc.XPost}
    (I : L2.Inv X pins σ H s) (r : Vals ws us) (R : Rep T X.K H h) (rv : RVs X.K H ws vs) (w : sp vs h Q E) (hn : vs.length = n) (kq : Post T X.K Q H h Q') (kx : XP T X.K E H h (fun c d H' => W c d σ H')) :
    wpAny (model X.prog X.w) X.A (call (.ref f) us) (EP X pins σ Q') X.xe s := by
  have hh : spM T X.K n sp (ws ++ []) H Q' (fun c d H' => W c d σ H') := by
    rw [List.append_nil]
    exact ⟨vs, h, Q, E, R, rv, hn, w, kq, kx⟩
  exact run_fnSD (dvs := []) (ds := []) (E := WE W) F (ok.room.mono hj) hb .nil (passAt ok.tk σ) I r hh
theorem e_call (ok : Ok X T Γ W k av) {f : Nat} (hf : f ∈ av.fs) (hg : Gl X (T.fnN f)) (ha : PA X (a :: es) (tA T X.K Γ W ees)) (hdb : (T.fnN f == ("__debug__" : Str)) = false)
    (he : starEach (a :: es) X.env = (false, eval a X.env) :: starEach es X.env) (hpl : (backTo pos (starEach es X.env)).any (·.1) = false) : PE X (.Call (.Name (T.fnN f) p) (a :: es) [] pos) (tE T X.K Γ W (.call f ees)) := by
  obtain ⟨fa, fd, ps, j, n, hm, hk, hb, hj, F, hn⟩ := (ok.fn f hf).ex
  refine ⟨fun pins s σ H Q' I ⟨env, h, Q, E, R, S, w, kq, kx⟩ => ?_⟩
  simp only [Bc.wpE] at w
  refine wpAny_Call_Name_kw (ld_glob I hg hm (PySem.W.callWith_K (h₀ := X.base) I.ok.mod.kin hk (thn (ha.run pos pins s σ H (fun ws H1 => ∃ vs h1, Rep T X.K H1 h1 ∧ Fr H h H1 h1 ∧ RVs X.K H1 ws vs ∧ Γ.fn f vs h1 Q E) I ?_) fun us s1 hz => ?_) he hpl) hdb)
  · exact args R S w kx fun vs h1 H1 ws l q R1 f1 r1 => ⟨vs, h1, R1, f1, r1, q⟩
  · obtain ⟨ws, H1, I1, rr, vs, h1, R1, f1, r1, q⟩ := hz
    exact ⟨I1.kIn, run_spec ok hj hb F I1 rr R1 r1 q (hn _ _ _ _ q) (kq.step f1) (kx.step f1)⟩
theorem e_call0 (ok : Ok X T Γ W k av) {f : Nat} (hf : f ∈ av.fs) (hg : Gl X (T.fnN f)) (hdb : (T.fnN f == ("__debug__" : Str)) = false) : PE X (.Call (.Name (T.fnN f) p) [] [] pos) (tE T X.K Γ W (.call f .nil)) := by
  obtain ⟨fa, fd, ps, j, n, hm, hk, hb, hj, F, hn⟩ := (ok.fn f hf).ex
  refine ⟨fun pins s σ H Q' I ⟨env, h, Q, E, R, S, w, kq, kx⟩ => ?_⟩
  simp only [Bc.wpE, Bc.wpEs] at w
  exact wpAny_Call_Name_kw (ld_glob I hg hm (PySem.W.callWith_K0 I.kIn hk (run_spec ok hj hb F I .nil R .nil w (hn _ _ _ _ w) kq kx)) hdb)
/-- o.m(..) -/
theorem e_meth (ok : Ok X T Γ W k av) {m : Nat} (hm : m ∈ av.ms) (ho : PE X a (tE T X.K Γ W ea)) (ha : PA X (b :: es) (tA T X.K Γ W ees)) {pl : Sem Bool}
    (hst : starEach (b :: es) X.env = (false, eval b X.env) :: starEach es X.env) (hpl : (backTo pos (starEach es X.env)).any (·.1) = false)
    (ht : eval (.Call (.Attribute a (T.meN m) apos) (b :: es) [] pos) X.env = (do
      let ov ← eval a X.env
      standAt apos.atName
      let (f, first) ← holding [ov] (getMethod ov (T.meN m) pl)
      callWith pos f first (backTo pos (starEach (b :: es) X.env)) (backToKw pos (keywordEach [] X.env)))) : PE X (.Call (.Attribute a (T.meN m) apos) (b :: es) [] pos) (tE T X.K Γ W (.meth ea m ees)) := by
  refine ⟨fun pins s σ H Q' I ⟨env, h, Q, E, R, S, w, kq, kx⟩ => ?_⟩
  simp only [Bc.wpE] at w
  refine PySem.W.methodCall_KW (pl := pl) (thn (ho.run pins s σ H (fun x H1 => ∃ p h1 c gs, x = .ref p ∧ Rep T X.K H1 h1 ∧ Fr H h H1 h1 ∧ h1 p = some (.ins c gs) ∧ Γ.has c m = true ∧ Bc.wpEs Γ ees env h1 (fun vs h => Γ.meth c m (.ref p :: vs) h Q E) E) I ?_) fun u s1 hz => ?_) ht
  · refine ⟨env, h, _, E, R, S, w, fun v h1 H1 x q R1 f1 r1 => ?_, kx⟩
    obtain ⟨p, rfl, q⟩ := Bc.onRef_of q
    obtain ⟨c, gs, e, q⟩ := Bc.onIns_of q
    cases r1
    exact ⟨p, h1, c, gs, rfl, R1, f1, e, q⟩
  · obtain ⟨x, H1, I1, rx, p, h1, c, gs, rfl, R1, f1, e, hs, q⟩ := hz
    obtain rfl : u = Value.ref p := rx
    obtain ⟨dx, fs, e3, kc, rf⟩ := R1.ins e
    obtain ⟨fa, fd, ps, j, n, hM, hb, hj, F, hn⟩ := (ok.meth m hm c kc hs).ex
    refine getmeth_ok I1 e3 (ok.cls c kc).1.cl hM (rfs_none (fun f => ok.dis f m hm) rf) ?_
    refine PySem.W.callWith_K (first := [.ref p]) (h₀ := X.base) I.ok.mod.kin hM.kp (thn (ha.run pos pins s1 σ H1 (fun ws H2 => ∃ vs h2, Rep T X.K H2 h2 ∧ Fr H1 h1 H2 h2 ∧ RVs X.K H2 ws vs ∧ Γ.meth c m (.ref p :: vs) h2 Q E) I1 ?_) fun us s2 hz2 => ?_) hst hpl
    · exact args R1 (S.fr R f1) q (kx.step f1) fun vs h2 H2 ws l q2 R2' f2 r2 => ⟨vs, h2, R2', f2, r2, q2⟩
    · obtain ⟨ws, H2, I2, rr, vs, h2, R2', f2, r2, q2⟩ := hz2
      exact ⟨I2.kIn, run_spec ok hj hb F (us := .ref p :: us) (ws := .ref p :: ws) I2 (.cons rfl rr) R2' (.cons (.ref p) r2) q2 (hn _ _ _ _ q2) (kq.step (f1.trans f2)) (kx.step (f1.trans f2))⟩
theorem e_meth0 (ok : Ok X T Γ W k av) {m : Nat} (hm : m ∈ av.ms) (ho : PE X a (tE T X.K Γ W ea)) {pl : Sem Bool}
    (ht : eval (.Call (.Attribute a (T.meN m) apos) [] [] pos) X.env = (do
      let ov ← eval a X.env
      standAt apos.atName
      let (f, first) ← holding [ov] (getMethod ov (T.meN m) pl)
      callWith pos f first (backTo pos (starEach [] X.env)) (backToKw pos (keywordEach [] X.env)))) : PE X (.Call (.Attribute a (T.meN m) apos) [] [] pos) (tE T X.K Γ W (.meth ea m .nil)) := by
  refine ⟨fun pins s σ H Q' I ⟨env, h, Q, E, R, S, w, kq, kx⟩ => ?_⟩
  simp only [Bc.wpE, Bc.wpEs] at w
  refine PySem.W.methodCall_KW (pl := pl) (thn (ho.run pins s σ H (fun x H1 => ∃ p h1 c gs, x = .ref p ∧ Rep T X.K H1 h1 ∧ Fr H h H1 h1 ∧ h1 p = some (.ins c gs) ∧ Γ.has c m = true ∧ Γ.meth c m [.ref p] h1 Q E) I ?_) fun u s1 hz => ?_) ht
  · refine ⟨env, h, _, E, R, S, w, fun v h1 H1 x q R1 f1 r1 => ?_, kx⟩
    obtain ⟨p, rfl, q⟩ := Bc.onRef_of q
    obtain ⟨c, gs, e, q⟩ := Bc.onIns_of q
    cases r1
    exact ⟨p, h1, c, gs, rfl, R1, f1, e, q⟩
  · obtain ⟨x, H1, I1, rx, p, h1, c, gs, rfl, R1, f1, e, hs, q⟩ := hz
    obtain rfl : u = Value.ref p := rx
    obtain ⟨dx, fs, e3, kc, rf⟩ := R1.ins e
    obtain ⟨fa, fd, ps, j, n, hM, hb, hj, F, hn⟩ := (ok.meth m hm c kc hs).ex
    refine getmeth_ok I1 e3 (ok.cls c kc).1.cl hM (rfs_none (fun f => ok.dis f m hm) rf) ?_
    exact PySem.W.callWith_K0 (first := [.ref p]) I1.kIn hM.kp (run_spec ok hj hb F (us := [.ref p]) (ws := [.ref p]) I1 (.cons rfl .nil) R1 (.cons (.ref p) .nil) q (hn _ _ _ _ q) (kq.step f1) (kx.step f1))
/-- C(..), by values -/
theorem run_new (ok : Ok X T Γ W k av) {c : Nat} (hc : c ∈ av.cs) {pins : List (Addr × Obj)} {σ : L2.St} {H : Hp} {s : Shared} {Q' : VK} {us : List Value} {ws : List V} {vs : List Bc.Val} {h : Bc.Heap} {Q : Bc.Post} {E : Bc.XPost}
    (I : L2.Inv X pins σ H s) (r : Vals ws us) (R : Rep T X.K H h) (rv : RVs X.K H ws vs) (w : Γ.new c vs h Q E) (kq : Post T X.K Q H h Q') (kx : XP T X.K E H h (fun c d H' => W c d σ H')) :
    wpAny (model X.prog X.w) X.A (call (.ref (T.ct c)) us) (EP X pins σ Q') X.xe s := by
  obtain ⟨kc, f, fd, ps, j, n, si, hm, M, hb, hj, F, hsi⟩ := ok.new c hc
  obtain ⟨hn, hs⟩ := hsi _ _ _ _ w
  have e1 : H (s.heap.objs.size + 1) = none := I.hok.fresh (Nat.le_succ _)
  have e0 : H s.heap.objs.size = none := I.hok.fresh (Nat.le_refl _)
  have J := L2.Inv.made (C := T.ct c) I
  have R0 : Rep T X.K (L2.upd H s.heap.objs.size (.own (s.heap.objs.size + 1))) h := R.newU e0
  have e1' : L2.upd H s.heap.objs.size (.own (s.heap.objs.size + 1)) (s.heap.objs.size + 1) = none := by
    rw [L2.upd_ne (by omega : s.heap.objs.size + 1 ≠ s.heap.objs.size)]; exact e1
  have f0 : Fr H h (L2.upd H s.heap.objs.size (.own (s.heap.objs.size + 1))) h := Fr.newU R e0
  have R1 := R0.new (o := .ins (T.ct c) s.heap.objs.size []) (o' := .ins c []) e1' (.pl (.ins kc .nil))
  have f1 := f0.trans (Fr.new (o := .ins (T.ct c) s.heap.objs.size []) (o' := .ins c []) R0 e1')
  have rv1 : RVs X.K _ (V.ref (s.heap.objs.size + 1) :: ws) (.ref (s.heap.objs.size + 1) :: vs) := .cons (.ref _) (rv.fr R f1)
  have hp : h (s.heap.objs.size + 1) = none := R.none_of e1
  have hh : spM T X.K n si (V.ref (s.heap.objs.size + 1) :: ws) (L2.upd (L2.upd H s.heap.objs.size (.own (s.heap.objs.size + 1))) (s.heap.objs.size + 1) (.ins (T.ct c) s.heap.objs.size []))
      (fun v H2 => v = .non ∧ Q' (.ref (s.heap.objs.size + 1)) H2) (fun c d H' => W c d σ H') := by
    refine ⟨_, _, _, E, R1, rv1, by rw [List.length_cons]; exact hn, hs _ hp, fun v h' H' w' q R2' f2 r2 => ?_, kx.step f1⟩
    obtain ⟨rfl, q⟩ := q
    cases r2
    exact ⟨rfl, kq _ _ _ _ q R2' (f1.trans f2) (.ref _)⟩
  have rr : Vals (V.ref (s.heap.objs.size + 1) :: ws) (Value.ref (s.heap.objs.size + 1) :: us) := .cons rfl r
  have hl : (Value.ref (s.heap.objs.size + 1) :: us ++ []).length = ps.length := by
    rw [List.append_nil, ← rr.length]
    exact F.len _ _ _ _ hh
  have hb' := hb { s with heap := (s.heap.push { cls := .type "dict", data := .dict #[] }).push (PySem.W.instObj (T.ct c) s.heap.objs.size) } (Value.ref (s.heap.objs.size + 1) :: us) J.kIn hl
  rw [List.append_nil] at hb'
  refine wpAny_call (make_map (f := f) I.kIn M.makes M.init (beq_iff_eq.mp M.fn) (codeAny_mono (F.run _ X.stack _ _ _ _ _ _ _ ((ok.room.mono hj).make (T.ct c) us []) (J.env0.make (T.ct c) us []) hb' rr hh) fun z s' hz => ?_))
  cases z with
  | error e =>
    exact ok.tk _ _ (XE.of_call J (fun _ _ _ q => q) hz)
  | ok fl =>
    cases fl <;> first | exact False.elim hz | skip
    obtain ⟨v, H', J', rv', ev, q3⟩ := L2.Inv.after J hz
    subst ev
    exact ⟨rv', ⟨V.ref (s.heap.objs.size + 1), H', J', rfl, q3⟩⟩
theorem e_new (ok : Ok X T Γ W k av) {f : Nat} (hf : f ∈ av.cs) (hg : Gl X (T.clN f)) (ha : PA X (a :: es) (tA T X.K Γ W ees)) (hdb : (T.clN f == ("__debug__" : Str)) = false)
    (he : starEach (a :: es) X.env = (false, eval a X.env) :: starEach es X.env) (hpl : (backTo pos (starEach es X.env)).any (·.1) = false) : PE X (.Call (.Name (T.clN f) p) (a :: es) [] pos) (tE T X.K Γ W (.mk f ees)) := by
  obtain ⟨kc, fa, fd, ps, j, n, si, hm, M, hb, hj, F, hsi⟩ := ok.new f hf
  refine ⟨fun pins s σ H Q' I ⟨env, h, Q, E, R, S, w, kq, kx⟩ => ?_⟩
  simp only [Bc.wpE] at w
  refine wpAny_Call_Name_kw (ld_glob I hg hm (PySem.W.callWith_K (h₀ := X.base) I.ok.mod.kin M.kp (thn (ha.run pos pins s σ H (fun ws H1 => ∃ vs h1, Rep T X.K H1 h1 ∧ Fr H h H1 h1 ∧ RVs X.K H1 ws vs ∧ Γ.new f vs h1 Q E) I ?_) fun us s1 hz => ?_) he hpl) hdb)
  · exact args R S w kx fun vs h1 H1 ws l q R1 f1 r1 => ⟨vs, h1, R1, f1, r1, q⟩
  · obtain ⟨ws, H1, I1, rr, vs, h1, R1, f1, r1, q⟩ := hz
    exact ⟨I1.kIn, run_new ok hf I1 rr R1 r1 q (kq.step f1) (kx.step f1)⟩
end
end Bs
set_option Elab.async false
set_option linter.all false
set_option maxRecDepth 100000
set_option maxHeartbeats 4000000
namespace Bs
open PySem L2 PyProof.Rows

/-- a built-in, by values -/
def rBi (T : Tab) (K : PySem.W.Frag) (b : Bc.BI) : List V → Hp → VK → Prop := fun ws H Q' => ∃ vs h Q, Rep T K H h ∧ RVs K H ws vs ∧ Bc.wBi b vs h Q ∧ Post T K Q H h Q'
def rBm (T : Tab) (K : PySem.W.Frag) (m : Bc.BM) : V → List V → Hp → VK → Prop := fun w ws H Q' => ∃ v vs h Q, Rep T K H h ∧ RV K H w v ∧ RVs K H ws vs ∧ Bc.wBm m v vs h Q ∧ Post T K Q H h Q'

section
variable {T : Tab} {K : PySem.W.Frag} {H : Hp} {h : Bc.Heap}
theorem bools_of : ∀ {xs : List V} {vs : List Bc.Val} {bs : List Bool}, RVs K H xs vs → Bc.allBool vs = some bs → xs = bs.map V.bl
  | _, _, _, .nil, e => by cases e; rfl
  | _, _, _, .cons (v := v) r t, e => by
    cases v <;> try (cases e; done)
    rename_i b
    unfold Bc.allBool at e
    cases r
    obtain ⟨bs, e1, e2⟩ := Option.map_eq_some_iff.mp e
    subst e2
    rw [bools_of t e1]
    rfl
theorem strs_of : ∀ {xs : List V} {vs : List Bc.Val} {ss : List (List Nat)}, RVs K H xs vs → Bc.allStr vs = some ss → xs = (ss.map SX.S).map V.str ∧ ∀ s ∈ ss, ∀ c ∈ s, c < 1114112
  | _, _, _, .nil, e => by
    cases e
    exact ⟨rfl, fun _ z => (nomatch z)⟩
  | _, _, _, .cons (v := v) r t, e => by
    cases v <;> try (cases e; done)
    rename_i b
    unfold Bc.allStr at e
    obtain ⟨bs, e1, e2⟩ := Option.map_eq_some_iff.mp e
    subst e2
    obtain ⟨z1, z2⟩ := strs_of t e1
    cases r with
    | str _ ok =>
      refine ⟨by rw [z1]; rfl, fun s hs => ?_⟩
      rcases List.mem_cons.mp hs with e | hs
      · subst e; exact ok
      · exact z2 s hs
theorem signs_ok : ∀ (s : List Nat), (∀ c ∈ s, c < 1114112) → RVs K H (s.map fun c => V.str ⟨#[c]⟩) (Bc.signs s)
  | [], _ => .nil
  | c :: s, ok => .cons (.str [c] fun d hd => by rw [List.mem_singleton] at hd; subst hd; exact ok _ List.mem_cons_self) (signs_ok s fun d hd => ok d (List.mem_cons_of_mem _ hd))
theorem joinS_eq (sep : List Nat) : ∀ ys : List (List Nat), Bc.joinS sep ys = TL.joinL sep ys
  | [] => rfl
  | [_] => rfl
  | x :: y :: r => by
    unfold Bc.joinS TL.joinL
    rw [joinS_eq sep (y :: r)]
theorem joinS_mem {sep : List Nat} {P : Nat → Prop} (h1 : ∀ c ∈ sep, P c) : ∀ {ys : List (List Nat)}, (∀ s ∈ ys, ∀ c ∈ s, P c) → ∀ c ∈ Bc.joinS sep ys, P c
  | [], _, c, z => (nomatch z)
  | [x], h2, c, z => h2 x List.mem_cons_self c z
  | x :: y :: r, h2, c, z => by
    unfold Bc.joinS at z
    rcases List.mem_append.mp z with z | z
    · exact h2 x List.mem_cons_self c z
    · rcases List.mem_append.mp z with z | z
      · exact h1 c z
      · exact joinS_mem h1 (fun s hs => h2 s (List.mem_cons_of_mem _ hs)) c z
theorem splitC_ne (c : Nat) : ∀ s : List Nat, Bc.splitC c s ≠ []
  | [] => by unfold Bc.splitC; simp
  | x :: r => by
    unfold Bc.splitC
    split
    · simp
    · split <;> simp
/-- the first part grows -/
def grow (acc : List Nat) : List (List Nat) → List (List Nat)
  | [] => [acc]
  | p :: q => (acc ++ p) :: q
theorem spl_splitC (c : Nat) : ∀ (s acc : List Nat), TL.spl [c] 0 acc s = grow acc (Bc.splitC c s)
  | [], acc => by
    unfold Bc.splitC grow
    rw [TL.spl_nil]
    simp
  | x :: r, acc => by
    by_cases e : x = c
    · subst e
      rw [TL.spl_hit (by simp [TL.pre]), Bc.splitC, if_pos rfl]
      show acc :: TL.spl [x] 0 [] r = grow acc ([] :: Bc.splitC x r)
      rw [spl_splitC x r []]
      unfold grow
      cases z : Bc.splitC x r with
      | nil => exact absurd z (splitC_ne x r)
      | cons p q => simp
    · rw [TL.spl_miss (by simp [TL.pre, e]), spl_splitC c r, Bc.splitC, if_neg e]
      cases z : Bc.splitC c r with
      | nil => exact absurd z (splitC_ne c r)
      | cons p q => simp [grow]
theorem split_eq (c : Nat) (s : List Nat) : TL.spl [c] 0 [] s = Bc.splitC c s := by
  rw [spl_splitC]
  cases z : Bc.splitC c s with
  | nil => exact absurd z (splitC_ne c s)
  | cons p q => simp [grow]
theorem splitC_mem {c : Nat} {P : Nat → Prop} : ∀ {s : List Nat}, (∀ d ∈ s, P d) → ∀ p ∈ Bc.splitC c s, ∀ d ∈ p, P d
  | [], _, p, hp, d, hd => by
    unfold Bc.splitC at hp
    rw [List.mem_singleton] at hp
    subst hp
    cases hd
  | x :: r, ok, p, hp, d, hd => by
    have ih := splitC_mem (c := c) (P := P) (s := r) fun d hd => ok d (List.mem_cons_of_mem _ hd)
    unfold Bc.splitC at hp
    split at hp
    · rcases List.mem_cons.mp hp with e | hp
      · subst e; cases hd
      · exact ih p hp d hd
    · cases z : Bc.splitC c r with
      | nil => exact absurd z (splitC_ne c r)
      | cons q qs =>
        rw [z] at hp ih
        rcases List.mem_cons.mp hp with e | hp
        · subst e
          rcases List.mem_cons.mp hd with e | hd
          · subst e; exact ok _ List.mem_cons_self
          · exact ih q List.mem_cons_self d hd
        · exact ih p (List.mem_cons_of_mem _ hp) d hd
theorem isPre_eq (t s : List Nat) : Txt.startswith ⟨s.toArray⟩ ⟨t.toArray⟩ = Bc.isPre t s := by
  unfold Txt.startswith Bc.isPre
  rw [PySem.StrLaws.subAt_eq, str_len, str_len, Nat.zero_add]
  simp only [List.drop_zero]
  by_cases hl : t.length ≤ s.length
  · rw [decide_eq_true hl, Bool.true_and]
    by_cases e : s.take t.length = t
    · rw [e]
      have : t <+: s := by rw [← e]; exact List.take_prefix _ _
      rw [List.isPrefixOf_iff_prefix.mpr this]
      simp
    · have h1 : (s.take t.length == t) = false := beq_eq_false_iff_ne.mpr e
      rw [h1]
      symm
      apply Bool.eq_false_iff.mpr
      intro z
      exact e (List.prefix_iff_eq_take.mp (List.isPrefixOf_iff_prefix.mp z)).symm
  · rw [decide_eq_false hl, Bool.false_and]
    symm
    apply Bool.eq_false_iff.mpr
    intro z
    exact hl (List.isPrefixOf_iff_prefix.mp z).length_le
theorem cnt_eq (c : Nat) : ∀ s : List Nat, cnt c s = ((Bc.cnt1 c s : Nat) : Int)
  | [] => rfl
  | x :: r => by
    have ih := cnt_eq c r
    unfold Bc.cnt1 at ih ⊢
    rw [List.filter_cons]
    have e : cnt c (x :: r) = (if x = c then 1 else 0) + cnt c r := by
      first
        | (simp only [cnt_cons]; done)
        | (rw [cnt_cons]; split <;> simp_all)
    rw [e, ih]
    by_cases z : x = c
    · subst z; simp; omega
    · simp [z]
end

section
variable {X : Cx} {T : Tab} {Γ : Bc.Ctx} {W : WX} {k : Nat} {av : Av}
/-- one argument, two, none -/
theorem rvs_cases {T : Tab} {K : PySem.W.Frag} {H : Hp} {ws : List V} {vs : List Bc.Val} (r : RVs K H ws vs) :
    (ws = [] ∧ vs = []) ∨ (∃ w v, ws = [w] ∧ vs = [v] ∧ RV K H w v) ∨ (∃ w v w2 v2, ws = [w, w2] ∧ vs = [v, v2] ∧ RV K H w v ∧ RV K H w2 v2) ∨ 2 < vs.length := by
  cases r with
  | nil => exact .inl ⟨rfl, rfl⟩
  | cons r t =>
    cases t with
    | nil => exact .inr (.inl ⟨_, _, rfl, rfl, r⟩)
    | cons r2 t =>
      cases t with
      | nil => exact .inr (.inr (.inl ⟨_, _, _, _, rfl, rfl, r, r2⟩))
      | cons r3 t => exact .inr (.inr (.inr (by simp)))
/-- only one argument is taken -/
def One (b : Bc.BI) : Prop := ∀ vs h Q, vs.length ≠ 1 → ¬ Bc.wBi b vs h Q
theorem bi_one {b : Bc.BI} {id : Value} (o : One b) (f : ∀ (pins : List (Addr × Obj)) (s : Shared) (σ : L2.St) (H : Hp) (w : V) (u : Value) (Q' : VK) (v : Bc.Val) (h : Bc.Heap) (Q : Bc.Post), L2.Inv X pins σ H s → RelV w u → Rep T X.K H h → RV X.K H w v →
    Bc.wBi b [v] h Q → Post T X.K Q H h Q' → Vals [w] [u] → wpAny (model X.prog X.w) X.A (call id [u]) (EP X pins σ Q') X.xe s) : CallR X id (rBi T X.K b) := by
  intro pins s σ H ws us Q' I r hq
  obtain ⟨vs, h, Q, R, rv, w, kq⟩ := hq
  have hl : vs.length = 1 := Classical.byContradiction fun z => o vs h Q z w
  cases rv with
  | nil => cases hl
  | cons r1 r2 =>
    cases r2 with
    | cons _ _ => simp at hl
    | nil =>
      cases r with
      | cons q1 q2 =>
        cases q2
        exact f pins s σ H _ _ Q' _ h Q I q1 R r1 w kq (.cons q1 .nil)
theorem one_of {b : Bc.BI} (f : ∀ h Q, ¬ Bc.wBi b [] h Q) (g : ∀ x y r h Q, ¬ Bc.wBi b (x :: y :: r) h Q) : One b := fun vs h Q z w => by
  match vs, z, w with
  | [], _, w => exact f h Q w
  | x :: y :: r, _, w => exact g x y r h Q w
theorem bi_len : CallR X (.builtin "len") (rBi T X.K .len) := by
  refine bi_one (one_of (fun _ _ w => w) fun x y r h Q w => by cases x <;> exact w) fun pins s σ H w u Q' v h Q I ru R r1 w kq r => ?_
  cases r1 with
  | str s0 ok => exact call_len pins s σ H _ _ Q' I r ⟨_, _, rfl, ⟨by rw [str_len, ← sz]; exact w.1, rfl⟩, kq.here R (.int _) (by rw [str_len]; exact w.2)⟩
  | @tup p xs vs hp rp => exact call_len pins s σ H _ _ Q' I r ⟨_, _, rfl, .inr ⟨xs, hp, rfl⟩, kq.here R (.int _) (by rw [rp.length]; exact w)⟩
  | ref p =>
    unfold Bc.wBi at w
    dsimp only at w
    split at w
    · rename_i vs e
      obtain ⟨xs, hp, rp⟩ := R.lstM e
      exact call_len pins s σ H _ _ Q' I r ⟨_, _, rfl, .inl ⟨xs, .inl (.inl hp), rfl⟩, kq.here R (.int _) (by rw [rp.length]; exact w)⟩
    · rename_i vs e
      obtain ⟨xs, hp, rp⟩ := R.lst (a := p) (vs := vs) (by unfold Bc.rd; rw [e]; rfl)
      exact call_len pins s σ H _ _ Q' I r ⟨_, _, rfl, .inl ⟨xs, hp, rfl⟩, kq.here R (.int _) (by rw [rp.length]; exact w)⟩
    · rename_i kvs e
      obtain ⟨ks, hp, rp⟩ := R.dctM e
      exact call_lenD pins s σ H _ _ Q' I r ⟨_, _, rfl, hp, kq.here R (.int _) (by rw [rks_len rp]; exact w)⟩
    · exact w.elim
  | _ => exact w.elim
theorem bi_list (hc : X.calm = true) : CallR X (.type "list") (rBi T X.K .list) := by
  refine bi_one (one_of (fun _ _ w => w) fun x y r h Q w => by cases x <;> exact w) fun pins s σ H w u Q' v h Q I ru R r1 w kq r => ?_
  cases r1 with
  | str s0 ok =>
    obtain ⟨t, rfl⟩ := ru
    obtain ⟨w0, w⟩ := w
    refine PySem.call_list_str (I.ok.hd hc) _ t (fun h' tk acc c hk hn hi => ?_) (by show s0.toArray.size ≤ sizeLine; rw [← sz]; simpa using w0)
    have e : ∃ its : List Value, acc = its.toArray ∧ Vals (s0.map fun c => V.str ⟨#[c]⟩) its := by
      obtain ⟨z1, z2⟩ := hi
      refine ⟨acc.toList, by simp, ?_⟩
      have z1' : acc.toList.length = s0.length := by rw [Array.length_toList, z1]; simp
      have z2' : ∀ (j : Nat) v, acc.toList[j]? = some v → SignAt ⟨s0.toArray⟩ j v := fun j v q => z2 j v (by rw [← Array.getElem?_toList]; exact q)
      clear z1 z2 hn w kq r w0 ok
      generalize acc.toList = l at z1' z2'
      have gen : ∀ (l : List Value) (n : Nat) (t : List Nat), l.length = t.length → (∀ (j : Nat) v, l[j]? = some v → ∃ k c, t[j]? = some c ∧ v = Value.str ⟨#[c]⟩ k) → Vals (t.map fun c => V.str ⟨#[c]⟩) l := by
        intro l n t
        induction t generalizing l with
        | nil =>
          intro hl _
          cases l with
          | nil => exact .nil
          | cons _ _ => simp at hl
        | cons c t ih =>
          intro hl hv
          cases l with
          | nil => simp at hl
          | cons v l =>
            obtain ⟨k, c', e1, e2⟩ := hv 0 v rfl
            simp at e1
            subst e1 e2
            exact .cons ⟨k, rfl⟩ (ih l (by simpa using hl) fun j v q => by
              obtain ⟨k, c, a, b⟩ := hv (j + 1) v (by simpa using q)
              exact ⟨k, c, by simpa using a, b⟩)
      refine gen l 0 s0 z1' fun j v q => ?_
      have := z2' j v q
      obtain ⟨k, c, e1, e2⟩ : ∃ k c, s0[j]? = some c ∧ v = Value.str ⟨#[c]⟩ k := by
        unfold SignAt at this
        obtain ⟨c, a, k, b⟩ : ∃ c, s0[j]? = some c ∧ ∃ x, v = Value.str { cps := #[c] } x := by simpa using this
        exact ⟨k, c, a, b⟩
      exact ⟨k, c, e1, e2⟩
    obtain ⟨its, rfl, rv⟩ := e
    have hp : H s.heap.objs.size = none := I.hok.fresh (Nat.le_refl _)
    refine ⟨.ref s.heap.objs.size, _, I.laid (t' := tk) (o := .lst (s0.map fun c => V.str ⟨#[c]⟩)) (fun b o q => hk b o q) (Nat.le_refl _) ?_, rfl, kq.lst R (signs_ok s0 ok) w _ hp⟩
    refine ⟨?_, its, c, rv, hn⟩
    rw [List.length_map, ← sz]; exact w0
  | @tup p xs vs hp rp => exact call_list_of pins s σ H _ _ Q' I r ⟨p, xs, rfl, .inr hp, kq.lst R rp w⟩
  | ref p =>
    obtain ⟨vs, e, w⟩ := Bc.onLst_of (show Bc.onLst (Bc.rd h p) _ from w)
    obtain ⟨xs, hp, rp⟩ := R.lst e
    exact call_list_of pins s σ H _ _ Q' I r ⟨p, xs, rfl, .inl hp, kq.lst R rp w⟩
  | _ => exact w.elim
theorem bi_tuple : CallR X (.type "tuple") (rBi T X.K .tuple) := by
  refine bi_one (one_of (fun _ _ w => w) fun x y r h Q w => by cases x <;> exact w) fun pins s σ H w u Q' v h Q I ru R r1 w kq r => ?_
  cases r1 with
  | @tup p xs vs hp rp => exact call_tuple_of pins s σ H _ _ Q' I r ⟨p, xs, rfl, .inr ⟨hp, kq.here R (.tup hp rp) w⟩⟩
  | ref p =>
    obtain ⟨vs, e, w⟩ := Bc.onLst_of (show Bc.onLst (Bc.rd h p) _ from w)
    obtain ⟨xs, hp, rp⟩ := R.lst e
    exact call_tuple_of pins s σ H _ _ Q' I r ⟨p, xs, rfl, .inl ⟨hp, kq.tup R rp w⟩⟩
  | _ => exact w.elim
theorem bi_dict : CallR X (.type "dict") (rBi T X.K .dict) := by
  refine bi_one (one_of (fun _ _ w => w) fun x y r h Q w => by cases x <;> exact w) fun pins s σ H w u Q' v h Q I ru R r1 w kq r => ?_
  cases r1 with
  | ref p =>
    obtain ⟨vs, e, w⟩ := Bc.onDct_of (show Bc.onDct (Bc.rd h p) _ from w)
    obtain ⟨xs, hp, rp⟩ := R.dct e
    exact call_dictD pins s σ H _ _ Q' I r ⟨p, xs, rfl, hp, fun q hq => kq _ _ _ _ (w q (R.none_of hq)) (R.new hq (.pl (.dct rp))) (Fr.new R hq) (.ref q)⟩
  | _ => exact w.elim
theorem bi_int : CallR X (.type "int") (rBi T X.K .int) := by
  refine bi_one (one_of (fun _ _ w => w) fun x y r h Q w => by
    cases x <;> try exact w
    rename_i s
    cases s with
    | nil => exact w
    | cons c t => cases t <;> exact w) fun pins s σ H w u Q' v h Q I ru R r1 w kq r => ?_
  cases r1 with
  | int i => exact call_int1 pins s σ H _ _ Q' I r (.inl ⟨i, rfl, kq.here R (.int _) w⟩)
  | bl b => exact call_int1 pins s σ H _ _ Q' I r (.inr ⟨b, rfl, kq.here R (.int _) w⟩)
  | str s0 ok =>
    match s0, ok, w with
    | [c], ok, w =>
      obtain ⟨⟨w1, w2⟩, w⟩ := w
      refine call_int_str pins s σ H _ _ Q' I r ⟨_, (c : Int) - 48, rfl, ?_, ?_, kq.here R (.int _) w⟩
      · obtain rfl | rfl | rfl | rfl | rfl | rfl | rfl | rfl | rfl | rfl : c = 48 ∨ c = 49 ∨ c = 50 ∨ c = 51 ∨ c = 52 ∨ c = 53 ∨ c = 54 ∨ c = 55 ∨ c = 56 ∨ c = 57 := by omega
        all_goals decide +kernel
      · rw [str_len]; simp
  | _ => exact w.elim
theorem bi_str : CallR X (.type "str") (rBi T X.K .str) := by
  refine bi_one (one_of (fun _ _ w => w) fun x y r h Q w => by cases x <;> exact w) fun pins s σ H w u Q' v h Q I ru R r1 w kq r => ?_
  cases r1 with
  | int i =>
    obtain ⟨⟨w1, w2⟩, w⟩ := w
    refine call_str_int pins s σ H _ _ Q' I r ⟨i, rfl, ?_, ?_⟩
    · obtain rfl | rfl | rfl | rfl | rfl | rfl | rfl | rfl | rfl | rfl : i = 0 ∨ i = 1 ∨ i = 2 ∨ i = 3 ∨ i = 4 ∨ i = 5 ∨ i = 6 ∨ i = 7 ∨ i = 8 ∨ i = 9 := by omega
      all_goals decide +kernel
    · have e : ((toString i : String) : Str) = ⟨[48 + i.toNat].toArray⟩ := by
        obtain rfl | rfl | rfl | rfl | rfl | rfl | rfl | rfl | rfl | rfl : i = 0 ∨ i = 1 ∨ i = 2 ∨ i = 3 ∨ i = 4 ∨ i = 5 ∨ i = 6 ∨ i = 7 ∨ i = 8 ∨ i = 9 := by omega
        all_goals decide +kernel
      rw [e]
      exact kq.here R (.str _ fun d hd => by rw [List.mem_singleton] at hd; omega) w
  | str s0 ok => exact SkE.call_str_str pins s σ H _ _ Q' I r ⟨_, rfl, kq.here R (.str s0 ok) w⟩
  | _ => exact w.elim
theorem bi_all (hc : X.calm = true) : CallR X (.builtin "all") (rBi T X.K .all) := by
  refine bi_one (one_of (fun _ _ w => w) fun x y r h Q w => by cases x <;> exact w) fun pins s σ H w u Q' v h Q I ru R r1 w kq r => ?_
  cases r1 with
  | ref p =>
    obtain ⟨vs, e, w⟩ := Bc.onLst_of (show Bc.onLst (Bc.rd h p) _ from w)
    obtain ⟨bs, eb, w⟩ := Bc.onSome_of w
    obtain ⟨xs, hp, rp⟩ := R.lst e
    rw [bools_of rp eb] at hp
    exact cr_all hc pins s σ H _ _ Q' I r ⟨p, bs, rfl, hp, kq.here R (.bl _) w⟩
  | _ => exact w.elim
theorem bi_any (hc : X.calm = true) : CallR X (.builtin "any") (rBi T X.K .any) := by
  refine bi_one (one_of (fun _ _ w => w) fun x y r h Q w => by cases x <;> exact w) fun pins s σ H w u Q' v h Q I ru R r1 w kq r => ?_
  cases r1 with
  | ref p =>
    obtain ⟨vs, e, w⟩ := Bc.onLst_of (show Bc.onLst (Bc.rd h p) _ from w)
    obtain ⟨bs, eb, w⟩ := Bc.onSome_of w
    obtain ⟨xs, hp, rp⟩ := R.lst e
    rw [bools_of rp eb] at hp
    exact cr_any hc pins s σ H _ _ Q' I r ⟨p, bs, rfl, hp, kq.here R (.bl _) w⟩
  | _ => exact w.elim
theorem bi_min2 (hc : X.calm = true) : CallR X (.builtin "min") (rBi T X.K .min2) := by
  intro pins s σ H ws us Q' I r hq
  obtain ⟨vs, h, Q, R, rv, w, kq⟩ := hq
  match vs, rv, w with
  | [.int i, .int j], rv, w =>
    cases rv with
    | cons r1 t =>
      cases t with
      | cons r2 t =>
        cases t
        cases r1
        cases r2
        exact call_min2 hc pins s σ H _ us Q' I r ⟨i, j, rfl, kq.here R (.int _) w⟩

/-! ### methods of built-ins -/
theorem itms {T : Tab} {K : PySem.W.Frag} {H : Hp} {h : Bc.Heap} (R : Rep T K H h) {w : V} {v : Bc.Val} {vs : List Bc.Val} (r : RV K H w v) (e : Bc.itemsOf v h = some vs) : ∃ p xs, w = .ref p ∧ (SqL K H p xs ∨ SqT K H p xs) ∧ RVs K H xs vs := by
  cases r with
  | @tup p xs vs' hp rp => cases e; exact ⟨p, xs, rfl, .inr hp, rp⟩
  | ref p =>
    unfold Bc.itemsOf at e
    dsimp only at e
    split at e
    · rename_i vs' e'
      cases e
      obtain ⟨xs, hp, rp⟩ := R.lst e'
      exact ⟨p, xs, rfl, .inl hp, rp⟩
    · cases e
  | _ => cases e
theorem bm_append : MtR X "list.append" (rBm T X.K .append) := by
  intro pins s σ H w ws u us Q' I ru r hq
  obtain ⟨v, vs, h, Q, R, rv, rvs, w, kq⟩ := hq
  cases rv <;> first | (exact w.elim) | skip
  rename_i p
  match vs, rvs, w with
  | [v], rvs, w =>
    cases rvs with
    | cons r1 t =>
      cases t
      obtain ⟨xs, e, w0, w⟩ := Bc.onLst_of w
      obtain ⟨ys, hp, rp⟩ := R.lstM e
      exact mt_append pins s σ H _ _ u us Q' I ru r ⟨p, ys, _, rfl, rfl, hp, by rw [rp.length, ← sz]; exact w0, kq _ _ _ _ w (R.set e (.pl (.lst (rp.append (.cons r1 .nil))))) (Fr.set R e) .non⟩
theorem bm_pop : MtR X "list.pop" (rBm T X.K .pop) := by
  intro pins s σ H w ws u us Q' I ru r hq
  obtain ⟨v, vs, h, Q, R, rv, rvs, w, kq⟩ := hq
  cases rv <;> first | (exact w.elim) | skip
  rename_i p
  match vs, rvs, w with
  | [], rvs, w =>
    cases rvs
    obtain ⟨xs, e, w⟩ := Bc.onLst_of w
    obtain ⟨z, ez, w⟩ := Bc.onSome_of w
    obtain ⟨ys, hp, rp⟩ := R.lstM e
    rw [← rp.length] at ez
    obtain ⟨y, ey, ry⟩ := rp.get ez
    exact mt_pop pins s σ H _ _ u us Q' I ru r ⟨p, ys, y, rfl, rfl, hp, ey, kq _ _ _ _ w (R.set e (.pl (.lst rp.dropLast))) (Fr.set R e) (ry.fr R (Fr.set (o' := .lst []) R e))⟩
theorem bm_popAt : MtR X "list.pop" (rBm T X.K .popAt) := by
  intro pins s σ H w ws u us Q' I ru r hq
  obtain ⟨v, vs, h, Q, R, rv, rvs, w, kq⟩ := hq
  cases rv <;> first | (exact w.elim) | skip
  rename_i p
  match vs, rvs, w with
  | [.int i], rvs, w =>
    cases rvs with
    | cons r1 t =>
      cases t
      cases r1
      obtain ⟨xs, e, w⟩ := Bc.onLst_of w
      obtain ⟨j, ej, w⟩ := Bc.onSome_of w
      obtain ⟨z, ez, w⟩ := Bc.onSome_of w
      obtain ⟨ys, hp, rp⟩ := R.lstM e
      obtain ⟨y, ey, ry⟩ := rp.get ez
      rw [← rp.length, ixOf_eq] at ej
      obtain ⟨q1, q2, q3, q4⟩ := ixN_seq ej
      have hl : ys.length ≤ sizeLine := (I.list (.inl (.inl hp))).choose_spec.2.2
      have hz : (sizeLine : Int) < 2 ^ 62 := by rw [sizeLine_eq]; decide
      exact mt_popAt pins s σ H _ _ u us Q' I ru r ⟨p, ys, i, j, y, rfl, rfl, hp, by omega, by omega, q1, ey, kq _ _ _ _ w (R.set e (.pl (.lst (rp.erase j)))) (Fr.set R e) (ry.fr R (Fr.set (o' := .lst []) R e))⟩
theorem bm_insert : MtR X "list.insert" (rBm T X.K .insert) := by
  intro pins s σ H w ws u us Q' I ru r hq
  obtain ⟨v, vs, h, Q, R, rv, rvs, w, kq⟩ := hq
  cases rv <;> first | (exact w.elim) | skip
  rename_i p
  match vs, rvs, w with
  | [.int i, v], rvs, w =>
    cases rvs with
    | cons r1 t =>
      cases t with
      | cons r2 t =>
        cases t
        cases r1
        obtain ⟨xs, e, w0, ⟨w1, w2⟩, w⟩ := Bc.onLst_of w
        obtain ⟨ys, hp, rp⟩ := R.lstM e
        exact mt_insert pins s σ H _ _ u us Q' I ru r ⟨p, ys, i, _, rfl, rfl, hp, by rw [rp.length, ← sz]; exact w0, w1, w2, kq _ _ _ _ w (R.set e (.pl (.lst (((rp.take _).append (.cons r2 .nil)).append (rp.drop _))))) (Fr.set R e) .non⟩
theorem bm_join : MtR X "str.join" (rBm T X.K .join) := by
  intro pins s σ H w ws u us Q' I ru r hq
  obtain ⟨v, vs, h, Q, R, rv, rvs, w, kq⟩ := hq
  cases rv <;> first | (exact w.elim) | skip
  rename_i sep ok
  match vs, rvs, w with
  | [v], rvs, w =>
    cases rvs with
    | cons r1 t =>
      cases t
      obtain ⟨xs, e, w⟩ := Bc.onSome_of w
      obtain ⟨ys, ey, w0, w⟩ := Bc.onSome_of w
      obtain ⟨p, zs, rfl, hp, rp⟩ := itms R r1 e
      obtain ⟨z1, z2⟩ := strs_of rp ey
      rw [z1] at hp
      refine mt_join pins s σ H _ _ u us Q' I ru r ⟨_, p, ys.map SX.S, rfl, rfl, hp, ?_, ?_⟩
      · rw [List.map_map, List.length_map, str_len]
        have q : (List.map (Str.length ∘ SX.S) ys) = ys.map List.length := List.map_congr_left fun a _ => str_len a
        show (List.map (Str.length ∘ SX.S) ys).sum + _ ≤ _
        rw [q]; exact w0
      · rw [SX.join_S, ← joinS_eq]
        exact kq.here R (.str _ (joinS_mem ok z2)) w
theorem bm_split : MtR X "str.split" (rBm T X.K .split) := by
  intro pins s σ H w ws u us Q' I ru r hq
  obtain ⟨v, vs, h, Q, R, rv, rvs, w, kq⟩ := hq
  cases rv <;> first | (exact w.elim) | skip
  rename_i s0 ok
  match vs, rvs, w with
  | [.str [c]], rvs, w =>
    cases rvs with
    | cons r1 t =>
      cases t
      cases r1
      obtain ⟨w0, w1, w⟩ := w
      refine mt_split pins s σ H _ _ u us Q' I ru r ⟨_, _, rfl, rfl, by simp [Str.length], by rw [str_len, ← sz]; exact w0, ?_⟩
      have e : Txt.split ⟨s0.toArray⟩ ⟨[c].toArray⟩ = (Bc.splitC c s0).map SX.S := by
        rw [← split_eq]
        exact SX.split_S (by simp) (by simp; exact w1)
      rw [e]
      have rr : RVs X.K H (((Bc.splitC c s0).map SX.S).map V.str) ((Bc.splitC c s0).map .str) := by
        have gen : ∀ l : List (List Nat), (∀ p ∈ l, ∀ d ∈ p, d < 1114112) → RVs X.K H ((l.map SX.S).map V.str) (l.map .str) := by
          intro l
          induction l with
          | nil => intro _; exact .nil
          | cons a l ih => intro hl; exact .cons (.str a (hl a List.mem_cons_self)) (ih fun p hp => hl p (List.mem_cons_of_mem _ hp))
        exact gen _ (splitC_mem ok)
      exact kq.lst R rr w
theorem bm_starts : MtR X "str.startswith" (rBm T X.K .startswith) := by
  intro pins s σ H w ws u us Q' I ru r hq
  obtain ⟨v, vs, h, Q, R, rv, rvs, w, kq⟩ := hq
  cases rv <;> first | (exact w.elim) | skip
  rename_i s0 ok
  match vs, rvs, w with
  | [.str t], rvs, w =>
    cases rvs with
    | cons r1 tt =>
      cases tt
      cases r1
      refine mt_startswith pins s σ H _ _ u us Q' I ru r ⟨_, _, rfl, rfl, ?_⟩
      rw [isPre_eq]
      exact kq.here R (.bl _) w
theorem bm_count : MtR X "str.count" (rBm T X.K .count) := by
  intro pins s σ H w ws u us Q' I ru r hq
  obtain ⟨v, vs, h, Q, R, rv, rvs, w, kq⟩ := hq
  cases rv <;> first | (exact w.elim) | skip
  rename_i s0 ok
  match vs, rvs, w with
  | [.str [c]], rvs, w =>
    cases rvs with
    | cons r1 tt =>
      cases tt
      cases r1
      refine mt_count pins s σ H _ _ u us Q' I ru r ⟨_, _, rfl, rfl, ?_⟩
      have e : Txt.count ⟨s0.toArray⟩ ⟨[c].toArray⟩ = ((Bc.cnt1 c s0 : Nat) : Int) := by
        rw [show (⟨[c].toArray⟩ : Str) = ⟨#[c]⟩ from rfl, count_cnt]
        exact cnt_eq c s0
      rw [e]
      exact kq.here R (.int _) w
end
end Bs
set_option Elab.async false
set_option linter.all false
set_option maxRecDepth 100000
set_option maxHeartbeats 4000000
namespace Bs
open PySem L2 PyProof.Rows

/-! ### the types asked of -/
def tyName : Bc.Ty → String
  | .str => "str" | .int => "int" | .bool => "bool" | .tup => "tuple" | .lst => "list" | .dct => "dict" | .own _ => ""
/-- the class that isinstance is asked of, as a value -/
def TyV (T : Tab) : Bc.Ty → V
  | .own c => .ref (T.ct c)
  | t => .ty (tyName t)
def TyU (T : Tab) : Bc.Ty → Value
  | .own c => .ref (T.ct c)
  | t => .type (tyName t)
section
variable {X : Cx} {T : Tab} {Γ : Bc.Ctx} {W : WX} {k : Nat} {av : Av} {a b c e : Expr} {ea eb ec : Bc.Exp} {pos p p2 apos cpos : Pos} {es : List Expr} {ees : Bc.Exps} {t u : Bc.Tst}

theorem ty_rv (ok : Ok X T Γ W k av) {x : V} {v : Bc.Val} {H : Hp} {h : Bc.Heap} {r : Bool} (R : Rep T X.K H h) (rv : RV X.K H x v) (ty : Bc.Ty) (hk : ∀ c, ty = .own c → T.kc c = true) (e : Bc.tyIs ty v h = some r) :
    ∃ t, TyX X.K H x t ∧ PySem.W.kitOne X.K t (TyU T ty) = some r := by
  have bt : ∀ (n : String), n ∈ tyNames → (r = match ty with | .own _ => false | t => (kitB n (tyName t)).getD false) → (∀ t, (∀ c, t ≠ Bc.Ty.own c) → (kitB n (tyName t)).isSome = true) → PySem.W.kitOne X.K (.type n) (TyU T ty) = some r := by
    intro n hn hr hs
    have hz : ∀ t, (∀ c, t ≠ Bc.Ty.own c) → r = (kitB n (tyName t)).getD false → PySem.W.kitOne X.K (.type n) (.type (tyName t)) = some r := by
      intro t ht hr
      refine kit_ty ?_
      obtain ⟨q, hq⟩ := Option.isSome_iff_exists.mp (hs t ht)
      rw [hr, hq]
      rfl
    cases ty <;> first | (exact hz _ (by intro c z; cases z) hr) | skip
    rename_i c
    rw [hr]; exact ok.kTO c n (hk c rfl) hn
  have som : ∀ n, n ∈ tyNames → ∀ t, (∀ c, t ≠ Bc.Ty.own c) → (kitB n (tyName t)).isSome = true := by
    intro n hn t ht
    have h1 : t ∈ [Bc.Ty.str, .int, .bool, .tup, .lst, .dct] := by
      cases t with
      | own c => exact absurd rfl (ht c)
      | _ => decide
    have h2 : ∀ n ∈ tyNames, ∀ t ∈ [Bc.Ty.str, .int, .bool, .tup, .lst, .dct], (kitB n (tyName t)).isSome = true := by decide +kernel
    exact h2 n hn t h1
  have val : ∀ n, n ∈ tyNames → ∀ (f : Bc.Ty → Bool), (∀ t ∈ [Bc.Ty.str, .int, .bool, .tup, .lst, .dct], (kitB n (tyName t)).getD false = f t) → (∀ c, f (.own c) = false) → some (f ty) = some r → PySem.W.kitOne X.K (.type n) (TyU T ty) = some r := by
    intro n hn f hf hf2 hfr
    refine bt n hn ?_ (som n hn)
    cases hfr
    cases ty with
    | own c => exact hf2 c
    | _ => exact (hf _ (by decide)).symm
  cases rv with
  | non => exact ⟨_, .base .non, val "NoneType" (by decide) (fun _ => false) (by decide +kernel) (fun _ => rfl) e⟩
  | bl b => exact ⟨_, .base (.bl b), val "bool" (by decide) (fun t => match t with | .bool => true | .int => true | _ => false) (by decide +kernel) (fun _ => rfl) e⟩
  | int i => exact ⟨_, .base (.int i), val "int" (by decide) (fun t => match t with | .int => true | _ => false) (by decide +kernel) (fun _ => rfl) e⟩
  | str s _ => exact ⟨_, .base (.str _), val "str" (by decide) (fun t => match t with | .str => true | _ => false) (by decide +kernel) (fun _ => rfl) e⟩
  | @tup q xs vs hp rp =>
    have z := val "tuple" (by decide) (fun t => match t with | .tup => true | _ => false) (by decide +kernel) (fun _ => rfl) e
    rcases hp with (hp | ⟨od, hp⟩) | ⟨o, _, _, hp, hc, _⟩
    · exact ⟨_, .base (.tup hp), z⟩
    · exact ⟨_, .fTuple hp, z⟩
    · exact ⟨_, .kTuple hp hc, z⟩
  | ref q =>
    unfold Bc.tyIs at e
    dsimp only at e
    cases hq : h q with
    | none => rw [hq] at e; cases e
    | some o =>
      rw [hq] at e
      obtain ⟨u, e2, ro⟩ := R q o hq
      cases ro with
      | pl ro =>
        cases ro with
        | lst ro => exact ⟨_, .base (.lst e2), val "list" (by decide) (fun t => match t with | .lst => true | _ => false) (by decide +kernel) (fun _ => rfl) e⟩
        | dct ro => exact ⟨_, .base (.dK e2), val "dict" (by decide) (fun t => match t with | .dct => true | _ => false) (by decide +kernel) (fun _ => rfl) e⟩
        | @ins c _ _ _ kc ro =>
          have cf := (ok.cls c kc).1
          refine ⟨_, .base (.ins e2 cf.cl cf.ha cf.hn cf.htk cf.hm), ?_⟩
          cases ty with
          | own d => cases e; exact ok.kOO c d kc (hk d rfl)
          | _ => cases e; exact ok.kOT c _ kc (by decide)
      | @frz od u o ro =>
        cases ro with
        | lst ro => exact ⟨_, .base (.frz e2), val "list" (by decide) (fun t => match t with | .lst => true | _ => false) (by decide +kernel) (fun _ => rfl) e⟩
        | dct ro => exact ⟨_, .fDict e2, val "dict" (by decide) (fun t => match t with | .dct => true | _ => false) (by decide +kernel) (fun _ => rfl) e⟩
        | @ins c _ _ _ kc ro => cases e

theorem gl_nb {x : Str} (ok : Ok X T Γ W k av) (h : x ∈ bltNames) : X.mg x = none := ok.blt x h
theorem e_isin (ok : Ok X T Γ W k av) {ty : Bc.Ty} (hk : ∀ c, ty = .own c → T.kc c = true) (hg : Gl X "isinstance") (ha : PE X a (tE T X.K Γ W ea)) (hb : PE X b (tC (TyV T ty)))
    (he : starEach (a :: [b]) X.env = (false, eval a X.env) :: starEach [b] X.env) (he2 : starEach (b :: []) X.env = (false, eval b X.env) :: starEach [] X.env) (hpl : (backTo pos (starEach [b] X.env)).any (·.1) = false) :
    PE X (.Call (.Name "isinstance" p) [a, b] [] pos) (tE T X.K Γ W (.isin ea ty)) :=
  (pe_callB call_isi hg (ok.blt _ (by decide)) (by decide +kernel) (pa_cons ha (pa_cons hb pa_nil he2) he) (by decide) (by decide) he hpl).imp fun σ H Q' ⟨env, h, Q, E, R, S, w, kq, kx⟩ => by
    simp only [Bc.wpE] at w
    refine ⟨env, h, _, E, R, S, w, fun v h1 H1 x q R1 f1 r1 => ?_, kx⟩
    obtain ⟨r, er, q⟩ := Bc.onSome_of q
    obtain ⟨t, tx, kt⟩ := ty_rv ok R1 r1 ty hk er
    refine ⟨x, TyV T ty, t, TyU T ty, r, rfl, ?_, tx, kt, kq _ _ _ _ q R1 f1 (.bl r)⟩
    cases ty <;> first | exact .ty _ | exact .own _
theorem pe_tyOwn {c : Nat} (ok : Ok X T Γ W k av) (kc : T.kc c = true) (hg : Gl X (T.clN c)) (hd : (T.clN c == ("__debug__" : Str)) = false) : PE X (.Name (T.clN c) pos) (tC (TyV T (.own c))) :=
  pe_glob hg (ok.cls c kc).2 rfl hd
theorem pe_tyB {n : String} {x : Str} (ok : Ok X T Γ W k av) (hx : x ∈ bltNames) (hv : bootBuiltins x = some (.type n)) (hg : Gl X x) (hn : x ≠ "__name__") (hd : (x == ("__debug__" : Str)) = false) : PE X (.Name x pos) (tC (.ty n)) :=
  pe_bltn hg (ok.blt x hx) hv rfl hn hd

/-- a built-in's call -/
theorem e_biB {bi : Bc.BI} {id : String} {x : Str} (hc : CallR X (.builtin id) (rBi T X.K bi)) (hg : Gl X x) (hm : X.mg x = none) (hv : bootBuiltins x = some (.builtin id)) (ha : PA X (a :: es) (tA T X.K Γ W ees)) (hn : x ≠ "__name__") (hd : (x == ("__debug__" : Str)) = false)
    (he : starEach (a :: es) X.env = (false, eval a X.env) :: starEach es X.env) (hpl : (backTo pos (starEach es X.env)).any (·.1) = false) : PE X (.Call (.Name x p) (a :: es) [] pos) (tE T X.K Γ W (.bi bi ees)) :=
  (pe_callB hc hg hm hv ha hn hd he hpl).imp fun σ H Q' ⟨env, h, Q, E, R, S, w, kq, kx⟩ => by
    simp only [Bc.wpE] at w
    exact args R S w kx fun vs h1 H1 ws l q R1 f1 r1 => ⟨vs, h1, Q, R1, r1, q, kq.step f1⟩
theorem e_biT {bi : Bc.BI} {id : String} {x : Str} (hc : CallR X (.type id) (rBi T X.K bi)) (hg : Gl X x) (hm : X.mg x = none) (hv : bootBuiltins x = some (.type id)) (ha : PA X (a :: es) (tA T X.K Γ W ees)) (hn : x ≠ "__name__") (hd : (x == ("__debug__" : Str)) = false)
    (he : starEach (a :: es) X.env = (false, eval a X.env) :: starEach es X.env) (hpl : (backTo pos (starEach es X.env)).any (·.1) = false) : PE X (.Call (.Name x p) (a :: es) [] pos) (tE T X.K Γ W (.bi bi ees)) :=
  (pe_callTy hc hg hm hv ha hn hd he hpl).imp fun σ H Q' ⟨env, h, Q, E, R, S, w, kq, kx⟩ => by
    simp only [Bc.wpE] at w
    exact args R S w kx fun vs h1 H1 ws l q R1 f1 r1 => ⟨vs, h1, Q, R1, r1, q, kq.step f1⟩

/-! ### methods of built-ins -/
def bmT : Bc.BM → String
  | .append => "list" | .pop => "list" | .popAt => "list" | .insert => "list" | .index => "list"
  | .join => "str" | .split => "str" | .startswith => "str" | .count => "str"
  | _ => "dict"
theorem bm_ty {m : Bc.BM} {x : V} {v : Bc.Val} {H : Hp} {h : Bc.Heap} (R : Rep T X.K H h) (r : RV X.K H x v) (o : Bc.bmOk m v h) (hm : bmT m ≠ "dict") : tyV X.K (bmT m) x H := by
  cases r with
  | str s ok => cases m <;> first | exact o.elim | rfl
  | ref q =>
    cases m <;> first | exact o.elim | (exact absurd rfl hm) | skip
    all_goals
      obtain ⟨xs, e, _⟩ := Bc.onLst_of o
      obtain ⟨ys, hp, rp⟩ := R.lstM e
      exact .inl ⟨rfl, ys, .inl (.inl hp)⟩
  | _ => exact o.elim
theorem e_bm {m : Bc.BM} {nm : Str} {id : String} (pa : PlainAttrs (bmT m)) (slot : Slot (bmT m) nm id) (hty : typeOf (.builtin id) = pure (.type "method_descriptor")) (hc : MtR X id (rBm T X.K m)) (hd : bmT m ≠ "dict")
    (ho : PE X a (tE T X.K Γ W ea)) (ha : PA X (b :: es) (tA T X.K Γ W ees))
    (hbase : attributeBase a nm X.env (eval a X.env) = eval a X.env)
    (hfew : ((backTo cpos (starEach (b :: es) X.env)).all (fun x => !x.1) && (backToKw cpos (keywordEach [] X.env)).all (fun x => x.1.isSome)
      && decide ((b :: es).length + ([] : List Keyword).length + (if ([] : List Keyword).isEmpty then 0 else 1) < 30)) = true)
    (hline : (apos.endLine == cpos.line) = true) (hs : starEach (b :: es) X.env = (false, eval b X.env) :: starEach es X.env) (hplain : (backTo cpos (starEach es X.env)).any (·.1) = false) :
    PE X (.Call (.Attribute a nm apos) (b :: es) [] cpos) (tE T X.K Γ W (.bm ea m ees)) :=
  (pe_bm pa slot hty hc ho ha hbase hfew hline hs hplain).imp fun σ H Q' ⟨env, h, Q, E, R, S, w, kq, kx⟩ => by
    simp only [Bc.wpE] at w
    refine ⟨env, h, _, E, R, S, w, fun v h1 H1 x q R1 f1 r1 => ⟨bm_ty R1 r1 q.1 hd, ?_⟩, kx⟩
    exact args R1 (S.fr R f1) q.2 (kx.step f1) fun vs h2 H2 ws l q2 R2' f2 r2 => ⟨v, vs, h2, Q, R2', r1.fr R1 f2, r2, q2, kq.step (f1.trans f2)⟩
theorem e_bm0 {m : Bc.BM} {nm : Str} {id : String} (pa : PlainAttrs (bmT m)) (slot : Slot (bmT m) nm id) (hty : typeOf (.builtin id) = pure (.type "method_descriptor")) (hc : MtR X id (rBm T X.K m)) (hd : bmT m ≠ "dict")
    (ho : PE X a (tE T X.K Γ W ea)) (hbase : attributeBase a nm X.env (eval a X.env) = eval a X.env) (hline : (apos.endLine == cpos.line) = true) :
    PE X (.Call (.Attribute a nm apos) [] [] cpos) (tE T X.K Γ W (.bm ea m .nil)) :=
  (pe_bm0 pa slot hty hc ho hbase hline).imp fun σ H Q' ⟨env, h, Q, E, R, S, w, kq, kx⟩ => by
    simp only [Bc.wpE, Bc.wpEs] at w
    exact ⟨env, h, _, E, R, S, w, fun v h1 H1 x q R1 f1 r1 => ⟨bm_ty R1 r1 q.1 hd, v, [], h1, Q, R1, r1, .nil, q.2, kq.step f1⟩, kx⟩
theorem e_get (hu : X.A.units + 64 < cLine) (ho : PE X a (tE T X.K Γ W ea)) (hb : PE X b (tE T X.K Γ W eb)) (m : M1 X a "get" apos b cpos) : PE X (.Call (.Attribute a "get" apos) [b] [] cpos) (tE T X.K Γ W (.bm ea .get (.cons eb .nil))) :=
  (pe_dget1 (by omega) ho hb m).imp fun σ H Q' ⟨env, h, Q, E, R, S, w, kq, kx⟩ => by
    simp only [Bc.wpE, Bc.wpEs] at w
    refine ⟨env, h, _, E, R, S, w, fun v h1 H1 x q R1 f1 r1 => ?_, kx⟩
    obtain ⟨o, q⟩ := q
    cases r1 <;> first | exact o.elim | skip
    rename_i pp
    obtain ⟨kvs, e, _⟩ := Bc.onDct_of o
    obtain ⟨ks, hp, rp⟩ := R1.dct e
    refine ⟨pp, rfl, .inl ⟨ks, hp⟩, env, h1, _, E, R1, S.fr R f1, q, fun v2 h2 H2 y q2 R2' f2 r2 => ?_, kx.step f1⟩
    obtain ⟨kvs2, e2, q2, q3⟩ := Bc.onDct_of (show Bc.onDct _ _ from q2)
    obtain ⟨ks2, hp2, rp2⟩ := R2'.dct e2
    obtain ⟨k0, ek, rk⟩ := key_of r2 q2
    subst ek
    refine ⟨valV ks2 k0, dget_rd hp2, ?_⟩
    have g := rks_get rk rp2
    cases z : Bc.dget kvs2 v2 with
    | none =>
      rw [g.2 z]
      rw [z] at q3
      exact kq _ _ _ _ q3 R2' (f1.trans f2) .non
    | some v3 =>
      obtain ⟨w3, e3, r3⟩ := g.1 v3 z
      rw [e3]
      rw [z] at q3
      exact kq _ _ _ _ q3 R2' (f1.trans f2) r3
end
end Bs
set_option Elab.async false
set_option linter.all false
set_option maxRecDepth 100000
set_option maxHeartbeats 4000000
namespace Bs
open PySem L2 PyProof.Rows

/-! ### walks -/
structure Wk (T : Tab) (K : PySem.W.Frag) (J : It) (items : List Bc.Val) (okh : Bc.Heap → Prop) (okH : Hp → Prop) : Prop where
  keep : ∀ H h H' h', Rep T K H h → Fr H h H' h' → okH H → okH H'
  stop : ∀ i H h, Rep T K H h → okh h → okH H → items.length ≤ i → J.stop i H
  go : ∀ i H h, Rep T K H h → okh h → okH H → i < items.length → J.go i H
  yld : ∀ i H h x H' v, Rep T K H h → okh h → okH H → items[i]? = some v → J.yld i H x H' → Rep T K H' h ∧ Fr H h H' h ∧ RV K H' x v
def NoF (X : Cx) (d : Addr) : Prop := ∀ o' u', X.H_0 d ≠ some (.frz o' u')
/-- behind the walk's head -/
def PostI (X : Cx) (T : Tab) (K : PySem.W.Frag) (R : Bc.Walk → Bc.Heap → Prop) (H : Hp) (h : Bc.Heap) (R' : It → Hp → Prop) : Prop :=
  ∀ wk h1 H2 J okH, R wk h1 → Rep T K H2 (Bc.lockH wk.lock h1) → Fr H h H2 (Bc.lockH wk.lock h1) → (∀ a, wk.lock = some a → NoF X a ∧ ∀ od u, H a ≠ some (.frz od u)) → okH H2 → Wk T K J wk.items wk.ok okH → R' J H2
def tI (X : Cx) (T : Tab) (Γ : Bc.Ctx) (W : WX) (it : Bc.Itr) : TI := fun σ H R' =>
  ∃ env h R E, Rep T X.K H h ∧ ER X.K H σ env ∧ Bc.wpI Γ it env h R E ∧ PostI X T X.K R H h R' ∧ XP T X.K E H h (fun c d H' => W c d σ H')
theorem _root_.L2.PI.imp {X : Cx} {tg e : Expr} {t t' : TI} (p : PI X tg e t) (f : ∀ σ H R, t' σ H R → t σ H R) : PI X tg e t' := ⟨fun pins s σ H R I h => p.run pins s σ H R I (f σ H R h)⟩

section
variable {T : Tab} {K : PySem.W.Frag}
theorem wk_list {a : Addr} {vs : List Bc.Val} : Wk T K (Itl K a) vs (fun h => Bc.rd h a = some (.lst vs)) (fun _ => True) where
  keep := fun _ _ _ _ _ _ _ => True.intro
  stop := fun i H h R o _ hi => by
    obtain ⟨xs, hp, rp⟩ := R.lst o
    exact ⟨xs, hp, by rw [rp.length]; exact hi⟩
  go := fun i H h R o _ hi => by
    obtain ⟨xs, hp, rp⟩ := R.lst o
    have hl : i < xs.length := by rw [rp.length]; exact hi
    exact ⟨xs, xs[i], hp, List.getElem?_eq_getElem hl⟩
  yld := fun i H h x H' v R o _ hv y => by
    obtain ⟨xs, hp, rp⟩ := R.lst o
    obtain ⟨e, y⟩ := y
    subst e
    obtain ⟨x', e1, r1⟩ := rp.get hv
    have e2 := y xs hp
    rw [e1] at e2
    cases e2
    exact ⟨R, .refl, r1⟩
theorem wk_tup {a : Addr} {xs : List V} {vs : List Bc.Val} : Wk T K (Itt K a) vs (fun _ => True) (fun H => SqT K H a xs ∧ RVs K H xs vs) where
  keep := fun H h H' h' R f o => ⟨f.tups R _ _ o.1, o.2.fr R f⟩
  stop := fun i H h R _ o hi => ⟨xs, o.1, by rw [o.2.length]; exact hi⟩
  go := fun i H h R _ o hi => by
    have hl : i < xs.length := by rw [o.2.length]; exact hi
    exact ⟨xs, xs[i], o.1, List.getElem?_eq_getElem hl⟩
  yld := fun i H h x H' v R _ o hv y => by
    obtain ⟨e, y⟩ := y
    subst e
    obtain ⟨x', e1, r1⟩ := o.2.get hv
    have e2 := y xs o.1
    rw [e1] at e2
    cases e2
    exact ⟨R, .refl, r1⟩
theorem wk_str {s : List Nat} (ok : ∀ c ∈ s, c < 1114112) : Wk T K (Its ⟨s.toArray⟩) (Bc.signs s) (fun _ => True) (fun _ => True) where
  keep := fun _ _ _ _ _ _ _ => True.intro
  stop := fun i H h R o _ hi => by
    show s.toArray.size ≤ i
    simpa [Bc.signs] using hi
  go := fun i H h R o _ hi => by
    show i < s.toArray.size
    simpa [Bc.signs] using hi
  yld := fun i H h x H' v R o _ hv y => by
    obtain ⟨e, c, e1, e2⟩ := y
    subst e e2
    refine ⟨R, .refl, ?_⟩
    have e3 : s[i]? = some c := by simpa using e1
    have e4 : v = .str [c] := by
      unfold Bc.signs at hv
      rw [List.getElem?_map, e3] at hv
      exact (Option.some.inj hv).symm
    subst e4
    exact .str [c] fun d hd => by rw [List.mem_singleton] at hd; subst hd; exact ok _ (List.mem_of_getElem? e3)
theorem wk_rng {i : Int} {n : Nat} : Wk T K (Itr i n) (Bc.rangeL i n) (fun _ => True) (fun _ => True) where
  keep := fun _ _ _ _ _ _ _ => True.intro
  stop := fun j H h R o _ hi => by show n ≤ j; simpa [Bc.rangeL] using hi
  go := fun j H h R o _ hi => by show j < n; simpa [Bc.rangeL] using hi
  yld := fun j H h x H' v R o _ hv y => by
    obtain ⟨e, e1⟩ := y
    subst e e1
    refine ⟨R, .refl, ?_⟩
    unfold Bc.rangeL at hv
    rw [List.getElem?_map] at hv
    by_cases hj : j < n
    · rw [List.getElem?_range hj] at hv
      cases hv
      exact .int _
    · rw [List.getElem?_eq_none (by simpa using hj)] at hv
      cases hv
theorem rks_keys {H : Hp} : ∀ {ks : List (Key × V)} {vs : List (Bc.Val × Bc.Val)}, RKs K H ks vs → ∀ {i : Nat} {k : Key} {x : V} {v : Bc.Val}, ks[i]? = some (k, x) → (Bc.keysOf vs)[i]? = some v → RKey k v
  | _, _, .nil, i, k, x, v, e, _ => by simp at e
  | _, _, .cons r _ t, 0, k, x, v, e, f => by
    simp at e
    simp [Bc.keysOf] at f
    rw [← e.1, ← f]
    exact r
  | _, _, .cons r _ t, i + 1, k, x, v, e, f => rks_keys t (i := i) (k := k) (x := x) (v := v) (by simpa using e) (by simpa [Bc.keysOf] using f)
theorem keysOf_len (vs : List (Bc.Val × Bc.Val)) : (Bc.keysOf vs).length = vs.length := by unfold Bc.keysOf; rw [List.length_map]
theorem rkey_rv {H : Hp} {k : Key} {v : Bc.Val} (r : RKey k v) : RV K H (kV k) v := by
  cases k with
  | inl i =>
    cases v <;> first | exact r.elim | skip
    cases (show i = _ from r)
    exact .int _
  | inr s =>
    cases v <;> first | exact r.elim | skip
    rename_i t
    obtain ⟨e, ok⟩ : s = ⟨t.toArray⟩ ∧ ∀ c ∈ t, c < 1114112 := r
    subst e
    exact .str t ok
theorem wk_dct {d : Addr} {od : Obj} {ks : List (Key × V)} {vs : List (Bc.Val × Bc.Val)} : Wk T K (Itk d od ks) (Bc.keysOf vs) (fun h => h d = some (.frz (.dct vs))) (fun H => H d = some (.frz od (.dK ks))) where
  keep := fun H h H' h' R f o => f.fz _ _ _ o
  stop := fun i H h R o oH hi => by
    obtain ⟨u, e, r⟩ := R d _ o
    rw [oH] at e
    cases e
    cases r with
    | pl r => cases r
    | frz r =>
      cases r with
      | dct r => exact ⟨oH, by rw [rks_len r, ← keysOf_len]; exact hi⟩
  go := fun i H h R o oH hi => by
    obtain ⟨u, e, r⟩ := R d _ o
    rw [oH] at e
    cases e
    cases r with
    | pl r => cases r
    | frz r =>
      cases r with
      | dct r => exact ⟨oH, by rw [rks_len r, ← keysOf_len]; exact hi⟩
  yld := fun i H h x H' v R o oH hv y => by
    obtain ⟨u, e, r⟩ := R d _ o
    rw [oH] at e
    cases e
    obtain ⟨e0, k, x0, e1, e2⟩ := y
    subst e0 e2
    cases r with
    | pl r => cases r
    | frz r =>
      cases r with
      | dct r => exact ⟨R, .refl, rkey_rv (rks_keys r e1 hv)⟩
/-- a pair that enumerate makes -/
theorem zipIx_get : ∀ (xs : List Bc.Val) (n i : Nat) (v : Bc.Val), (Bc.zipIx n xs)[i]? = some v → ∃ x, xs[i]? = some x ∧ v = .tup [.int ((n + i : Nat) : Int), x]
  | [], n, i, v, e => by simp [Bc.zipIx] at e
  | x :: xs, n, 0, v, e => by
    simp [Bc.zipIx] at e
    exact ⟨x, rfl, e.symm⟩
  | x :: xs, n, i + 1, v, e => by
    obtain ⟨y, h1, h2⟩ := zipIx_get xs (n + 1) i v (by simpa [Bc.zipIx] using e)
    refine ⟨y, by simpa using h1, ?_⟩
    rw [h2, show n + 1 + i = n + (i + 1) by omega]
theorem zipIx_len : ∀ (xs : List Bc.Val) (n : Nat), (Bc.zipIx n xs).length = xs.length
  | [], _ => rfl
  | _ :: xs, n => congrArg (· + 1) (zipIx_len xs (n + 1))
theorem wk_enum {a : Addr} {vs : List Bc.Val} : Wk T K (Ite K a) (Bc.zipIx 0 vs) (fun h => Bc.rd h a = some (.lst vs)) (fun _ => True) where
  keep := fun _ _ _ _ _ _ _ => True.intro
  stop := fun i H h R o _ hi => by
    obtain ⟨xs, hp, rp⟩ := R.lst o
    rw [zipIx_len] at hi
    exact ⟨xs, hp, by rw [rp.length]; exact hi⟩
  go := fun i H h R o _ hi => by
    obtain ⟨xs, hp, rp⟩ := R.lst o
    rw [zipIx_len] at hi
    have hl : i < xs.length := by rw [rp.length]; exact hi
    exact ⟨xs, xs[i], hp, List.getElem?_eq_getElem hl⟩
  yld := fun i H h x H' v R o _ hv y => by
    obtain ⟨xs, hp, rp⟩ := R.lst o
    obtain ⟨p, y0, ex, hn, eH, y⟩ := y
    subst ex eH
    obtain ⟨z, e1, e2⟩ := zipIx_get vs 0 i v hv
    subst e2
    obtain ⟨x', e3, r3⟩ := rp.get e1
    have e4 := y xs hp
    rw [e3] at e4
    cases e4
    have f := Fr.newU (o := .tup [.int (i : Nat), y0]) R hn
    refine ⟨R.newU hn, f, .tup (.inl (.inl upd_same)) ?_⟩
    rw [Nat.zero_add]
    exact .cons (.int _) (.cons (r3.fr R f) .nil)
end

section
variable {X : Cx} {T : Tab} {Γ : Bc.Ctx} {W : WX} {k : Nat} {av : Av} {a b c e tg : Expr} {ea eb ec : Bc.Exp} {pos p p2 apos cpos : Pos} {es : List Expr} {ees : Bc.Exps} {t u : Bc.Tst}
theorem i_lst (ha : PE X a (tE T X.K Γ W ea)) : PI X tg a (tI X T Γ W (.lst ea)) :=
  (pi_list ha).imp fun σ H R' ⟨env, h, R, E, Rp, S, w, k, kx⟩ => by
    simp only [Bc.wpI] at w
    refine ⟨env, h, _, E, Rp, S, w, fun v h1 H1 x q R1 f1 r1 => ?_, kx⟩
    obtain ⟨q0, rfl, q⟩ := Bc.onRef_of q
    obtain ⟨vs, e, q⟩ := Bc.onLst_of q
    cases r1
    obtain ⟨xs, hp, rp⟩ := R1.lst e
    exact ⟨q0, rfl, ⟨xs, hp⟩, k _ h1 H1 _ _ q R1 f1 (fun a z => (nomatch z)) True.intro wk_list⟩
theorem i_tup (ha : PE X a (tE T X.K Γ W ea)) : PI X tg a (tI X T Γ W (.tup ea)) :=
  (pi_tup ha).imp fun σ H R' ⟨env, h, R, E, Rp, S, w, k, kx⟩ => by
    simp only [Bc.wpI] at w
    refine ⟨env, h, _, E, Rp, S, w, fun v h1 H1 x q R1 f1 r1 => ?_, kx⟩
    cases r1 <;> first | exact q.elim | skip
    rename_i q0 xs vs hp rp
    exact ⟨q0, rfl, ⟨xs, hp⟩, k _ h1 H1 _ _ q R1 f1 (fun a z => (nomatch z)) ⟨hp, rp⟩ wk_tup⟩
theorem i_str (ha : PE X a (tE T X.K Γ W ea)) : PI X tg a (tI X T Γ W (.str ea)) :=
  (pi_str ha).imp fun σ H R' ⟨env, h, R, E, Rp, S, w, k, kx⟩ => by
    simp only [Bc.wpI] at w
    refine ⟨env, h, _, E, Rp, S, w, fun v h1 H1 x q R1 f1 r1 => ?_, kx⟩
    cases r1 <;> first | exact q.elim | skip
    rename_i s ok
    exact ⟨_, rfl, k _ h1 H1 _ _ q R1 f1 (fun a z => (nomatch z)) True.intro (wk_str ok)⟩
theorem i_rng1 (hg : Gl X "range") (hm : X.mg "range" = none) (ha : PE X a (tE T X.K Γ W ea)) (hs : starEach [a] X.env = [(false, eval a X.env)]) : PI X tg (.Call (.Name "range" p) [a] [] pos) (tI X T Γ W (.rng1 ea)) :=
  (pi_range1 hg hm (pa_cons ha pa_nil hs) hs).imp fun σ H R' ⟨env, h, R, E, Rp, S, w, k, kx⟩ => by
    simp only [Bc.wpI] at w
    refine ⟨env, h, _, E, Rp, S, w, fun v h1 H1 x q R1 f1 r1 => ?_, kx⟩
    obtain ⟨i, rfl, q0, q⟩ := Bc.onI_of q
    cases r1
    exact ⟨i, rfl, q0.1, q0.2, k _ h1 H1 _ _ q R1 f1 (fun a z => (nomatch z)) True.intro wk_rng⟩
theorem i_rng2 (hg : Gl X "range") (hm : X.mg "range" = none) (ha : PE X a (tE T X.K Γ W ea)) (hb : PE X b (tE T X.K Γ W eb)) (hs : starEach [a, b] X.env = [(false, eval a X.env), (false, eval b X.env)]) (hs2 : starEach [b] X.env = [(false, eval b X.env)]) :
    PI X tg (.Call (.Name "range" p) [a, b] [] pos) (tI X T Γ W (.rng2 ea eb)) :=
  (pi_range2 hg hm (pa_cons ha (pa_cons hb pa_nil hs2) (by rw [hs, hs2])) hs hs2).imp fun σ H R' ⟨env, h, R, E, Rp, S, w, k, kx⟩ => by
    simp only [Bc.wpI] at w
    refine ⟨env, h, _, E, Rp, S, w, fun v h1 H1 x q R1 f1 r1 => ?_, kx⟩
    refine ⟨env, h1, _, E, R1, S.fr Rp f1, q, fun v2 h2 H2 y q2 R2' f2 r2 => ?_, kx.step f1⟩
    obtain ⟨i, e1, q3⟩ := Bc.onI_of q2
    obtain ⟨j, e2, q0, q4⟩ := Bc.onI_of (show Bc.onI v2 _ from q3)
    subst e1 e2
    cases r1
    cases r2
    exact ⟨i, j, rfl, q0, k _ h2 H2 _ _ q4 R2' (f1.trans f2) (fun a z => (nomatch z)) True.intro wk_rng⟩
theorem i_enumL {elts : List Expr} {kk : Nat} {tpos : Pos} (hg : Gl X "enumerate") (hm : X.mg "enumerate" = none) (ha : PE X a (tE T X.K Γ W ea)) (hs : starEach [a] X.env = [(false, eval a X.env)]) :
    PI X (.Tuple elts kk tpos) (.Call (.Name "enumerate" p) [a] [] pos) (tI X T Γ W (.enumL ea)) :=
  (pi_enum hg hm (pa_cons ha pa_nil hs) hs).imp fun σ H R' ⟨env, h, R, E, Rp, S, w, k, kx⟩ => by
    simp only [Bc.wpI] at w
    refine ⟨env, h, _, E, Rp, S, w, fun v h1 H1 x q R1 f1 r1 => ?_, kx⟩
    obtain ⟨q0, rfl, q⟩ := Bc.onRef_of q
    obtain ⟨vs, e, q⟩ := Bc.onLst_of q
    cases r1
    obtain ⟨xs, hp, rp⟩ := R1.lst e
    exact ⟨q0, xs, rfl, hp, k _ h1 H1 _ _ q R1 f1 (fun a z => (nomatch z)) True.intro wk_enum⟩
/-- the value locked as it comes -/
def tLk (X : Cx) (t : TE) : TE := fun σ H Q => t σ H fun x H1 => Q x H1 ∨ ∃ d ks, x = .ref d ∧ H1 d = some (.dK ks) ∧ ∀ od, NoF X d → Q x (upd H1 d (.frz od (.dK ks)))
theorem pe_lk {t : TE} (h : PE X a t) : PE X a (tLk X t) := by
  refine ⟨fun pins s σ H Q I hq => thn (h.run pins s σ H _ I hq) fun u s1 ⟨x, H1, I1, r, z⟩ => ?_⟩
  rcases z with z | ⟨d, ks, rfl, hd, z⟩
  · exact ⟨x, H1, I1, r, z⟩
  · obtain ⟨od, I2⟩ := L2.Inv.lock I1 hd True.intro
    exact ⟨_, _, I2, r, z od (L2.Inv.nofrz I1 hd True.intro)⟩
theorem i_dct (ha : PE X a (tE T X.K Γ W ea)) : PI X tg a (tI X T Γ W (.dct ea)) :=
  (pi_keys (pe_lk ha)).imp fun σ H R' ⟨env, h, R, E, Rp, S, w, k, kx⟩ => by
    simp only [Bc.wpI] at w
    refine ⟨env, h, _, E, Rp, S, w, fun v h1 H1 x q R1 f1 r1 => ?_, kx⟩
    obtain ⟨d, ed, qd⟩ := Bc.onRef_of (show Bc.onRef v _ from q)
    clear q
    subst ed
    cases r1
    split at qd
    · rename_i kvs e
      obtain ⟨ks, hp, rp⟩ := R1.dctM e
      refine .inr ⟨d, ks, rfl, hp, fun od nf => ⟨d, od, rfl, .inl ⟨ks, upd_same, ?_⟩⟩⟩
      have e2 : Bc.lockH (some d) h1 = Bc.upd h1 d (.frz (.dct kvs)) := by simp only [Bc.lockH, e]
      have R2' : Rep T X.K (upd H1 d (.frz od (.dK ks))) (Bc.lockH (some d) h1) := by rw [e2]; exact R1.set e (.frz (.dct rp))
      have f2 : Fr H1 h1 (upd H1 d (.frz od (.dK ks))) (Bc.lockH (some d) h1) := by rw [e2]; exact Fr.set R1 e
      refine k _ h1 _ _ _ qd R2' (f1.trans f2) (fun a z => ?_) upd_same wk_dct
      cases z
      exact ⟨nf, fun od' u z => R1.nofrz e (by intro o z; cases z) od' u (f1.fz _ _ _ z)⟩
    · rename_i kvs e
      obtain ⟨u, hp, rp⟩ := R1 d _ e
      cases rp with
      | pl rp => cases rp
      | @frz od _ _ rp =>
        cases rp with
        | dct rp => exact .inl ⟨d, od, rfl, .inl ⟨_, hp, k _ h1 _ _ _ qd R1 f1 (fun a z => (nomatch z)) hp wk_dct⟩⟩
    · exact qd.elim
end
end Bs
set_option Elab.async false
set_option linter.all false
set_option maxRecDepth 100000
set_option maxHeartbeats 4000000
namespace Bs
open PySem L2 PyProof.Rows

/-! ### targets -/
def gNames : List Nat → TGs
  | [] => gNil
  | i :: is => gCons (gName i) (gNames is)
/-- one name, or the parts of a tuple -/
def tG (K : PySem.W.Frag) (is : List Nat) : TG := match is with
  | [i] => gName i
  | is => gTup K is.length (gNames is)
section
variable {X : Cx} {T : Tab} {K : PySem.W.Frag} {H : Hp} {σ : L2.St} {env env' : Bc.Env}
/-- slots set, outside of is nothing -/
def Off (is : List Nat) (σ σ' : L2.St) : Prop := σ'.length = σ.length ∧ ∀ (i : Nat), i ∉ is → σ'[i]? = σ[i]?
theorem Off.refl (is : List Nat) (σ : L2.St) : Off is σ σ := ⟨rfl, fun _ _ => rfl⟩
theorem Off.set {is : List Nat} {σ σ' : L2.St} (o : Off is σ σ') {i : Nat} (hi : i ∈ is) (v : Option V) : Off is σ (σ'.set i v) := by
  refine ⟨by rw [List.length_set]; exact o.1, fun j hj => ?_⟩
  rw [List.getElem?_set_ne (fun e => hj (by rw [← e]; exact hi))]
  exact o.2 j hj
theorem off_wipe (is : List Nat) (σ : L2.St) : ∀ js : List Nat, (∀ j ∈ js, j ∈ is) → Off is σ (wipe σ js)
  | [], _ => .refl is σ
  | j :: js, h => (off_wipe is σ js fun x hx => h x (List.mem_cons_of_mem _ hx)).set (h j List.mem_cons_self) none
theorem wipe_at {σ : L2.St} : ∀ {is : List Nat} {i : Nat}, i ∈ is → (wipe σ is)[i]? = if i < σ.length then some none else none
  | j :: is, i, h => by
    unfold wipe
    by_cases e : j = i
    · subst e
      by_cases hl : j < σ.length
      · rw [List.getElem?_set_self (by rw [wipe_length]; exact hl), if_pos hl]
      · rw [List.getElem?_eq_none (by rw [List.length_set, wipe_length]; omega), if_neg hl]
    · rw [List.getElem?_set_ne e]
      rcases List.mem_cons.mp h with z | z
      · exact absurd z.symm e
      · exact wipe_at z
theorem wipe_off {is : List Nat} {σ σ' : L2.St} (o : Off is σ σ') : wipe σ' is = wipe σ is := by
  apply List.ext_getElem?
  intro i
  by_cases h : i ∈ is
  · rw [wipe_at h, wipe_at h, o.1]
  · rw [(off_wipe is σ' is fun _ z => z).2 i h, (off_wipe is σ is fun _ z => z).2 i h, o.2 i h]
theorem many {Q : L2.St → Hp → Prop} {js : List Nat} {σ0 : L2.St} : ∀ {is : List Nat} {vs : List Bc.Val} {xs : List V} {env env' : Bc.Env} {σ : L2.St}, RVs K H xs vs → ER K H σ env → Bc.setMany env is vs = some env' → (∀ i ∈ is, i ∈ js) → Off js σ0 σ →
    (∀ σ', ER K H σ' env' → Off js σ0 σ' → Q σ' H) → gNames is xs σ H Q
  | [], [], _, env, env', σ, .nil, S, e, _, o, k => by cases e; exact ⟨rfl, k σ S o⟩
  | i :: is, v :: vs, x :: xs, env, env', σ, .cons r t, S, e, hj, o, k =>
    ⟨x, xs, rfl, many (is := is) t (S.set r i) e (fun j z => hj j (List.mem_cons_of_mem _ z)) (o.set (hj i List.mem_cons_self) _) k⟩
  | [], _ :: _, _, _, _, _, _, _, e, _, _, _ => nomatch e
  | _ :: _, [], _, _, _, _, _, _, e, _, _, _ => nomatch e
theorem bind_ok {Q : L2.St → Hp → Prop} {is : List Nat} {v : Bc.Val} {x : V} {σ0 : L2.St} (r : RV K H x v) (S : ER K H σ env) (e : Bc.bindT is v env = some env') (o : Off is σ0 σ) (k : ∀ σ', ER K H σ' env' → Off is σ0 σ' → Q σ' H) : tG K is x σ H Q := by
  match is, e with
  | [i], e =>
    cases e
    exact k _ (S.set r i) (o.set (by simp) _)
  | [], e =>
    unfold Bc.bindT at e
    dsimp only at e
    cases r with
    | @tup p xs vs hp rp =>
      have e' : Bc.setMany env [] vs = some env' := e
      cases vs with
      | nil => cases rp; exact ⟨p, [], rfl, hp, rfl, many .nil S e' (fun _ z => z) o k⟩
      | cons _ _ => cases e'
    | _ => cases e
  | i :: j :: is, e =>
    unfold Bc.bindT at e
    dsimp only at e
    have hl : ∀ (is : List Nat) (vs : List Bc.Val) (env env' : Bc.Env), Bc.setMany env is vs = some env' → vs.length = is.length := by
      intro is
      induction is with
      | nil => intro vs env env' e; cases vs with
        | nil => rfl
        | cons _ _ => cases e
      | cons i is ih => intro vs env env' e; cases vs with
        | nil => cases e
        | cons v vs => exact congrArg (· + 1) (ih vs _ _ e)
    cases r with
    | @tup p xs vs hp rp =>
      have e' : Bc.setMany env (i :: j :: is) vs = some env' := e
      exact ⟨p, xs, rfl, hp, by rw [rp.length]; exact hl _ _ _ _ e', many rp S e' (fun _ z => z) o k⟩
    | _ => cases e
end

/-! ### unlocked at the end -/
def Unl (X : Cx) (P : Hp → Prop) (H : Hp) : Prop := P H ∨ ∃ d od u, H d = some (.frz od u) ∧ NoF X d ∧ P (upd H d u)
def tUE (X : Cx) (t : TE) : TE := fun σ H Q => t σ H fun v H' => Unl X (Q v) H'
def tUS (X : Cx) (t : TS) : TS := fun D σ H => t ⟨fun σ' H' => Unl X (D.nx σ') H', fun v H' => Unl X (D.rt v) H', fun σ' H' => Unl X (D.bk σ') H', fun σ' H' => Unl X (D.ct σ') H'⟩ σ H
section
variable {X : Cx}
theorem pe_unl {e : Expr} {t : TE} (h : PE X e t) : PE X e (tUE X t) := by
  refine ⟨fun pins s σ H Q I hq => thn (h.run pins s σ H _ I hq) fun u s1 ⟨x, H1, I1, r, z⟩ => ?_⟩
  rcases z with z | ⟨d, od, u, hd, nf, z⟩
  · exact ⟨x, H1, I1, r, z⟩
  · exact ⟨x, _, L2.Inv.unlock I1 hd nf, r, z⟩
theorem ps_unl {st : Stmt} {t : TS} (h : PS X st t) : PS X st (tUS X t) := by
  refine ⟨fun pins s σ H D I hq => thn (h.run pins s σ H _ I hq) fun f s1 z => ?_⟩
  have go : ∀ {σ' : L2.St} {H' : Hp} {P : Hp → Prop}, L2.Inv X pins σ' H' s1 → Unl X P H' → ∃ H2, L2.Inv X pins σ' H2 s1 ∧ P H2 := by
    intro σ' H' P J q
    rcases q with q | ⟨d, od, u, hd, nf, q⟩
    · exact ⟨H', J, q⟩
    · exact ⟨_, L2.Inv.unlock J hd nf, q⟩
  cases f with
  | next =>
    obtain ⟨a, b, c, q⟩ := z
    obtain ⟨H2, J, q⟩ := go c q
    exact ⟨a, H2, J, q⟩
  | brk =>
    obtain ⟨a, b, c, q⟩ := z
    obtain ⟨H2, J, q⟩ := go c q
    exact ⟨a, H2, J, q⟩
  | cont =>
    obtain ⟨a, b, c, q⟩ := z
    obtain ⟨H2, J, q⟩ := go c q
    exact ⟨a, H2, J, q⟩
  | ret u =>
    obtain ⟨v, a, b, c, r, q⟩ := z
    obtain ⟨H2, J, q⟩ := go c q
    exact ⟨v, a, H2, J, r, q⟩
end
section
variable {X : Cx} {T : Tab} {K : PySem.W.Frag} {H He : Hp} {h he h1 : Bc.Heap}
/-- what the small language's unlocking says, told above -/
theorem unl_of {l : Option Nat} {P : Bc.Heap → Prop} {P' : Hp → Prop} (R : Rep T K He he) (f : Fr H h He he) (nf : ∀ a, l = some a → NoF X a ∧ ∀ od u, H a ≠ some (.frz od u)) (q : Bc.unlockQ l h1 P he)
    (k : ∀ h2 H2, P h2 → Rep T K H2 h2 → Fr H h H2 h2 → (∀ b u, He b = some u → he b = none → H2 b = some u ∧ h2 b = none) → P' H2) : Unl X P' He := by
  cases l with
  | none => exact .inl (k _ _ q R f fun _ _ a b => ⟨a, b⟩)
  | some a =>
    obtain ⟨n1, n2⟩ := nf a rfl
    unfold Bc.unlockQ at q
    dsimp only at q
    split at q
    · rename_i o e
      obtain ⟨e2, q⟩ := q
      obtain ⟨u, e3, r⟩ := R a _ e2
      cases r with
      | pl r => cases r
      | frz r => exact .inr ⟨a, _, _, e3, n1, k _ _ q (R.set e2 (.pl r)) (f.unlock e2 n2) (set_un e2)⟩
    · exact q.elim
/-- a thing of ours that the small heap does not know is changed -/
theorem sqt_upd {D : Addr} {o u : HO} (e : H D = some u) (nt : ∀ xs, u ≠ .tup xs) (nt2 : ∀ od v, u ≠ .frz od v) : ∀ a xs, SqT K H a xs → SqT K (upd H D o) a xs := by
  intro a xs q
  rcases q with (q | ⟨od, q⟩) | q
  · exact .inl (.inl (by rw [upd_ne (fun z => by subst z; rw [e] at q; cases q; exact nt _ rfl)]; exact q))
  · exact .inl (.inr ⟨od, by rw [upd_ne (fun z => by subst z; rw [e] at q; cases q; exact nt2 _ _ rfl)]; exact q⟩)
  · exact .inr q
theorem Rep.updU {D : Addr} {o u : HO} (R : Rep T K H h) (e : H D = some u) (nt : ∀ xs, u ≠ .tup xs) (nt2 : ∀ od v, u ≠ .frz od v) (n : h D = none) : Rep T K (upd H D o) h := fun a ob q => by
  obtain ⟨v, e2, r⟩ := R a ob q
  have ne : a ≠ D := fun z => by subst z; rw [n] at q; cases q
  exact ⟨v, by rw [upd_ne ne]; exact e2, r.mono (sqt_upd e nt nt2)⟩
theorem Fr.updU {D : Addr} {o : HO} (f : Fr H h He he) (e : H D = none) : Fr H h (upd He D o) he :=
  ⟨fun a u q n => ⟨by rw [upd_ne (ne_of_none q e)]; exact (f.un a u q n).1, (f.un a u q n).2⟩, fun a od u q => by rw [upd_ne (ne_of_none q e)]; exact f.fz a od u q⟩
/-- taken into the small heap -/
theorem Rep.adopt {D : Addr} {u : HO} {o : Bc.Obj} (R : Rep T K H h) (e : H D = some u) (r : RO T K H u o) : Rep T K H (Bc.upd h D o) := fun a ob q => by
  by_cases z : a = D
  · subst z
    rw [Bc.upd_same] at q
    cases q
    exact ⟨u, e, r⟩
  · rw [Bc.upd_ne z] at q
    exact R a ob q
theorem Fr.adopt {D : Addr} {o : Bc.Obj} (f : Fr H h He he) (n : ∀ u, H D = some u → h D = none → False) : Fr H h He (Bc.upd he D o) :=
  ⟨fun a u q m => ⟨(f.un a u q m).1, by rw [Bc.upd_ne (fun z => by subst z; exact n u q m)]; exact (f.un a u q m).2⟩, f.fz⟩
end

/-! ### comprehensions -/
abbrev W0 : WX := fun _ _ _ _ => False
section
variable {X : Cx} {T : Tab} {Γ : Bc.Ctx} {W : WX} {k : Nat} {av : Av} {a b c e tg iter elt kx' : Expr} {ea eb ec : Bc.Exp} {pos p p2 apos cpos : Pos} {es ifs : List Expr} {ees : Bc.Exps} {t u : Bc.Tst} {is : List Nat} {it : Bc.Itr} {scope : Scope} {own : List (Str × Nat)}
theorem xp_false {K : PySem.W.Frag} {H : Hp} {h : Bc.Heap} {W : Value → Option Addr → Hp → Prop} : XP T K (fun _ _ => False) H h W := fun _ _ _ _ _ z => z.elim

theorem comp_core {σ : L2.St} {H : Hp} {Q' : VK} (hv : own.map (·.2) = is)
    (q : tE T X.K Γ W (.comp is it t ea) σ H Q') : tUE X (tLc (tI X T Γ W it) (tG X.K is) (tT T X.K Γ W0 t) (tE T X.K Γ W0 ea) (own.map (·.2))) σ H Q' := by
  obtain ⟨env, h, Q, E, R, S, w, kq, kx⟩ := q
  simp only [Bc.wpE] at w
  rw [hv]
  refine ⟨env, h, _, E, R, S, w, fun wk h1 H2 J okH q R2' f nf oH wkp => ?_, kx⟩
  intro D hD
  have hD1 : Bc.lockH wk.lock h1 D = none := R2'.none_of hD
  refine ⟨fun i m H3 => ∃ (acc : List Bc.Val) (h3 : Bc.Heap) (ys : List V), m = wk.items.length - i ∧ i ≤ wk.items.length ∧
    Bc.goes (S := List Bc.Val × Bc.Heap) (fun s => wk.ok s.2) (fun v s K => Bc.onSome (Bc.bindT is v (Bc.wipeE env is)) fun env' => Bc.wpT Γ t env' s.2 (fun c h => Bc.ifC c
      (Bc.wpE Γ ea env' h (fun y h => s.1.length < Bc.sizeMax ∧ K (s.1 ++ [y], h)) (fun _ _ => False)) (K (s.1, h))) (fun _ _ => False))
      (fun s => Bc.unlockQ wk.lock h1 (fun h => ∀ p, h p = none → Q (.ref p) (Bc.upd h p (.lst s.1))) s.2) (wk.items.drop i) (acc, h3) ∧
    Rep T X.K H3 h3 ∧ H3 D = some (.lst ys) ∧ RVs X.K H3 ys acc ∧ h3 D = none ∧ Fr H2 (Bc.lockH wk.lock h1) H3 h3, ⟨_, [], _, [], rfl, Nat.zero_le _, q, R2'.newU hD, upd_same, .nil, hD1, Fr.newU R2' hD⟩, ?_⟩
  rintro i m H3 ⟨acc, h3, ys, rfl, hi, g, R3, eD, ra, nD, f3⟩
  have oH3 := wkp.keep _ _ _ _ R2' f3 oH
  by_cases hlt : i < wk.items.length
  · right
    have hd : wk.items.drop i = wk.items[i] :: wk.items.drop (i + 1) := List.drop_eq_getElem_cons hlt
    rw [hd] at g
    obtain ⟨g1, g2⟩ := g
    obtain ⟨env', eb, g2⟩ := Bc.onSome_of g2
    refine ⟨wkp.go i H3 h3 R3 g1 oH3 hlt, _, fun H' z => ⟨wk.items.length - (i + 1), by omega, z⟩, fun x H4 y => ?_⟩
    obtain ⟨R4, f4, r4⟩ := wkp.yld i H3 h3 x H4 _ R3 g1 oH3 (List.getElem?_eq_getElem hlt) y
    have F : Fr H2 (Bc.lockH wk.lock h1) H4 h3 := f3.trans f4
    have S4 : ER X.K H4 (wipe σ is) (Bc.wipeE env is) := ((S.fr R f).fr R2' F).wipe is
    refine bind_ok r4 S4 eb (off_wipe is σ is fun _ z => z) fun σ' S5 o5 => ⟨wipe_off o5, ?_⟩
    refine ⟨env', h3, _, _, R4, S5, g2, fun c h5 H5 q5 R5 f5 => ?_, xp_false⟩
    have e4 := f4.un D _ eD nD
    have e5 := f5.un D _ e4.1 e4.2
    have ra5 := (ra.fr R3 f4).fr R4 f5
    cases c with
    | false =>
      exact ⟨acc, h5, ys, rfl, hlt, q5, R5, e5.1, ra5, e5.2, F.trans f5⟩
    | true =>
      refine ⟨env', h5, _, _, R5, S5.fr R4 f5, q5, fun v h6 H6 y6 q6 R6 f6 r6 => ?_, xp_false⟩
      obtain ⟨q60, q6⟩ := q6
      have e6 := f6.un D _ e5.1 e5.2
      have ra6 := ra5.fr R5 f6
      have mo : ∀ a xs, SqT X.K H6 a xs → SqT X.K (upd H6 D (.lst (ys ++ [y6]))) a xs := sqt_upd e6.1 (by intro _ z; cases z) (by intro _ _ z; cases z)
      refine ⟨ys, e6.1, by rw [ra6.length, ← sz]; exact q60, acc ++ [v], h6, ys ++ [y6], rfl, hlt, q6, R6.updU e6.1 (by intro _ z; cases z) (by intro _ _ z; cases z) e6.2, upd_same, (ra6.append (.cons r6 .nil)).mono mo, e6.2, ((F.trans f5).trans f6).updU hD⟩
  · left
    have e : i = wk.items.length := by omega
    subst e
    rw [List.drop_length] at g
    obtain ⟨g1, g2⟩ := g
    refine ⟨wkp.stop _ H3 h3 R3 g1 oH3 (Nat.le_refl _), ?_⟩
    have nD0 : ∀ u, H D = some u → h D = none → False := fun u q n => by
      have := (f.un D u q n).1
      rw [hD] at this
      cases this
    refine unl_of (H := H) (h := h) R3 (f.trans f3) nf g2 fun h7 H7 q7 R7 f7 un7 => ?_
    have e7 := un7 D _ eD nD
    have ra7 : RVs X.K H7 ys acc := ra.mono (tups_of un7 R3)
    exact kq _ _ _ _ (q7 D e7.2) (R7.adopt e7.1 (.pl (.lst ra7))) (f7.adopt nD0) (.ref D)

/-- a dict's entry stored -/
theorem rks_map {K : PySem.W.Frag} {H : Hp} {k : Key} {v x : Bc.Val} {z : V} (rk : RKey k v) (r : RV K H z x) : ∀ {ks : List (Key × V)} {vs : List (Bc.Val × Bc.Val)}, RKs K H ks vs →
    RKs K H (ks.map fun kv => if kv.1 = k then (kv.1, z) else kv) (vs.map fun p => if Bc.keyEq p.1 v = true then (p.1, x) else p)
  | _, _, .nil => .nil
  | _, _, .cons (k := k0) (x := x0) (j := j0) (v := v0) r0 q t => by
    have ih := rks_map rk r t
    rw [List.map_cons, List.map_cons]
    have e := rkey_eq r0 rk
    by_cases h : k0 = k
    · rw [decide_eq_true h] at e
      rw [if_pos (show (k0, x0).1 = k from h), if_pos (show Bc.keyEq (j0, v0).1 v = true from e.symm)]
      exact .cons r0 r ih
    · rw [decide_eq_false h] at e
      rw [if_neg (show ¬ (k0, x0).1 = k from h), if_neg (show ¬ Bc.keyEq (j0, v0).1 v = true from by rw [← e]; exact Bool.false_ne_true)]
      exact .cons r0 q ih
theorem rks_any {K : PySem.W.Frag} {H : Hp} {k : Key} {v : Bc.Val} (rk : RKey k v) : ∀ {ks : List (Key × V)} {vs : List (Bc.Val × Bc.Val)}, RKs K H ks vs → (ks.any fun kv => decide (kv.1 = k)) = (vs.any fun p => Bc.keyEq p.1 v)
  | _, _, .nil => rfl
  | _, _, .cons r0 q t => by rw [List.any_cons, List.any_cons, rks_any rk t, rkey_eq r0 rk]
theorem rks_app {K : PySem.W.Frag} {H : Hp} : ∀ {ks ks' : List (Key × V)} {vs vs' : List (Bc.Val × Bc.Val)}, RKs K H ks vs → RKs K H ks' vs' → RKs K H (ks ++ ks') (vs ++ vs')
  | _, _, _, _, .nil, t => t
  | _, _, _, _, .cons a b c, t => .cons a b (rks_app c t)
theorem rks_put {K : PySem.W.Frag} {H : Hp} {k : Key} {v x : Bc.Val} {z : V} (rk : RKey k v) (r : RV K H z x) {ks : List (Key × V)} {vs : List (Bc.Val × Bc.Val)} (h : RKs K H ks vs) : RKs K H (putK ks k z) (Bc.dput v x vs) := by
  unfold putK Bc.dput
  rw [rks_any rk h]
  split
  · exact rks_map rk r h
  · exact rks_app h (.cons rk r .nil)
theorem dcomp_core {σ : L2.St} {H : Hp} {Q' : VK} (hv : own.map (·.2) = is)
    (q : tE T X.K Γ W (.dcomp is it t eb ea) σ H Q') : tUE X (tDc (tI X T Γ W it) (tG X.K is) (tT T X.K Γ W0 t) (tE T X.K Γ W0 eb) (tE T X.K Γ W0 ea) (own.map (·.2))) σ H Q' := by
  obtain ⟨env, h, Q, E, R, S, w, kq, kx⟩ := q
  simp only [Bc.wpE] at w
  rw [hv]
  refine ⟨env, h, _, E, R, S, w, fun wk h1 H2 J okH q R2' f nf oH wkp => ?_, kx⟩
  intro D hD
  have hD1 : Bc.lockH wk.lock h1 D = none := R2'.none_of hD
  refine ⟨fun i m H3 => ∃ (acc : List (Bc.Val × Bc.Val)) (h3 : Bc.Heap) (ys : List (Key × V)), m = wk.items.length - i ∧ i ≤ wk.items.length ∧
    Bc.goes (S := List (Bc.Val × Bc.Val) × Bc.Heap) (fun s => wk.ok s.2) (fun v s K => Bc.onSome (Bc.bindT is v (Bc.wipeE env is)) fun env' => Bc.wpT Γ t env' s.2 (fun c h => Bc.ifC c
      (Bc.wpE Γ eb env' h (fun x h => Bc.wpE Γ ea env' h (fun y h => Bc.isKey x = true ∧ s.1.length < Bc.sizeMax ∧ K (Bc.dput x y s.1, h)) (fun _ _ => False)) (fun _ _ => False)) (K (s.1, h))) (fun _ _ => False))
      (fun s => Bc.unlockQ wk.lock h1 (fun h => ∀ p, h p = none → Q (.ref p) (Bc.upd h p (.dct s.1))) s.2) (wk.items.drop i) (acc, h3) ∧
    Rep T X.K H3 h3 ∧ H3 D = some (.dK ys) ∧ RKs X.K H3 ys acc ∧ h3 D = none ∧ Fr H2 (Bc.lockH wk.lock h1) H3 h3, ⟨_, [], _, [], rfl, Nat.zero_le _, q, R2'.newU hD, upd_same, .nil, hD1, Fr.newU R2' hD⟩, ?_⟩
  rintro i m H3 ⟨acc, h3, ys, rfl, hi, g, R3, eD, ra, nD, f3⟩
  have oH3 := wkp.keep _ _ _ _ R2' f3 oH
  by_cases hlt : i < wk.items.length
  · right
    have hd : wk.items.drop i = wk.items[i] :: wk.items.drop (i + 1) := List.drop_eq_getElem_cons hlt
    rw [hd] at g
    obtain ⟨g1, g2⟩ := g
    obtain ⟨env', eb', g2⟩ := Bc.onSome_of g2
    refine ⟨wkp.go i H3 h3 R3 g1 oH3 hlt, _, fun H' z => ⟨wk.items.length - (i + 1), by omega, z⟩, fun x H4 y => ?_⟩
    obtain ⟨R4, f4, r4⟩ := wkp.yld i H3 h3 x H4 _ R3 g1 oH3 (List.getElem?_eq_getElem hlt) y
    have F : Fr H2 (Bc.lockH wk.lock h1) H4 h3 := f3.trans f4
    have S4 : ER X.K H4 (wipe σ is) (Bc.wipeE env is) := ((S.fr R f).fr R2' F).wipe is
    refine bind_ok r4 S4 eb' (off_wipe is σ is fun _ z => z) fun σ' S5 o5 => ⟨wipe_off o5, ?_⟩
    refine ⟨env', h3, _, _, R4, S5, g2, fun c h5 H5 q5 R5 f5 => ?_, xp_false⟩
    have e4 := f4.un D _ eD nD
    have e5 := f5.un D _ e4.1 e4.2
    have ra5 := ra.mono (tups_of (f4.trans f5).un R3)
    cases c with
    | false => exact ⟨acc, h5, ys, rfl, hlt, q5, R5, e5.1, ra5, e5.2, F.trans f5⟩
    | true =>
      refine ⟨env', h5, _, _, R5, S5.fr R4 f5, q5, fun v0 h6 H6 y0 q6 R6 f6 r6 => ?_, xp_false⟩
      refine ⟨env', h6, _, _, R6, (S5.fr R4 f5).fr R5 f6, q6, fun v h7 H7 y6 q7 R7 f7 r7 => ?_, xp_false⟩
      obtain ⟨qk, q70, q7⟩ := q7
      have e7 := (f6.trans f7).un D _ e5.1 e5.2
      have ra7 := ra5.mono (tups_of (f6.trans f7).un R5)
      obtain ⟨k0, ek, rk⟩ := key_of r6 qk
      have mo : ∀ (o : HO) a xs, SqT X.K H7 a xs → SqT X.K (upd H7 D o) a xs := fun o => sqt_upd e7.1 (by intro _ z; cases z) (by intro _ _ z; cases z)
      exact ⟨ys, k0, ek, e7.1, by rw [rks_len ra7, ← sz]; exact q70, Bc.dput v0 v acc, h7, putK ys k0 y6, rfl, hlt, q7, R7.updU e7.1 (by intro _ z; cases z) (by intro _ _ z; cases z) e7.2, upd_same, (rks_put rk r7 ra7).mono (mo _), e7.2, (((F.trans f5).trans f6).trans f7).updU hD⟩
  · left
    have e : i = wk.items.length := by omega
    subst e
    rw [List.drop_length] at g
    obtain ⟨g1, g2⟩ := g
    refine ⟨wkp.stop _ H3 h3 R3 g1 oH3 (Nat.le_refl _), ?_⟩
    have nD0 : ∀ u, H D = some u → h D = none → False := fun u q n => by
      have := (f.un D u q n).1
      rw [hD] at this
      cases this
    refine unl_of (H := H) (h := h) R3 (f.trans f3) nf g2 fun h7 H7 q7 R7 f7 un7 => ?_
    have e7 := un7 D _ eD nD
    have ra7 : RKs X.K H7 ys acc := ra.mono (tups_of un7 R3)
    exact kq _ _ _ _ (q7 D e7.2) (R7.adopt e7.1 (.pl (.dct ra7))) (f7.adopt nD0) (.ref D)
theorem e_comp (ok : Ok X T Γ W k av) (hi : PI X tg iter (tI X T Γ W it)) (okb : BlkOk X.N X.env.scope scope own) (hv : own.map (·.2) = is)
    (hg : ∀ (s : Shared) (H : Hp) (C : Addr) (cl : List (Str × Addr)) (fp : List Addr), PG (X.blk s H scope (compEnvC scope cl C X.env) fp) tg (tG X.K is))
    (ht : ∀ (s : Shared) (H : Hp) (C : Addr) (cl : List (Str × Addr)) (fp : List Addr), PTs (X.blk s H scope (compEnvC scope cl C X.env) fp) ifs (tT T X.K Γ W0 t))
    (he : ∀ (s : Shared) (H : Hp) (C : Addr) (cl : List (Str × Addr)) (fp : List Addr), PE (X.blk s H scope (compEnvC scope cl C X.env) fp) elt (tE T X.K Γ W0 ea)) (hs : ∀ x, foldedSetIterable iter X.env x = pure x) :
    PE X (.ListComp elt [⟨tg, iter, ifs, 0⟩] scope pos) (tE T X.K Γ W (.comp is it t ea)) :=
  (pe_unl (pe_lc ok.calm ok.nd hi okb hg ht he hs)).imp fun σ H Q' q => comp_core hv q
theorem e_dcomp (ok : Ok X T Γ W k av) (hi : PI X tg iter (tI X T Γ W it)) (okb : BlkOk X.N X.env.scope scope own) (hv : own.map (·.2) = is)
    (hg : ∀ (s : Shared) (H : Hp) (C : Addr) (cl : List (Str × Addr)) (fp : List Addr), PG (X.blk s H scope (compEnvC scope cl C X.env) fp) tg (tG X.K is))
    (ht : ∀ (s : Shared) (H : Hp) (C : Addr) (cl : List (Str × Addr)) (fp : List Addr), PTs (X.blk s H scope (compEnvC scope cl C X.env) fp) ifs (tT T X.K Γ W0 t))
    (hk : ∀ (s : Shared) (H : Hp) (C : Addr) (cl : List (Str × Addr)) (fp : List Addr), PE (X.blk s H scope (compEnvC scope cl C X.env) fp) kx' (tE T X.K Γ W0 eb))
    (he : ∀ (s : Shared) (H : Hp) (C : Addr) (cl : List (Str × Addr)) (fp : List Addr), PE (X.blk s H scope (compEnvC scope cl C X.env) fp) elt (tE T X.K Γ W0 ea)) (hs : ∀ x, foldedSetIterable iter X.env x = pure x) :
    PE X (.DictComp kx' elt [⟨tg, iter, ifs, 0⟩] scope pos) (tE T X.K Γ W (.dcomp is it t eb ea)) :=
  (pe_unl (pe_dc ok.calm ok.nd hi okb hg ht hk he hs)).imp fun σ H Q' q => dcomp_core hv q
end
end Bs
set_option Elab.async false
set_option linter.all false
set_option maxRecDepth 100000
set_option maxHeartbeats 4000000
namespace Bs
open PySem L2 PyProof.Rows

/-! ### statements -/
structure KR (T : Tab) (K : PySem.W.Frag) (W : WX) (k : Bc.Kont) (H : Hp) (h : Bc.Heap) (D : Ends) : Prop where
  nx : ∀ env' h' σ' H', k.nx env' h' → Rep T K H' h' → Fr H h H' h' → ER K H' σ' env' → D.nx σ' H'
  rt : ∀ v h' H' w, k.rt v h' → Rep T K H' h' → Fr H h H' h' → RV K H' w v → D.rt w H'
  bk : ∀ env' h' σ' H', k.bk env' h' → Rep T K H' h' → Fr H h H' h' → ER K H' σ' env' → D.bk σ' H'
  ex : ∀ x env' h' σ' H' cls d, k.ex x env' h' → Rep T K H' h' → Fr H h H' h' → ER K H' σ' env' → XR T K H' x cls d → W cls d σ' H'
def tS (T : Tab) (K : PySem.W.Frag) (Γ : Bc.Ctx) (W : WX) (st : Bc.Stm) : TS := fun D σ H => ∃ env h k, Rep T K H h ∧ ER K H σ env ∧ Bc.wpS Γ st k env h ∧ KR T K W k H h D
def tB (T : Tab) (K : PySem.W.Frag) (Γ : Bc.Ctx) (W : WX) (st : Bc.Stms) : TS := fun D σ H => ∃ env h k, Rep T K H h ∧ ER K H σ env ∧ Bc.wpB Γ st k env h ∧ KR T K W k H h D
section
variable {T : Tab} {K : PySem.W.Frag} {W : WX} {k : Bc.Kont} {H H1 : Hp} {h h1 : Bc.Heap} {D : Ends} {σ : L2.St} {env : Bc.Env}
theorem KR.step (r : KR T K W k H h D) (f : Fr H h H1 h1) : KR T K W k H1 h1 D :=
  ⟨fun a b c d e R g s => r.nx a b c d e R (f.trans g) s, fun a b c d e R g s => r.rt a b c d e R (f.trans g) s, fun a b c d e R g s => r.bk a b c d e R (f.trans g) s, fun x a b c d e1 e2 e R g s q => r.ex x a b c d e1 e2 e R (f.trans g) s q⟩
theorem KR.xp (r : KR T K W k H h D) (R : Rep T K H h) (S : ER K H σ env) : XP T K (fun x h => k.ex x env h) H h (fun c d H' => W c d σ H') := fun x h' H' cls d e R' f q => r.ex x env h' σ H' cls d e R' f (S.fr R f) q
end
section
variable {X : Cx} {T : Tab} {Γ : Bc.Ctx} {W : WX} {k : Nat} {av : Av} {a b c e tg iter elt value o i : Expr} {ea eb ec eo ei : Bc.Exp} {pos p p2 pos' tpos : Pos} {es ifs : List Expr} {ees : Bc.Exps} {t u : Bc.Tst} {is : List Nat} {it : Bc.Itr} {scope : Scope} {own : List (Str × Nat)} {body : List Stmt} {bb : Bc.Stms}

theorem setMany_len : ∀ {is : List Nat} {vs : List Bc.Val} {env env' : Bc.Env}, Bc.setMany env is vs = some env' → vs.length = is.length
  | [], [], _, _, _ => rfl
  | _ :: _, _ :: _, _, _, e => congrArg (· + 1) (setMany_len (by simpa only [Bc.setMany] using e))
  | [], _ :: _, _, _, e => by simp [Bc.setMany] at e
  | _ :: _, [], _, _, e => by simp [Bc.setMany] at e
/-- e, then what stands behind it -/
theorem after_e {F : Bc.Val → Bc.Heap → Prop} {σ : L2.St} {H : Hp} {env : Bc.Env} {h : Bc.Heap} {kk : Bc.Kont} {D : Ends} {G : V → Hp → Prop} (R : Rep T X.K H h) (S : ER X.K H σ env) (w : Bc.wpE Γ ea env h F (fun x h => kk.ex x env h)) (kr : KR T X.K W kk H h D)
    (g : ∀ v h' H' x, F v h' → Rep T X.K H' h' → Fr H h H' h' → RV X.K H' x v → G x H') : tE T X.K Γ W ea σ H G := ⟨env, h, F, _, R, S, w, fun v h' H' x q R' f r => g v h' H' x q R' f r, kr.xp R S⟩
theorem s_set (ok : Ok X T Γ W k av) {n : Nat} {x : Str} (hi : X.N[n]? = some x) (hx : Loc X.env.scope x) (he : PE X e (tE T X.K Γ W ea)) (hs : swapsWith e (some (.Name x pos')) pos.line X.env = pure false) (hf : X.fn x = true ∨ X.env.scope.names.lookup x = some .local) :
    PS X (.Assign [.Name x pos'] e pos) (tS T X.K Γ W (.set n ea)) :=
  (ps_set ok.nd hi hx he hs hf).imp fun D σ H ⟨env, h, kk, R, S, w, kr⟩ => by
    simp only [Bc.wpS] at w
    exact after_e R S w kr fun v h1 H1 x q R1 f1 r1 => kr.nx _ _ _ _ q R1 f1 ((S.fr R f1).set r1 n)
theorem s_setLc (ok : Ok X T Γ W k av) {n : Nat} {y : Str} {py spos : Pos} (hy : X.N[n]? = some y) (hyl : X.env.scope.names.lookup y = some .local)
    (hsw : swapsWith (.ListComp elt [⟨tg, iter, ifs, 0⟩] scope pos) (some (.Name y py)) spos.line X.env = pure true) (hi : PI X tg iter (tI X T Γ W it)) (okb : BlkOk X.N X.env.scope scope own) (hv : own.map (·.2) = is)
    (hg : ∀ (s : Shared) (H : Hp) (C : Addr) (cl : List (Str × Addr)) (fp : List Addr), PG (X.blk s H scope (compEnvC scope cl C X.env) fp) tg (tG X.K is))
    (ht : ∀ (s : Shared) (H : Hp) (C : Addr) (cl : List (Str × Addr)) (fp : List Addr), PTs (X.blk s H scope (compEnvC scope cl C X.env) fp) ifs (tT T X.K Γ W0 t))
    (he : ∀ (s : Shared) (H : Hp) (C : Addr) (cl : List (Str × Addr)) (fp : List Addr), PE (X.blk s H scope (compEnvC scope cl C X.env) fp) elt (tE T X.K Γ W0 ea)) (hs : ∀ x, foldedSetIterable iter X.env x = pure x) :
    PS X (.Assign [.Name y py] (.ListComp elt [⟨tg, iter, ifs, 0⟩] scope pos) spos) (tS T X.K Γ W (.set n (.comp is it t ea))) :=
  (ps_unl (ps_setLc ok.calm ok.nd hy hyl hsw hi okb hg ht he hs)).imp fun D σ H ⟨env, h, kk, R, S, w, kr⟩ => by
    simp only [Bc.wpS] at w
    have z := comp_core (X := X) (W := W) (σ := σ) (H := H) (Q' := fun x H1 => D.nx (σ.set n (some x)) H1) hv ⟨env, h, _, _, R, S, w, fun v h1 H1 x q R1 f1 r1 => kr.nx _ _ _ _ q R1 f1 ((S.fr R f1).set r1 n), kr.xp R S⟩
    exact z
/-- several names at once -/
theorem s_unpT (ok : Ok X T Γ W k av) {ts : List Expr} {kk0 : Nat} (hg : PG X (.Tuple ts kk0 tpos) (gTup X.K is.length (gNames is))) (he : PE X e (tE T X.K Γ W ea)) (hs : swapsWithSole [.Tuple ts kk0 tpos] e pos.line X.env = pure false) (hw : swappedStores [.Tuple ts kk0 tpos] e X.env = pure none) :
    PS X (.Assign [.Tuple ts kk0 tpos] e pos) (tS T X.K Γ W (.unpT is ea)) :=
  (ps_asg he hg hs hw).imp fun D σ H ⟨env, h, kk, R, S, w, kr⟩ => by
    simp only [Bc.wpS] at w
    refine after_e R S w kr fun v h1 H1 x q R1 f1 r1 => ?_
    obtain ⟨vs, ev, q2⟩ := Bc.onTup_of q
    subst ev
    obtain ⟨env', ee, q3⟩ := Bc.onSome_of q2
    cases r1 with
    | @tup p xs vs hp rp =>
      refine ⟨p, xs, rfl, hp, ?_, many rp (S.fr R f1) ee (fun _ z => z) (Off.refl is σ) fun σ' S' _ => kr.nx _ _ _ _ q3 R1 f1 S'⟩
      rw [rp.length]
      exact setMany_len ee
theorem s_unpL (ok : Ok X T Γ W k av) {ts : List Expr} {kk0 : Nat} (hg : PG X (.Tuple ts kk0 tpos) (gUnl X.K is.length (gNames is))) (he : PE X e (tE T X.K Γ W ea)) (hs : swapsWithSole [.Tuple ts kk0 tpos] e pos.line X.env = pure false) (hw : swappedStores [.Tuple ts kk0 tpos] e X.env = pure none) :
    PS X (.Assign [.Tuple ts kk0 tpos] e pos) (tS T X.K Γ W (.unpL is ea)) :=
  (ps_asg he hg hs hw).imp fun D σ H ⟨env, h, kk, R, S, w, kr⟩ => by
    simp only [Bc.wpS] at w
    refine after_e R S w kr fun v h1 H1 x q R1 f1 r1 => ?_
    obtain ⟨p, ev, q2⟩ := Bc.onRef_of q
    obtain ⟨vs, e2, q3⟩ := Bc.onLst_of q2
    obtain ⟨env', ee, q4⟩ := Bc.onSome_of q3
    subst ev
    cases r1
    obtain ⟨xs, hp, rp⟩ := R1.lst e2
    refine ⟨p, xs, rfl, hp, ?_, many rp (S.fr R f1) ee (fun _ z => z) (Off.refl is σ) fun σ' S' _ => kr.nx _ _ _ _ q4 R1 f1 S'⟩
    rw [rp.length]
    exact setMany_len ee
/-- o[i] = v, by values -/
def rSet (T : Tab) (K : PySem.W.Frag) : TSet := fun o i v H Q' => ∃ ov iv vv h Q, Rep T K H h ∧ RV K H o ov ∧ RV K H i iv ∧ RV K H v vv ∧ Bc.wSet ov iv vv h Q ∧ ∀ h' H', Q h' → Rep T K H' h' → Fr H h H' h' → Q' H'
theorem set_any (hu : X.A.units + 64 < cLine) : PSet X (rSet T X.K) := by
  intro pins s σ H o i v ov iv u Q' I ro ri rv hq
  obtain ⟨o', i', v', h, Q, R, r1, r2, r3, w, k⟩ := hq
  cases r1 with
  | ref p =>
    unfold Bc.wSet at w
    dsimp only at w
    split at w
    · rename_i xs e
      obtain ⟨ii, ei, w2⟩ := Bc.onI_of w
      obtain ⟨j, ej, w3⟩ := Bc.onSome_of w2
      subst ei
      cases r2
      obtain ⟨ys, hp, rp⟩ := R.lstM e
      exact set_list pins s σ H _ _ _ ov iv u Q' I ro ri rv ⟨p, ys, ii, j, rfl, rfl, hp, by rw [rp.length]; exact ej, k _ _ w3 (R.set e (.pl (.lst (rp.set r3 j)))) (Fr.set R e)⟩
    · rename_i kvs e
      obtain ⟨w1, w2, w3⟩ := w
      obtain ⟨ks, hp, rp⟩ := R.dctM e
      obtain ⟨k0, ek, rk⟩ := key_of r2 w1
      subst ek
      cases (show ov = Value.ref p from ro)
      refine d_setItem (by omega) I (DPut.k (k := k0) hp (by rw [rks_len rp, ← sz]; exact w2)) ri rv fun s' J => ⟨_, J, k _ _ w3 (R.set e (.pl (.dct (rks_put rk r3 rp)))) (Fr.set R e)⟩
    · exact w.elim
  | _ => exact w.elim
theorem s_sset (ok : Ok X T Γ W k av) (ho : PE X o (tE T X.K Γ W eo)) (hi : PE X i (tE T X.K Γ W ei)) (he : PE X e (tE T X.K Γ W ea)) (hg : PG X (.Subscript o i pos') (gSub (tE T X.K Γ W eo) (tE T X.K Γ W ei) (rSet T X.K)))
    (hs : swapsWithSole [.Subscript o i pos'] e pos.line X.env = pure false) (hw : swappedStores [.Subscript o i pos'] e X.env = pure none) : PS X (.Assign [.Subscript o i pos'] e pos) (tS T X.K Γ W (.sset eo ei ea)) :=
  (ps_asg he hg hs hw).imp fun D σ H ⟨env, h, kk, R, S, w, kr⟩ => by
    simp only [Bc.wpS] at w
    refine after_e R S w kr fun v h1 H1 x q R1 f1 r1 => ?_
    refine after_e R1 (S.fr R f1) q (kr.step f1) fun v2 h2 H2 x2 q2 R2' f2 r2 => ?_
    refine after_e R2' ((S.fr R f1).fr R1 f2) q2 ((kr.step f1).step f2) fun v3 h3 H3 x3 q3 R3 f3 r3 => ?_
    have S3 := (((S.fr R f1).fr R1 f2).fr R2' f3)
    exact ⟨v2, v3, v, h3, _, R3, r2.fr R2' f3, r3, (r1.fr R1 f2).fr R2' f3, q3, fun h4 H4 q4 R4 f4 => kr.nx _ _ _ _ q4 R4 (((f1.trans f2).trans f3).trans f4) (S3.fr R3 f4)⟩
theorem s_aset (ok : Ok X T Γ W k av) {f : Nat} (hf : f ∈ av.ff) (ho : PE X o (tE T X.K Γ W eo)) (he : PE X e (tE T X.K Γ W ea)) (hs : swapsWith e (some (.Attribute o (T.fdN f) pos')) pos.line X.env = pure false) : PS X (.Assign [.Attribute o (T.fdN f) pos'] e pos) (tS T X.K Γ W (.aset eo f ea)) :=
  (ps_fld ho he hs).imp fun D σ H ⟨env, h, kk, R, S, w, kr⟩ => by
    simp only [Bc.wpS] at w
    refine after_e R S w kr fun v h1 H1 x q R1 f1 r1 => ?_
    refine after_e R1 (S.fr R f1) q (kr.step f1) fun v2 h2 H2 x2 q2 R2' f2 r2 => ?_
    obtain ⟨p, ev, q3⟩ := Bc.onRef_of q2
    obtain ⟨c, gs, e3, q4, q5⟩ := Bc.onIns_of q3
    subst ev
    cases r2
    obtain ⟨dx, fs, hp, kc, rf⟩ := R2'.ins e3
    refine ⟨p, T.ct c, dx, fs, rfl, hp, (ok.cls c kc).1.cl, ok.attr c f kc hf, by rw [rfs_len rf]; omega, ?_⟩
    have f3 := Fr.set (o := .ins (T.ct c) dx (putF (T.fdN f) x fs)) (o' := .ins c (Bc.fput f v gs)) R2' e3
    exact kr.nx _ _ _ _ q5 (R2'.set e3 (.pl (.ins kc (rfs_put (fun f' z => ok.inj f' f hf z) (r1.fr R1 f2) rf)))) ((f1.trans f2).trans f3) (((S.fr R f1).fr R1 f2).fr R2' f3)
theorem s_aug (ok : Ok X T Γ W k av) {n : Nat} {x : Str} (hi : X.N[n]? = some x) (hx : Loc X.env.scope x) (he : PE X e (tE T X.K Γ W ea)) (hf : X.fn x = true ∨ X.env.scope.names.lookup x = some .local) : PS X (.AugAssign (.Name x pos') .Add e pos) (tS T X.K Γ W (.aug n .add ea)) := by
  refine (ps_aug ok.nd hi hx he ip_add hf).imp fun D σ H ⟨env, h, kk, R, S, w, kr⟩ => ?_
  simp only [Bc.wpS] at w
  obtain ⟨v0, e0, w2⟩ := Bc.onSome_of w
  obtain ⟨x0, e1, r0⟩ := S.at_ n v0 (Option.join_eq_some_iff.mp e0)
  refine ⟨x0, e1, after_e R S w2 kr fun v h1 H1 x q R1 f1 r1 => ?_⟩
  obtain ⟨i0, ei, q2⟩ := Bc.onI_of q
  obtain ⟨j0, ej, q3, q4⟩ := Bc.onI_of q2
  subst ei ej
  cases r0
  cases r1
  exact ⟨i0, j0, rfl, rfl, kr.nx _ _ _ _ q4 R1 f1 ((S.fr R f1).set (.int _) n)⟩
theorem s_auga (ok : Ok X T Γ W k av) {f : Nat} (hf : f ∈ av.ff) (ho : PE X o (tE T X.K Γ W eo)) (he : PE X e (tE T X.K Γ W ea)) : PS X (.AugAssign (.Attribute o (T.fdN f) tpos) .Add e pos) (tS T X.K Γ W (.auga eo f .add ea)) :=
  (ps_fldaug ho he in_add).imp fun D σ H ⟨env, h, kk, R, S, w, kr⟩ => by
    simp only [Bc.wpS] at w
    refine after_e R S w kr fun v h1 H1 x q R1 f1 r1 => ?_
    obtain ⟨p, ev, q3⟩ := Bc.onRef_of q
    obtain ⟨c, gs, e3, q4⟩ := Bc.onIns_of q3
    obtain ⟨v0, e4, q5⟩ := Bc.onSome_of q4
    obtain ⟨x0, e5, q6⟩ := Bc.onI_of q5
    subst ev e5
    cases r1
    obtain ⟨dx, fs, hp, kc, rf⟩ := R1.ins e3
    obtain ⟨y0, e6, r6⟩ := rfs_get (fun f' z => ok.inj f' f hf z) rf _ e4
    cases r6
    refine ⟨p, T.ct c, dx, fs, _, rfl, hp, (ok.cls c kc).1.cl, ok.attr c f kc hf, e6, after_e R1 (S.fr R f1) q6 (kr.step f1) fun v2 h2 H2 x2 q7 R2' f2 r2 => ?_⟩
    obtain ⟨j0, ej, _, q8⟩ := Bc.onI_of q7
    obtain ⟨c', gs', e7, ec, q9, q10⟩ := Bc.onIns_of q8
    subst ej ec
    cases r2
    obtain ⟨dx', fs', hp', kc', rf'⟩ := R2'.ins e7
    refine ⟨x0, j0, rfl, rfl, dx', fs', hp', by rw [rfs_len rf']; omega, ?_⟩
    have f3 := Fr.set (o := .ins (T.ct c') dx' (putF (T.fdN f) (.int (x0 + j0)) fs')) (o' := .ins c' (Bc.fput f (.int (x0 + j0)) gs')) R2' e7
    exact kr.nx _ _ _ _ q10 (R2'.set e7 (.pl (.ins kc' (rfs_put (fun f' z => ok.inj f' f hf z) (.int _) rf')))) ((f1.trans f2).trans f3) (((S.fr R f1).fr R1 f2).fr R2' f3)
theorem s_exp (he : PE X e (tE T X.K Γ W ea)) (hs : swapsWith e none pos.line X.env = pure false) : PS X (.Expr e pos) (tS T X.K Γ W (.exp ea)) :=
  (ps_expr he hs).imp fun D σ H ⟨env, h, kk, R, S, w, kr⟩ => by
    simp only [Bc.wpS] at w
    exact after_e R S w kr fun v h1 H1 x q R1 f1 r1 => kr.nx _ _ _ _ q R1 f1 (S.fr R f1)
theorem s_ret (he : PE X e (tE T X.K Γ W ea)) : PS X (.Return (some e) pos) (tS T X.K Γ W (.ret ea)) :=
  (ps_ret he).imp fun D σ H ⟨env, h, kk, R, S, w, kr⟩ => by
    simp only [Bc.wpS] at w
    exact after_e R S w kr fun v h1 H1 x q R1 f1 r1 => kr.rt _ _ _ _ q R1 f1 r1
theorem s_retN : PS X (.Return none pos) (tS T X.K Γ W .retN) :=
  ps_retN.imp fun D σ H ⟨env, h, kk, R, S, w, kr⟩ => by
    simp only [Bc.wpS] at w
    exact kr.rt _ _ _ _ w R .refl .non
theorem s_brk : PS X (.Break pos) (tS T X.K Γ W .brk) :=
  ps_break.imp fun D σ H ⟨env, h, kk, R, S, w, kr⟩ => by
    simp only [Bc.wpS] at w
    exact kr.bk _ _ _ _ w R .refl S
theorem s_pass : PS X (.Pass pos) (tS T X.K Γ W .pass) :=
  ps_pass.imp fun D σ H ⟨env, h, kk, R, S, w, kr⟩ => by
    simp only [Bc.wpS] at w
    exact kr.nx _ _ _ _ w R .refl S
theorem s_never {st : Stmt} : PS X st (tS T X.K Γ W .never) :=
  ps_never.imp fun D σ H ⟨env, h, kk, R, S, w, kr⟩ => by
    simp only [Bc.wpS] at w
theorem b_nil : PSs X [] (tB T X.K Γ W .nil) :=
  pss_nil.imp fun D σ H ⟨env, h, kk, R, S, w, kr⟩ => by
    simp only [Bc.wpB] at w
    exact kr.nx _ _ _ _ w R .refl S
theorem b_cons {st : Stmt} {r : List Stmt} {s1 : Bc.Stm} {r1 : Bc.Stms} (h1 : PS X st (tS T X.K Γ W s1)) (h2 : PSs X r (tB T X.K Γ W r1)) : PSs X (st :: r) (tB T X.K Γ W (.cons s1 r1)) :=
  (pss_cons h1 h2).imp fun D σ H ⟨env, h, kk, R, S, w, kr⟩ => by
    simp only [Bc.wpB] at w
    exact ⟨env, h, _, R, S, w, fun env' h' σ' H' q R' f S' => ⟨env', h', kk, R', S', q, kr.step f⟩, kr.rt, kr.bk, kr.ex⟩
theorem s_ite {x y : List Stmt} {bx by' : Bc.Stms} (ht : PT X c (tT T X.K Γ W t)) (ha : PSs X x (tB T X.K Γ W bx)) (hb : PSs X y (tB T X.K Γ W by')) : PS X (.If c x y pos) (tS T X.K Γ W (.ite t bx by')) :=
  (ps_if ht ha hb).imp fun D σ H ⟨env, h, kk, R, S, w, kr⟩ => by
    simp only [Bc.wpS] at w
    refine ⟨env, h, _, _, R, S, w, fun c h1 H1 q R1 f1 => ?_, kr.xp R S⟩
    cases c with
    | true => exact ⟨env, h1, kk, R1, S.fr R f1, q, kr.step f1⟩
    | false => exact ⟨env, h1, kk, R1, S.fr R f1, q, kr.step f1⟩
theorem s_while (ok : Ok X T Γ W k av) (ht : PT X c (tT T X.K Γ W t)) (hb : PSs X body (tB T X.K Γ W bb)) : PS X (.While c body [] pos) (tS T X.K Γ W (.while_ t bb)) :=
  (ps_while ok.pass ht hb).imp fun D σ H ⟨env, h, kk, R, S, w, kr⟩ => by
    simp only [Bc.wpS] at w
    obtain ⟨I, ⟨m0, i0⟩, step⟩ := w
    refine ⟨fun m σ' H' => ∃ env' h', I m env' h' ∧ Rep T X.K H' h' ∧ ER X.K H' σ' env' ∧ Fr H h H' h', ⟨m0, env, h, i0, R, S, .refl⟩, ?_⟩
    rintro m σ1 H1 ⟨env1, h1, i1, R1, S1, f1⟩
    refine ⟨env1, h1, _, _, R1, S1, step m env1 h1 i1, fun c h2 H2 q R2' f2 => ?_, (kr.step f1).xp R1 S1⟩
    cases c with
    | false => exact kr.nx _ _ _ _ q R2' (f1.trans f2) (S1.fr R1 f2)
    | true =>
      refine ⟨_, fun σ' H' z => z, env1, h2, _, R2', S1.fr R1 f2, q, ⟨fun env' h' σ' H' z R' f' S' => ?_, (kr.step (f1.trans f2)).rt, (kr.step (f1.trans f2)).nx, (kr.step (f1.trans f2)).ex⟩⟩
      obtain ⟨m', hm, z⟩ := z
      exact ⟨m', hm, env', h', z, R', S', (f1.trans f2).trans f'⟩
theorem s_for (ok : Ok X T Γ W k av) (hi : PI X tg iter (tI X T Γ W it)) (hg : PG X tg (tG X.K is)) (hb : PSs X body (tB T X.K Γ W bb)) (hs : ∀ x, foldedSetIterable iter X.env x = pure x) : PS X (.For tg iter body [] pos) (tS T X.K Γ W (.for_ is it bb)) :=
  (ps_unl (ps_for ok.pass ok.calm hi hg hb hs)).imp fun D σ H ⟨env, h, kk, R, S, w, kr⟩ => by
    simp only [Bc.wpS] at w
    refine ⟨env, h, _, _, R, S, w, fun wk h1 H2 J okH q R2' f nf oH wkp => ?_, kr.xp R S⟩
    refine ⟨fun i m σ3 H3 => ∃ (env3 : Bc.Env) (h3 : Bc.Heap), m = wk.items.length - i ∧ i ≤ wk.items.length ∧
      Bc.goes (S := Bc.Env × Bc.Heap) (fun s => wk.ok s.2) (fun v s N => Bc.onSome (Bc.bindT is v s.1) fun env' => Bc.wpB Γ bb { nx := fun env h => N (env, h), rt := fun v h' => Bc.unlockQ wk.lock h1 (fun h => kk.rt v h) h', bk := fun env h' => Bc.unlockQ wk.lock h1 (fun h => kk.nx env h) h', ex := fun x env h' => wk.lock = none ∧ kk.ex x env h' } env' s.2)
        (fun s => Bc.unlockQ wk.lock h1 (fun h => kk.nx s.1 h) s.2) (wk.items.drop i) (env3, h3) ∧ Rep T X.K H3 h3 ∧ ER X.K H3 σ3 env3 ∧ Fr H2 (Bc.lockH wk.lock h1) H3 h3, ⟨_, env, _, rfl, Nat.zero_le _, q, R2', S.fr R f, .refl⟩, ?_⟩
    rintro i m σ3 H3 ⟨env3, h3, rfl, hi, g, R3, S3, f3⟩
    have oH3 := wkp.keep _ _ _ _ R2' f3 oH
    by_cases hlt : i < wk.items.length
    · right
      have hd : wk.items.drop i = wk.items[i] :: wk.items.drop (i + 1) := List.drop_eq_getElem_cons hlt
      rw [hd] at g
      obtain ⟨g1, g2⟩ := g
      obtain ⟨env', eb', g2⟩ := Bc.onSome_of g2
      refine ⟨wkp.go i H3 h3 R3 g1 oH3 hlt, _, fun σ' H' z => ⟨wk.items.length - (i + 1), by omega, z⟩, fun x H4 y => ?_⟩
      obtain ⟨R4, f4, r4⟩ := wkp.yld i H3 h3 x H4 _ R3 g1 oH3 (List.getElem?_eq_getElem hlt) y
      have F := (f.trans f3).trans f4
      refine bind_ok r4 (S3.fr R3 f4) eb' (Off.refl is σ3) fun σ' S5 _ => ?_
      refine ⟨env', h3, _, R4, S5, g2, ⟨fun env6 h6 σ6 H6 z R6 f6 S6 => ⟨env6, h6, rfl, hlt, z, R6, S6, (f3.trans f4).trans f6⟩, fun v h6 H6 w6 z R6 f6 r6 => ?_, fun env6 h6 σ6 H6 z R6 f6 S6 => ?_, fun x6 env6 h6 σ6 H6 cls d z R6 f6 S6 xr => ?_⟩⟩
      · exact unl_of (H := H) (h := h) R6 (F.trans f6) nf z fun h7 H7 q7 R7 f7 un7 => kr.rt _ _ _ _ q7 R7 f7 (r6.mono (tups_of un7 R6))
      · exact unl_of (H := H) (h := h) R6 (F.trans f6) nf z fun h7 H7 q7 R7 f7 un7 => kr.nx _ _ _ _ q7 R7 f7 ⟨S6.len, fun j v e => let ⟨a, b, c⟩ := S6.at_ j v e; ⟨a, b, c.mono (tups_of un7 R6)⟩⟩
      · exact kr.ex _ _ _ _ _ _ _ z.2 R6 (F.trans f6) S6 xr
    · left
      have e : i = wk.items.length := by omega
      subst e
      rw [List.drop_length] at g
      obtain ⟨g1, g2⟩ := g
      refine ⟨wkp.stop _ H3 h3 R3 g1 oH3 (Nat.le_refl _), ?_⟩
      exact unl_of (H := H) (h := h) R3 (f.trans f3) nf g2 fun h7 H7 q7 R7 f7 un7 => kr.nx _ _ _ _ q7 R7 f7 ⟨S3.len, fun j v e => let ⟨a, b, c⟩ := S3.at_ j v e; ⟨a, b, c.mono (tups_of un7 R3)⟩⟩
theorem s_par2 (ok : Ok X T Γ W k av) {n m : Nat} {x y : Str} {px py pt : Pos} {kt k2 : Nat} {pt2 : Pos} (h : PS X (.Assign [.Tuple [.Name x px, .Name y py] kt pt] (.Tuple [a, b] k2 pt2) pos) (tPar n m (tA T X.K Γ W (.cons ea (.cons eb .nil))))) :
    PS X (.Assign [.Tuple [.Name x px, .Name y py] kt pt] (.Tuple [a, b] k2 pt2) pos) (tS T X.K Γ W (.par2 n m ea eb)) :=
  h.imp fun D σ H ⟨env, h, kk, R, S, w, kr⟩ => by
    simp only [Bc.wpS] at w
    refine ⟨env, h, _, _, R, S, w, fun vs h' H' ws l q R' f r => ?_, kr.xp R S⟩
    cases r with
    | nil => exact (q : False).elim
    | cons r1 t => cases t with
      | nil => exact (q : False).elim
      | cons r2 t => cases t with
        | cons r3 t => exact (q : False).elim
        | nil => exact ⟨_, _, rfl, kr.nx _ _ _ _ q R' f (((S.fr R f).set r1 n).set r2 m)⟩
end
end Bs
set_option Elab.async false
set_option linter.all false
set_option maxRecDepth 100000
set_option maxHeartbeats 4000000
namespace Bs
open PySem L2 PyProof.Rows

/-! ### names -/
structure Nm (X : Cx) (vi st : List Bool) (gl : List Str) : Prop where
  vis : ∀ (i : Nat) (x : Str), vi[i]? = some true → X.N[i]? = some x → Vis X.env.scope x ∧ (x == ("__debug__" : Str)) = false ∧ (x == ("__classdict__" : Str)) = false
  sto : ∀ (i : Nat) (x : Str), st[i]? = some true → X.N[i]? = some x → Loc X.env.scope x ∧ (X.fn x = true ∨ X.env.scope.names.lookup x = some .local)
  gl : ∀ (j : Nat) (x : Str), gl[j]? = some x → Gl X x ∧ (x == ("__debug__" : Str)) = false
def seen : Option NameKind → Bool
  | some .local => true | some .cell => true | some .free => true | _ => false
def stored (blk : Bool) : Option NameKind → Bool
  | some .local => true | some .cell => !blk | _ => false
def glob1 : Option NameKind → Bool
  | some .globalImplicit => true | _ => false
def nmC (N : List Str) (sc : Scope) (blk : Bool) (vi st : List Bool) (gl : List Str) : Bool :=
  ((N.zip vi).all fun p => !p.2 || (seen (sc.names.lookup p.1) && !(p.1 == ("__debug__" : Str)) && !(p.1 == ("__classdict__" : Str)))) &&
  ((N.zip st).all fun p => !p.2 || stored blk (sc.names.lookup p.1)) &&
  (gl.all fun x => glob1 (sc.names.lookup x) && !(x == ("__debug__" : Str)))
theorem zip_mem {N : List Str} {vi : List Bool} {i : Nat} {x : Str} (h1 : vi[i]? = some true) (h2 : N[i]? = some x) : (x, true) ∈ N.zip vi := by
  refine List.mem_iff_getElem?.mpr ⟨i, ?_⟩
  rw [List.getElem?_zip_eq_some]
  exact ⟨h2, h1⟩
theorem seen_of {o : Option NameKind} (h : seen o = true) : o = some .local ∨ o = some .cell ∨ o = some .free := by
  unfold seen at h
  split at h
  · exact .inl rfl
  · exact .inr (.inl rfl)
  · exact .inr (.inr rfl)
  · cases h
theorem stored_of {b : Bool} {o : Option NameKind} (h : stored b o = true) : o = some .local ∨ (o = some .cell ∧ b = false) := by
  unfold stored at h
  split at h
  · exact .inl rfl
  · exact .inr ⟨rfl, by simpa using h⟩
  · cases h
theorem glob1_of {o : Option NameKind} (h : glob1 o = true) : o = some .globalImplicit := by
  unfold glob1 at h
  split at h
  · rfl
  · cases h
theorem nmC_of {N : List Str} {sc : Scope} {blk : Bool} {vi st : List Bool} {gl : List Str} (h : nmC N sc blk vi st gl = true) :
    (∀ (i : Nat) (x : Str), vi[i]? = some true → N[i]? = some x → Vis sc x ∧ (x == ("__debug__" : Str)) = false ∧ (x == ("__classdict__" : Str)) = false) ∧
    (∀ (i : Nat) (x : Str), st[i]? = some true → N[i]? = some x → sc.names.lookup x = some .local ∨ (sc.names.lookup x = some .cell ∧ blk = false)) ∧
    (∀ (j : Nat) (x : Str), gl[j]? = some x → sc.names.lookup x = some .globalImplicit ∧ (x == ("__debug__" : Str)) = false) := by
  unfold nmC at h
  rw [Bool.and_eq_true, Bool.and_eq_true, List.all_eq_true, List.all_eq_true, List.all_eq_true] at h
  obtain ⟨⟨h1, h2⟩, h3⟩ := h
  refine ⟨fun i x a b => ?_, fun i x a b => ?_, fun j x a => ?_⟩
  · have q := h1 _ (zip_mem a b)
    simp only [Bool.not_true, Bool.false_or, Bool.and_eq_true, Bool.not_eq_true'] at q
    exact ⟨seen_of q.1.1, q.1.2, q.2⟩
  · have q := h2 _ (zip_mem a b)
    simp only [Bool.not_true, Bool.false_or] at q
    exact stored_of q
  · have q := h3 x (List.mem_of_getElem? a)
    simp only [Bool.and_eq_true, Bool.not_eq_true'] at q
    exact ⟨glob1_of q.1, q.2⟩
section
variable {P : Program} {w : World} {K : PySem.W.Frag} {mg : Str → Option Value} {base : Heap} {N : List Str} {qual : Str} {sc : Scope} {f : Addr} {cd : Value} {A : Around} {outer : List Env} {s : Shared} {H : Hp} {E : XK} {CX : CXT} {vi st : List Bool} {gl : List Str}
theorem nm_def (h : nmC N sc false vi st gl = true) : Nm (cxOf CX P w K mg base N qual sc f cd A outer s H E) vi st gl := by
  obtain ⟨h1, h2, h3⟩ := nmC_of h
  refine ⟨h1, fun i x a b => ⟨?_, .inl rfl⟩, h3⟩
  rcases h2 i x a b with q | q
  · exact .inl q
  · exact .inr q.1
theorem rel_free {sc : Scope} {x : Str} : ∀ {names : List (Str × NameKind)}, names.lookup x = some .free →
    (names.map fun (n, k) => if (k == NameKind.free && sc.kind == .function && sc.names.lookup n == some .cell) then (n, NameKind.cell) else (n, k)).lookup x = some .cell ∨
    (names.map fun (n, k) => if (k == NameKind.free && sc.kind == .function && sc.names.lookup n == some .cell) then (n, NameKind.cell) else (n, k)).lookup x = some .free
  | [], h => by simp at h
  | (n, k) :: r, h => by
    have ih := @rel_free sc x r
    show List.lookup x ((if (k == NameKind.free && sc.kind == .function && sc.names.lookup n == some .cell) = true then (n, NameKind.cell) else (n, k)) :: _) = _ ∨ List.lookup x ((if (k == NameKind.free && sc.kind == .function && sc.names.lookup n == some .cell) = true then (n, NameKind.cell) else (n, k)) :: _) = _
    cases hx : x == n with
    | true =>
      simp only [List.lookup_cons, hx] at h
      cases h
      by_cases hc : (NameKind.free == NameKind.free && sc.kind == .function && sc.names.lookup n == some .cell) = true
      · refine .inl ?_; rw [if_pos hc]; simp only [List.lookup_cons, hx]
      · refine .inr ?_; rw [if_neg hc]; simp only [List.lookup_cons, hx]
    | false =>
      simp only [List.lookup_cons, hx] at h
      by_cases hc : (k == NameKind.free && sc.kind == .function && sc.names.lookup n == some .cell) = true
      · rw [if_pos hc]; simp only [List.lookup_cons, hx]; exact ih h
      · rw [if_neg hc]; simp only [List.lookup_cons, hx]; exact ih h
theorem nm_blk {X : Cx} {scope : Scope} {cl : List (Str × Addr)} {C : Addr} {fp : List Addr} (h : nmC X.N scope true vi st gl = true) : Nm (X.blk s H scope (compEnvC scope cl C X.env) fp) vi st gl := by
  obtain ⟨h1, h2, h3⟩ := nmC_of h
  have keep : ∀ {x : Str} {k : NameKind}, k ≠ .free → scope.names.lookup x = some k → (relS scope X.env.scope).names.lookup x = some k := fun hk e => lookup_relS_keep hk e
  refine ⟨fun i x a b => ?_, fun i x a b => ?_, fun j x a => ?_⟩
  · obtain ⟨q, r⟩ := h1 i x a b
    refine ⟨?_, r⟩
    show (relS scope X.env.scope).names.lookup x = _ ∨ (relS scope X.env.scope).names.lookup x = _ ∨ (relS scope X.env.scope).names.lookup x = _
    rcases q with q | q | q
    · exact .inl (keep (by decide) q)
    · exact .inr (.inl (keep (by decide) q))
    · exact .inr (rel_free q)
  · rcases h2 i x a b with q | q
    · have q' := keep (by decide) q
      exact ⟨.inl q', .inr q'⟩
    · exact absurd q.2 (by decide)
  · obtain ⟨q, r⟩ := h3 j x a
    exact ⟨keep (by decide) q, r⟩
end

/-- a look at the names of a def's scope -/
def fnsC (N P : List Str) (sc : Scope) : Bool :=
  (match sc.kind with | .function => true | _ => false) && !sc.isCoroutine && !sc.isGenerator && decide N.Nodup && decide (N.take P.length = P) && P.all (fun x => stored false (sc.names.lookup x)) && sc.names.all (fun y => match y.2 with | .free => false | _ => true)
theorem fns_of {N P : List Str} {sc : Scope} (h : fnsC N P sc = true) : FnScope N P sc := by
  unfold fnsC at h
  simp only [Bool.and_eq_true, Bool.not_eq_true', decide_eq_true_eq, List.all_eq_true] at h
  obtain ⟨⟨⟨⟨⟨⟨h1, h2⟩, h3⟩, h4⟩, h5⟩, h6⟩, h7⟩ := h
  refine ⟨?_, h2, h3, h4, h5, fun x hx => ?_, fun y hy e => ?_⟩
  · split at h1
    · assumption
    · cases h1
  · rcases stored_of (h6 x hx) with q | q
    · exact .inl q
    · exact .inr q.1
  · have q := h7 y hy
    rw [e] at q
    cases q
/-! ### contexts -/
/-- what is known of the text around: tables, classes, and the defs that may be called (levels up to k) -/
structure Fx (P : Program) (w : World) (K : PySem.W.Frag) (mg : Str → Option Value) (base : Heap) (T : Tab) (Γ : Bc.Ctx) (k : Nat) (av : Av) : Prop where
  blt : ∀ x ∈ bltNames, mg x = none
  glob : ∀ g v, g ∈ av.gs → Γ.glob g = some v → ∃ u w, mg (T.glN g) = some u ∧ RelV w u ∧ ∀ H, RV K H w v
  fn : ∀ f ∈ av.fs, FnF P w K mg base T k (T.fnN f) (Γ.fn f)
  new : ∀ c ∈ av.cs, T.kc c = true ∧ NeF P w K mg base T k c (T.clN c) (Γ.new c)
  meth : ∀ m ∈ av.ms, ∀ c, T.kc c = true → Γ.has c m = true → MeF P w K mg base T k (T.ct c) (T.meN m) (Γ.meth c m)
  cls : ∀ c, T.kc c = true → ClF K (T.ct c) ∧ mg (T.clN c) = some (.ref (T.ct c))
  attr : ∀ c f, T.kc c = true → f ∈ av.ff → NoAttr K (T.ct c) (T.fdN f)
  dis : ∀ f m, m ∈ av.ms → T.fdN f ≠ T.meN m
  inj : ∀ f g, g ∈ av.ff → T.fdN f = T.fdN g → f = g
  kOT : ∀ c n, T.kc c = true → n ∈ tyNames → PySem.W.kitOne K (.ref (T.ct c)) (.type n) = some false
  kTO : ∀ c n, T.kc c = true → n ∈ tyNames → PySem.W.kitOne K (.type n) (.ref (T.ct c)) = some false
  kOO : ∀ c d, T.kc c = true → T.kc d = true → PySem.W.kitOne K (.ref (T.ct c)) (.ref (T.ct d)) = some (decide (c = d))
abbrev WXE (E : XK) : WX := fun cls d _ H => E cls d H
section
variable {P : Program} {w : World} {K : PySem.W.Frag} {mg : Str → Option Value} {base : Heap} {T : Tab} {Γ : Bc.Ctx} {k : Nat} {av : Av} {N ps : List Str} {qual : Str} {sc : Scope} {f : Addr} {cd : Value} {A : Around} {outer : List Env} {s : Shared} {H : Hp} {E : XK}
theorem Fx.ok (fx : Fx P w K mg base T Γ k av) (S : FnScope N ps sc) (hr : Room k (A.deeper (envOfC qual sc s.heap.objs.size f cd))) :
    Ok (cxOf (L2.CX P w) P w K mg base N qual sc f cd A outer s H E) T Γ (WXE E) k av where
  room := hr
  un := hr.units
  nd := S.nd
  calm := rfl
  tk := takes_of rfl rfl rfl rfl
  pass := passes_of rfl
  blt := fx.blt
  glob := fx.glob
  fn := fx.fn
  new := fx.new
  meth := fx.meth
  cls := fx.cls
  attr := fx.attr
  dis := fx.dis
  inj := fx.inj
  kOT := fx.kOT
  kTO := fx.kTO
  kOO := fx.kOO
theorem Ok.blk {X : Cx} {W : WX} (ok : Ok X T Γ W k av) (s : Shared) (H : Hp) (scope : Scope) (ce : Env) (fp : List Addr) : Ok (X.blk s H scope ce fp) T Γ W0 k av where
  room := ok.room
  un := ok.un
  nd := ok.nd
  calm := ok.calm
  tk := takes0
  pass := PassesOwn.never
  blt := ok.blt
  glob := ok.glob
  fn := ok.fn
  new := ok.new
  meth := ok.meth
  cls := ok.cls
  attr := ok.attr
  dis := ok.dis
  inj := ok.inj
  kOT := ok.kOT
  kTO := ok.kTO
  kOO := ok.kOO
theorem start_er {vs : List V} {us : List Bc.Val} (r : RVs K H vs us) : ER K H (L2.start N vs) (Bc.startE N.length us) := by
  refine ⟨?_, fun i v q => ?_⟩
  · unfold L2.start Bc.startE
    rw [List.length_append, List.length_append, List.length_map, List.length_map, List.length_replicate, List.length_replicate, r.length]
  · unfold Bc.startE at q
    unfold L2.start
    rw [List.getElem?_append] at q
    rw [List.getElem?_append]
    rw [List.length_map] at *
    rw [r.length]
    split at q
    · rename_i hl
      rw [if_pos hl]
      rw [List.getElem?_map] at q
      cases e : us[i]? with
      | none => rw [e] at q; cases q
      | some u =>
        rw [e] at q
        cases q
        obtain ⟨x, e1, r1⟩ := r.get e
        exact ⟨x, by rw [List.getElem?_map, e1]; rfl, r1⟩
    · rw [List.getElem?_replicate] at q
      split at q <;> cases q
/-- a def, by its mini text -/
theorem def_ok {x : Str} {st : Stmt} {fd : FuncData} (F : Fun K x qual st f fd) (S : FnScope N ps (defScope st)) (fx : Fx P w K mg base T Γ k av) {b : Bc.Stms} {sp : Bc.Spec} {n m : Nat} (hn : ps.length = n) (hm : N.length = m)
    (hsp : ∀ vs h Q E, sp vs h Q E → vs.length = n → Bc.wpF Γ m b vs h Q E)
    (hb : ∀ (cdv : Value) (A : Around) (outer : List Env) (s : Shared) (H : Hp) (E : XK), Ok (cxOf (L2.CX P w) P w K mg base N qual (defScope st) f cdv A outer s H E) T Γ (WXE E) k av →
      PSs (cxOf (L2.CX P w) P w K mg base N qual (defScope st) f cdv A outer s H E) (defBody st) (tB T K Γ (WXE E) b)) :
    FnOk P w K mg base (L2.CX P w) (k + 1) f fd ps (spM T K n sp) := by
  refine F.okX S (fun vs H Q E h => ?_) (fun cdv A outer s H vs Q E hr h => ?_)
  · obtain ⟨args, h, Q, E, R, rv, hl, _⟩ := h
    rw [rv.length, hl, hn]
  · obtain ⟨args, h, Q1, E1, R, rv, hl, w1, kq, kx⟩ := h
    refine ⟨_, hb cdv A outer s H E (fx.ok S hr), Bc.startE m args, h, _, R, ?_, hsp _ _ _ _ w1 hl, ⟨fun env' h' σ' H' q R' f' S' => ?_, fun v h' H' w' q R' f' r' => ?_, fun env' h' σ' H' q _ _ _ => ?_, fun y env' h' σ' H' cls d q R' f' S' xr => ?_⟩⟩
    · subst hm; exact start_er rv
    · exact kq _ _ _ _ q R' f' .non
    · exact kq _ _ _ _ q R' f' r'
    · exact (q : False).elim
    · exact kx _ _ _ _ _ q R' f' xr
theorem FnF.mono {T : Tab} {j k : Nat} {x : Str} {sp : Bc.Spec} (h : FnF P w K mg base T j x sp) (hk : j ≤ k) : FnF P w K mg base T k x sp :=
  let ⟨f, fd, ps, i, n, a, b, c, d, e⟩ := h.ex
  ⟨f, fd, ps, i, n, a, b, c, Nat.le_trans d hk, e⟩
theorem MeF.mono {T : Tab} {j k : Nat} {C : Addr} {x : Str} {sp : Bc.Spec} (h : MeF P w K mg base T j C x sp) (hk : j ≤ k) : MeF P w K mg base T k C x sp :=
  let ⟨f, fd, ps, i, n, a, c, d, e⟩ := h.ex
  ⟨f, fd, ps, i, n, a, c, Nat.le_trans d hk, e⟩
theorem NeF.mono {T : Tab} {j k c : Nat} {x : Str} {sp : Bc.Spec} (h : NeF P w K mg base T j c x sp) (hk : j ≤ k) : NeF P w K mg base T k c x sp :=
  let ⟨f, fd, ps, i, n, si, a, b, c, d, e⟩ := h.ex
  ⟨f, fd, ps, i, n, si, a, b, c, Nat.le_trans d hk, e⟩
theorem Fx.up {k' : Nat} (fx : Fx P w K mg base T Γ k av) (hk : k ≤ k') : Fx P w K mg base T Γ k' av :=
  { fx with fn := fun f hf => (fx.fn f hf).mono hk, new := fun c hc => ⟨(fx.new c hc).1, (fx.new c hc).2.mono hk⟩, meth := fun m hm c hc hh => (fx.meth m hm c hc hh).mono hk }
theorem Fx.addF (fx : Fx P w K mg base T Γ k av) {g : Nat} (h : FnF P w K mg base T k (T.fnN g) (Γ.fn g)) : Fx P w K mg base T Γ k { av with fs := g :: av.fs } :=
  { fx with fn := fun f hf => by rcases List.mem_cons.mp hf with e | e; (subst e; exact h); exact fx.fn f e }
theorem Fx.addC (fx : Fx P w K mg base T Γ k av) {g : Nat} (kc : T.kc g = true) (h : NeF P w K mg base T k g (T.clN g) (Γ.new g)) : Fx P w K mg base T Γ k { av with cs := g :: av.cs } :=
  { fx with new := fun f hf => by rcases List.mem_cons.mp hf with e | e; (subst e; exact ⟨kc, h⟩); exact fx.new f e }
theorem Fx.addM (fx : Fx P w K mg base T Γ k av) {g c0 : Nat} (hc : ∀ c, T.kc c = true → Γ.has c g = true → c = c0) (hd : ∀ f, T.fdN f ≠ T.meN g) (h : MeF P w K mg base T k (T.ct c0) (T.meN g) (Γ.meth c0 g)) : Fx P w K mg base T Γ k { av with ms := g :: av.ms } :=
  { fx with
    meth := fun m hm c kc hh => by
      rcases List.mem_cons.mp hm with e | e
      · subst e
        have z := hc c kc hh
        subst z
        exact h
      · exact fx.meth m e c kc hh
    dis := fun f m hm => by
      rcases List.mem_cons.mp hm with e | e
      · subst e; exact hd f
      · exact fx.dis f m e }
theorem mk_fn {T : Tab} {x : Str} {st : Stmt} {f : Addr} {fd : FuncData} {ps : List Str} {j n : Nat} {sp : Bc.Spec} (F : Fun K x qual st f fd) (hm : mg x = some (.ref f)) (b : Binds K fd ps []) (h : FnOk P w K mg base (L2.CX P w) j f fd ps (spM T K n sp)) (hl : ∀ vs h Q E, sp vs h Q E → vs.length = n) :
    FnF P w K mg base T j x sp := ⟨f, fd, ps, j, n, hm, F.kp, b, Nat.le_refl _, h, hl⟩
theorem mk_me {T : Tab} {C : Addr} {x : Str} {f : Addr} {fd : FuncData} {ps : List Str} {j n : Nat} {sp : Bc.Spec} (M : Meth K C x f) (b : Binds K fd ps []) (h : FnOk P w K mg base (L2.CX P w) j f fd ps (spM T K n sp)) (hl : ∀ vs h Q E, sp vs h Q E → vs.length = n) :
    MeF P w K mg base T j C x sp := ⟨f, fd, ps, j, n, M, b, Nat.le_refl _, h, hl⟩
theorem mk_ne {T : Tab} {c : Nat} {f : Addr} {fd : FuncData} {ps : List Str} {j n : Nat} {si sp : Bc.Spec} (hm : mg (T.clN c) = some (.ref (T.ct c))) (M : Mk K (T.ct c) f) (b : Binds K fd ps []) (h : FnOk P w K mg base (L2.CX P w) j f fd ps (spM T K n si))
    (hl : ∀ vs h Q E, sp vs h Q E → vs.length + 1 = n ∧ ∀ p, h p = none → si (.ref p :: vs) (Bc.upd h p (.ins c [])) (fun v h' => v = .non ∧ Q (.ref p) h') E) :
    NeF P w K mg base T (j + 1) c (T.clN c) sp := ⟨f, fd, ps, j, n, si, hm, M, b, Nat.le_refl _, h, hl⟩
end
end Bs
set_option Elab.async false
set_option linter.all false
set_option maxRecDepth 100000
set_option maxHeartbeats 4000000
namespace Bs
open PySem L2 PyProof.Rows

/-! ### the rules in short, as the printer of terms names them -/
theorem mB {f : Nat} {l : List Nat} (h : l.contains f = true) : f ∈ l := List.contains_iff_mem.mp h
/-- literals: a table of texts -/
def strC (L : List (Str × List Nat)) : Bool := L.all fun p => decide (p.1 = ⟨p.2.toArray⟩) && p.2.all fun c => decide (c < 1114112)
section
variable {X : Cx} {T : Tab} {Γ : Bc.Ctx} {W : WX} {k : Nat} {av : Av} {a b c e tg iter elt o i : Expr} {ea eb ec eo ei : Bc.Exp} {pos p p2 pos' tpos apos : Pos} {es ifs : List Expr} {ees : Bc.Exps} {t u : Bc.Tst} {is : List Nat} {it : Bc.Itr} {vi st : List Bool} {gl : List Str} {L : List (Str × List Nat)}
theorem v_ (nm : Nm X vi st gl) {i : Nat} {x : Str} (h1 : vi[i]? = some true) (h2 : X.N[i]? = some x) : PE X (.Name x pos) (tE T X.K Γ W (.var i)) :=
  let q := nm.vis i x h1 h2
  e_var h2 q.1 q.2.1 q.2.2
theorem k_int {i : Int} {j : Nat} : PE X (.Constant (.int i) j pos) (tE T X.K Γ W (.lit (.int i))) := e_lit pe_int fun _ => .int i
theorem k_bl {i : Bool} {j : Nat} : PE X (.Constant (.bool i) j pos) (tE T X.K Γ W (.lit (.bool i))) := e_lit pe_bl fun _ => .bl i
theorem k_non {j : Nat} : PE X (.Constant .none j pos) (tE T X.K Γ W (.lit .non)) := e_lit pe_non fun _ => .non
theorem k_str (hL : strC L = true) {n j : Nat} {x : Str} {l : List Nat} (h : L[n]? = some (x, l)) : PE X (.Constant (.str x) j pos) (tE T X.K Γ W (.lit (.str l))) := by
  have q := List.all_eq_true.mp hL _ (List.mem_of_getElem? h)
  simp only [Bool.and_eq_true, decide_eq_true_eq, List.all_eq_true] at q
  obtain ⟨q1, q2⟩ := q
  subst q1
  exact e_lit pe_str fun _ => .str l q2
theorem g_ (ok : Ok X T Γ W k av) (nm : Nm X vi st gl) {g j : Nat} (hg : av.gs.contains g = true) (hj : gl[j]? = some (T.glN g)) : PE X (.Name (T.glN g) pos) (tE T X.K Γ W (.glob g)) := by
  cases hv : Γ.glob g with
  | none =>
    refine ⟨fun pins s σ H Q' I ⟨env, h, Q, E, R, S, w, kq, kx⟩ => ?_⟩
    simp only [Bc.wpE, hv, Bc.onSome_none] at w
  | some v =>
    obtain ⟨u, w, h1, h2, h3⟩ := ok.glob g v (mB hg) hv
    exact e_glob hv (pe_glob (nm.gl j _ hj).1 h1 h2 (nm.gl j _ hj).2) h3
theorem p0_ : PTs X [] (tT T X.K Γ W .yes) := ⟨fun pins s σ H Q' I ⟨env, h, Q, E, R, S, w, kq, kx⟩ => pts_nil.run pins s σ H Q' I (kq true h H (by simpa only [Bc.wpT] using w) R .refl)⟩
theorem sub_ (ok : Ok X T Γ W k av) (ha : PE X a (tE T X.K Γ W ea)) (hb : PE X b (tE T X.K Γ W eb)) (hs : PlainIx b) : PE X (.Subscript a b pos) (tE T X.K Γ W (.sub ea eb)) := e_sub ok.un ha hb hs
theorem cmp_ (ok : Ok X T Γ W k av) {o : Bc.COp} (ha : PE X a (tE T X.K Γ W ea)) (hb : PE X b (tE T X.K Γ W eb)) (hm : behindInMarks (opC o) b = false) : PE X (.Compare a [opC o] [b] pos) (tE T X.K Γ W (.cmp o ea eb)) := e_cmp ok.un ha hb hm
theorem tcmp_ (ok : Ok X T Γ W k av) {o : Bc.COp} (ha : PE X a (tE T X.K Γ W ea)) (hb : PE X b (tE T X.K Γ W eb)) (hm : behindInMarks (opC o) b = false) : PT X (.Compare a [opC o] [b] pos) (tT T X.K Γ W (.cmp o ea eb)) := t_cmp ok.un ha hb hm
section
variable (ok : Ok X T Γ W k av) (nm : Nm X vi st gl)
include ok nm
/-- built-ins -/
theorem len_ {j : Nat} (hj : gl[j]? = some ("len" : Str)) (ha : PA X (a :: es) (tA T X.K Γ W ees)) (he : starEach (a :: es) X.env = (false, eval a X.env) :: starEach es X.env) (hpl : (backTo pos (starEach es X.env)).any (·.1) = false) :
    PE X (.Call (.Name "len" p) (a :: es) [] pos) (tE T X.K Γ W (.bi .len ees)) := e_biB bi_len (nm.gl j _ hj).1 (ok.blt _ (by decide)) (by rfl) ha (by decide) (by decide) he hpl
theorem all_ {j : Nat} (hj : gl[j]? = some ("all" : Str)) (ha : PA X (a :: es) (tA T X.K Γ W ees)) (he : starEach (a :: es) X.env = (false, eval a X.env) :: starEach es X.env) (hpl : (backTo pos (starEach es X.env)).any (·.1) = false) :
    PE X (.Call (.Name "all" p) (a :: es) [] pos) (tE T X.K Γ W (.bi .all ees)) := e_biB (bi_all ok.calm) (nm.gl j _ hj).1 (ok.blt _ (by decide)) (by rfl) ha (by decide) (by decide) he hpl
theorem any_ {j : Nat} (hj : gl[j]? = some ("any" : Str)) (ha : PA X (a :: es) (tA T X.K Γ W ees)) (he : starEach (a :: es) X.env = (false, eval a X.env) :: starEach es X.env) (hpl : (backTo pos (starEach es X.env)).any (·.1) = false) :
    PE X (.Call (.Name "any" p) (a :: es) [] pos) (tE T X.K Γ W (.bi .any ees)) := e_biB (bi_any ok.calm) (nm.gl j _ hj).1 (ok.blt _ (by decide)) (by rfl) ha (by decide) (by decide) he hpl
theorem min_ {j : Nat} (hj : gl[j]? = some ("min" : Str)) (ha : PA X (a :: es) (tA T X.K Γ W ees)) (he : starEach (a :: es) X.env = (false, eval a X.env) :: starEach es X.env) (hpl : (backTo pos (starEach es X.env)).any (·.1) = false) :
    PE X (.Call (.Name "min" p) (a :: es) [] pos) (tE T X.K Γ W (.bi .min2 ees)) := e_biB (bi_min2 ok.calm) (nm.gl j _ hj).1 (ok.blt _ (by decide)) (by rfl) ha (by decide) (by decide) he hpl
theorem list_ {j : Nat} (hj : gl[j]? = some ("list" : Str)) (ha : PA X (a :: es) (tA T X.K Γ W ees)) (he : starEach (a :: es) X.env = (false, eval a X.env) :: starEach es X.env) (hpl : (backTo pos (starEach es X.env)).any (·.1) = false) :
    PE X (.Call (.Name "list" p) (a :: es) [] pos) (tE T X.K Γ W (.bi .list ees)) := e_biT (bi_list ok.calm) (nm.gl j _ hj).1 (ok.blt _ (by decide)) (by rfl) ha (by decide) (by decide) he hpl
theorem tuple_ {j : Nat} (hj : gl[j]? = some ("tuple" : Str)) (ha : PA X (a :: es) (tA T X.K Γ W ees)) (he : starEach (a :: es) X.env = (false, eval a X.env) :: starEach es X.env) (hpl : (backTo pos (starEach es X.env)).any (·.1) = false) :
    PE X (.Call (.Name "tuple" p) (a :: es) [] pos) (tE T X.K Γ W (.bi .tuple ees)) := e_biT bi_tuple (nm.gl j _ hj).1 (ok.blt _ (by decide)) (by rfl) ha (by decide) (by decide) he hpl
theorem dict_ {j : Nat} (hj : gl[j]? = some ("dict" : Str)) (ha : PA X (a :: es) (tA T X.K Γ W ees)) (he : starEach (a :: es) X.env = (false, eval a X.env) :: starEach es X.env) (hpl : (backTo pos (starEach es X.env)).any (·.1) = false) :
    PE X (.Call (.Name "dict" p) (a :: es) [] pos) (tE T X.K Γ W (.bi .dict ees)) := e_biT bi_dict (nm.gl j _ hj).1 (ok.blt _ (by decide)) (by rfl) ha (by decide) (by decide) he hpl
theorem int_ {j : Nat} (hj : gl[j]? = some ("int" : Str)) (ha : PA X (a :: es) (tA T X.K Γ W ees)) (he : starEach (a :: es) X.env = (false, eval a X.env) :: starEach es X.env) (hpl : (backTo pos (starEach es X.env)).any (·.1) = false) :
    PE X (.Call (.Name "int" p) (a :: es) [] pos) (tE T X.K Γ W (.bi .int ees)) := e_biT bi_int (nm.gl j _ hj).1 (ok.blt _ (by decide)) (by rfl) ha (by decide) (by decide) he hpl
theorem str_ {j : Nat} (hj : gl[j]? = some ("str" : Str)) (ha : PA X (a :: es) (tA T X.K Γ W ees)) (he : starEach (a :: es) X.env = (false, eval a X.env) :: starEach es X.env) (hpl : (backTo pos (starEach es X.env)).any (·.1) = false) :
    PE X (.Call (.Name "str" p) (a :: es) [] pos) (tE T X.K Γ W (.bi .str ees)) := e_biT bi_str (nm.gl j _ hj).1 (ok.blt _ (by decide)) (by rfl) ha (by decide) (by decide) he hpl
/-- isinstance -/
theorem isO_ {j j2 c : Nat} (hj : gl[j]? = some ("isinstance" : Str)) (h2 : gl[j2]? = some (T.clN c)) (kc : T.kc c = true) (ha : PE X a (tE T X.K Γ W ea)) (he : starEach (a :: [.Name (T.clN c) p2]) X.env = (false, eval a X.env) :: starEach [.Name (T.clN c) p2] X.env) :
    PE X (.Call (.Name "isinstance" p) [a, .Name (T.clN c) p2] [] pos) (tE T X.K Γ W (.isin ea (.own c))) :=
  e_isin ok (fun d e => by cases e; exact kc) (nm.gl j _ hj).1 ha (pe_tyOwn ok kc (nm.gl j2 _ h2).1 (nm.gl j2 _ h2).2) he rfl rfl
theorem isB_ {j j2 : Nat} {n : String} {x : Str} {ty : Bc.Ty} (hj : gl[j]? = some ("isinstance" : Str)) (h2 : gl[j2]? = some x) (hx : x ∈ bltNames) (hv : bootBuiltins x = some (.type n)) (hn : x ≠ "__name__") (ht : TyV T ty = .ty n) (ho : ∀ c, ty ≠ .own c) (ha : PE X a (tE T X.K Γ W ea))
    (he : starEach (a :: [.Name x p2]) X.env = (false, eval a X.env) :: starEach [.Name x p2] X.env) :
    PE X (.Call (.Name "isinstance" p) [a, .Name x p2] [] pos) (tE T X.K Γ W (.isin ea ty)) :=
  e_isin ok (fun d e => absurd e (ho d)) (nm.gl j _ hj).1 ha (by rw [ht]; exact pe_tyB ok hx hv (nm.gl j2 _ h2).1 hn (nm.gl j2 _ h2).2) he rfl rfl
theorem isS_ {j j2 : Nat} (hj : gl[j]? = some ("isinstance" : Str)) (h2 : gl[j2]? = some ("str" : Str)) (ha : PE X a (tE T X.K Γ W ea)) (he : starEach (a :: [.Name "str" p2]) X.env = (false, eval a X.env) :: starEach [.Name "str" p2] X.env) :
    PE X (.Call (.Name "isinstance" p) [a, .Name "str" p2] [] pos) (tE T X.K Γ W (.isin ea .str)) := isB_ (ty := .str) ok nm hj h2 (by decide) (by rfl) (by decide) rfl (fun _ z => Bc.Ty.noConfusion z) ha he
theorem isI_ {j j2 : Nat} (hj : gl[j]? = some ("isinstance" : Str)) (h2 : gl[j2]? = some ("int" : Str)) (ha : PE X a (tE T X.K Γ W ea)) (he : starEach (a :: [.Name "int" p2]) X.env = (false, eval a X.env) :: starEach [.Name "int" p2] X.env) :
    PE X (.Call (.Name "isinstance" p) [a, .Name "int" p2] [] pos) (tE T X.K Γ W (.isin ea .int)) := isB_ (ty := .int) ok nm hj h2 (by decide) (by rfl) (by decide) rfl (fun _ z => Bc.Ty.noConfusion z) ha he
theorem isBl_ {j j2 : Nat} (hj : gl[j]? = some ("isinstance" : Str)) (h2 : gl[j2]? = some ("bool" : Str)) (ha : PE X a (tE T X.K Γ W ea)) (he : starEach (a :: [.Name "bool" p2]) X.env = (false, eval a X.env) :: starEach [.Name "bool" p2] X.env) :
    PE X (.Call (.Name "isinstance" p) [a, .Name "bool" p2] [] pos) (tE T X.K Γ W (.isin ea .bool)) := isB_ (ty := .bool) ok nm hj h2 (by decide) (by rfl) (by decide) rfl (fun _ z => Bc.Ty.noConfusion z) ha he
theorem isT_ {j j2 : Nat} (hj : gl[j]? = some ("isinstance" : Str)) (h2 : gl[j2]? = some ("tuple" : Str)) (ha : PE X a (tE T X.K Γ W ea)) (he : starEach (a :: [.Name "tuple" p2]) X.env = (false, eval a X.env) :: starEach [.Name "tuple" p2] X.env) :
    PE X (.Call (.Name "isinstance" p) [a, .Name "tuple" p2] [] pos) (tE T X.K Γ W (.isin ea .tup)) := isB_ (ty := .tup) ok nm hj h2 (by decide) (by rfl) (by decide) rfl (fun _ z => Bc.Ty.noConfusion z) ha he
theorem isL_ {j j2 : Nat} (hj : gl[j]? = some ("isinstance" : Str)) (h2 : gl[j2]? = some ("list" : Str)) (ha : PE X a (tE T X.K Γ W ea)) (he : starEach (a :: [.Name "list" p2]) X.env = (false, eval a X.env) :: starEach [.Name "list" p2] X.env) :
    PE X (.Call (.Name "isinstance" p) [a, .Name "list" p2] [] pos) (tE T X.K Γ W (.isin ea .lst)) := isB_ (ty := .lst) ok nm hj h2 (by decide) (by rfl) (by decide) rfl (fun _ z => Bc.Ty.noConfusion z) ha he
theorem isD_ {j j2 : Nat} (hj : gl[j]? = some ("isinstance" : Str)) (h2 : gl[j2]? = some ("dict" : Str)) (ha : PE X a (tE T X.K Γ W ea)) (he : starEach (a :: [.Name "dict" p2]) X.env = (false, eval a X.env) :: starEach [.Name "dict" p2] X.env) :
    PE X (.Call (.Name "isinstance" p) [a, .Name "dict" p2] [] pos) (tE T X.K Γ W (.isin ea .dct)) := isB_ (ty := .dct) ok nm hj h2 (by decide) (by rfl) (by decide) rfl (fun _ z => Bc.Ty.noConfusion z) ha he
/-- own defs, classes -/
theorem call_ {f j : Nat} (hf : av.fs.contains f = true) (hj : gl[j]? = some (T.fnN f)) (ha : PA X (a :: es) (tA T X.K Γ W ees)) (he : starEach (a :: es) X.env = (false, eval a X.env) :: starEach es X.env) (hpl : (backTo pos (starEach es X.env)).any (·.1) = false) :
    PE X (.Call (.Name (T.fnN f) p) (a :: es) [] pos) (tE T X.K Γ W (.call f ees)) := e_call ok (mB hf) (nm.gl j _ hj).1 ha (nm.gl j _ hj).2 he hpl
theorem new_ {f j : Nat} (hf : av.cs.contains f = true) (hj : gl[j]? = some (T.clN f)) (ha : PA X (a :: es) (tA T X.K Γ W ees)) (he : starEach (a :: es) X.env = (false, eval a X.env) :: starEach es X.env) (hpl : (backTo pos (starEach es X.env)).any (·.1) = false) :
    PE X (.Call (.Name (T.clN f) p) (a :: es) [] pos) (tE T X.K Γ W (.mk f ees)) := e_new ok (mB hf) (nm.gl j _ hj).1 ha (nm.gl j _ hj).2 he hpl
theorem call0_ {f j : Nat} (hf : av.fs.contains f = true) (hj : gl[j]? = some (T.fnN f)) : PE X (.Call (.Name (T.fnN f) p) [] [] pos) (tE T X.K Γ W (.call f .nil)) := e_call0 ok (mB hf) (nm.gl j _ hj).1 (nm.gl j _ hj).2
/-- walks -/
theorem rng1_ {j : Nat} (hj : gl[j]? = some ("range" : Str)) (ha : PE X a (tE T X.K Γ W ea)) (hs : starEach [a] X.env = [(false, eval a X.env)]) : PI X tg (.Call (.Name "range" p) [a] [] pos) (tI X T Γ W (.rng1 ea)) := i_rng1 (nm.gl j _ hj).1 (ok.blt _ (by decide)) ha hs
theorem rng2_ {j : Nat} (hj : gl[j]? = some ("range" : Str)) (ha : PE X a (tE T X.K Γ W ea)) (hb : PE X b (tE T X.K Γ W eb)) (hs : starEach [a, b] X.env = [(false, eval a X.env), (false, eval b X.env)]) (hs2 : starEach [b] X.env = [(false, eval b X.env)]) :
    PI X tg (.Call (.Name "range" p) [a, b] [] pos) (tI X T Γ W (.rng2 ea eb)) := i_rng2 (nm.gl j _ hj).1 (ok.blt _ (by decide)) ha hb hs hs2
theorem enumL_ {elts : List Expr} {kk : Nat} {j : Nat} (hj : gl[j]? = some ("enumerate" : Str)) (ha : PE X a (tE T X.K Γ W ea)) (hs : starEach [a] X.env = [(false, eval a X.env)]) :
    PI X (.Tuple elts kk tpos) (.Call (.Name "enumerate" p) [a] [] pos) (tI X T Γ W (.enumL ea)) := i_enumL (nm.gl j _ hj).1 (ok.blt _ (by decide)) ha hs
/-- targets -/
theorem t1_ {i : Nat} {x : Str} (h1 : st[i]? = some true) (h2 : X.N[i]? = some x) : PG X (.Name x pos) (gName i) :=
  let q := nm.sto i x h1 h2
  pg_name ok.nd h2 q.1 q.2
theorem ts0_ : PGs X [] (gNames []) := pgs_nil
theorem ts1_ {i : Nat} {x : Str} (h1 : st[i]? = some true) (h2 : X.N[i]? = some x) (hr : PGs X es (gNames is)) (hs : (assignEach (.Name x pos :: es) X.env).map (·.2) = assign (.Name x pos) X.env :: (assignEach es X.env).map (·.2)) : PGs X (.Name x pos :: es) (gNames (i :: is)) :=
  pgs_cons (t1_ ok nm h1 h2) hr hs
theorem tt_ {i j : Nat} {kk : Nat} (hr : PGs X es (gNames (i :: j :: is))) (hn : (assignEach es X.env).length = (i :: j :: is).length) (hst : (assignEach es X.env).findIdx? (·.1) = none) : PG X (.Tuple es kk pos) (tG X.K (i :: j :: is)) := pg_tup ok.calm hr hn hst
theorem tg1_ {i : Nat} {x : Str} (h1 : st[i]? = some true) (h2 : X.N[i]? = some x) : PG X (.Name x pos) (tG X.K [i]) := t1_ ok nm h1 h2
/-- statements -/
theorem set_ {n : Nat} {x : Str} (h1 : st[n]? = some true) (h2 : X.N[n]? = some x) (he : PE X e (tE T X.K Γ W ea)) (hs : swapsWith e (some (.Name x pos')) pos.line X.env = pure false) : PS X (.Assign [.Name x pos'] e pos) (tS T X.K Γ W (.set n ea)) :=
  let q := nm.sto n x h1 h2
  s_set ok h2 q.1 he hs q.2
theorem aug_ {n : Nat} {x : Str} (h1 : st[n]? = some true) (h2 : X.N[n]? = some x) (he : PE X e (tE T X.K Γ W ea)) : PS X (.AugAssign (.Name x pos') .Add e pos) (tS T X.K Γ W (.aug n .add ea)) :=
  let q := nm.sto n x h1 h2
  s_aug ok h2 q.1 he q.2
theorem unpT_ {kk : Nat} (hr : PGs X es (gNames is)) (hn : (assignEach es X.env).length = is.length) (hst : (assignEach es X.env).findIdx? (·.1) = none) (he : PE X e (tE T X.K Γ W ea)) (hs : swapsWithSole [.Tuple es kk tpos] e pos.line X.env = pure false) (hw : swappedStores [.Tuple es kk tpos] e X.env = pure none) :
    PS X (.Assign [.Tuple es kk tpos] e pos) (tS T X.K Γ W (.unpT is ea)) := s_unpT ok (pg_tup ok.calm hr hn hst) he hs hw
theorem unpL_ {kk : Nat} (hr : PGs X es (gNames is)) (hn : (assignEach es X.env).length = is.length) (hst : (assignEach es X.env).findIdx? (·.1) = none) (he : PE X e (tE T X.K Γ W ea)) (hs : swapsWithSole [.Tuple es kk tpos] e pos.line X.env = pure false) (hw : swappedStores [.Tuple es kk tpos] e X.env = pure none) :
    PS X (.Assign [.Tuple es kk tpos] e pos) (tS T X.K Γ W (.unpL is ea)) := s_unpL ok (pg_unl ok.calm hr hn hst) he hs hw
theorem par2_ {n m : Nat} {x y : Str} {px py pt : Pos} {kt k2 : Nat} {pt2 : Pos} (hi : X.N[n]? = some x) (hj : X.N[m]? = some y) (hij : n ≠ m) (hx : X.env.scope.names.lookup x = some .local) (hy : X.env.scope.names.lookup y = some .local) (ha : PA X [a, b] (tA T X.K Γ W (.cons ea (.cons eb .nil))))
    (hw : swappedStores [.Tuple [.Name x px, .Name y py] kt pt] (.Tuple [a, b] k2 pt2) X.env = pure (some [x, y])) (hs : swapsWithSole [.Tuple [.Name x px, .Name y py] kt pt] (.Tuple [a, b] k2 pt2) pos.line X.env = pure false) :
    PS X (.Assign [.Tuple [.Name x px, .Name y py] kt pt] (.Tuple [a, b] k2 pt2) pos) (tS T X.K Γ W (.par2 n m ea eb)) := s_par2 ok (ps_par ok.calm ok.nd hi hj hij hx hy ha hw hs)
theorem sset_ (ho : PE X o (tE T X.K Γ W eo)) (hi : PE X i (tE T X.K Γ W ei)) (he : PE X e (tE T X.K Γ W ea)) (ha : ∀ v, assign (.Subscript o i pos') X.env v = (do
      let ov ← holding [v] (eval o X.env)
      let iv ← holding [v, ov] (eval i X.env)
      standAt pos'
      holding [v, ov, iv] (setItem ov iv v)
      release [v, ov, iv] []))
    (hs : swapsWithSole [.Subscript o i pos'] e pos.line X.env = pure false) (hw : swappedStores [.Subscript o i pos'] e X.env = pure none) : PS X (.Assign [.Subscript o i pos'] e pos) (tS T X.K Γ W (.sset eo ei ea)) :=
  s_sset ok ho hi he (pg_sub ho hi (set_any ok.un) ha) hs hw
theorem setLc_ {n : Nat} {y : Str} {py spos : Pos} {scope : Scope} (h1 : st[n]? = some true) (hy : X.N[n]? = some y) (hyl : X.env.scope.names.lookup y = some .local)
    (hsw : swapsWith (.ListComp elt [⟨tg, iter, ifs, 0⟩] scope pos) (some (.Name y py)) spos.line X.env = pure true) {own : List (Str × Nat)} {vi' st' : List Bool} {gl' : List Str} (hn : nmC X.N scope true vi' st' gl' = true) (hi : PI X tg iter (tI X T Γ W it)) (hb : blkC X.N X.env.scope scope own = true) (hv : own.map (·.2) = is)
    (hg : ∀ (s : Shared) (H : Hp) (C : Addr) (cl : List (Str × Addr)) (fp : List Addr), Ok (X.blk s H scope (compEnvC scope cl C X.env) fp) T Γ W0 k av → Nm (X.blk s H scope (compEnvC scope cl C X.env) fp) vi' st' gl' → PG (X.blk s H scope (compEnvC scope cl C X.env) fp) tg (tG X.K is))
    (ht : ∀ (s : Shared) (H : Hp) (C : Addr) (cl : List (Str × Addr)) (fp : List Addr), Ok (X.blk s H scope (compEnvC scope cl C X.env) fp) T Γ W0 k av → Nm (X.blk s H scope (compEnvC scope cl C X.env) fp) vi' st' gl' → PTs (X.blk s H scope (compEnvC scope cl C X.env) fp) ifs (tT T X.K Γ W0 t))
    (he : ∀ (s : Shared) (H : Hp) (C : Addr) (cl : List (Str × Addr)) (fp : List Addr), Ok (X.blk s H scope (compEnvC scope cl C X.env) fp) T Γ W0 k av → Nm (X.blk s H scope (compEnvC scope cl C X.env) fp) vi' st' gl' → PE (X.blk s H scope (compEnvC scope cl C X.env) fp) elt (tE T X.K Γ W0 ea)) (hs : ∀ x, foldedSetIterable iter X.env x = pure x) :
    PS X (.Assign [.Name y py] (.ListComp elt [⟨tg, iter, ifs, 0⟩] scope pos) spos) (tS T X.K Γ W (.set n (.comp is it t ea))) := s_setLc ok hy hyl hsw hi (blkOk_by hb) hv (fun s H C cl fp => hg s H C cl fp (ok.blk s H _ _ fp) (nm_blk hn)) (fun s H C cl fp => ht s H C cl fp (ok.blk s H _ _ fp) (nm_blk hn)) (fun s H C cl fp => he s H C cl fp (ok.blk s H _ _ fp) (nm_blk hn)) hs
theorem comp_ {scope : Scope} {own : List (Str × Nat)} {vi' st' : List Bool} {gl' : List Str} (hn : nmC X.N scope true vi' st' gl' = true) (hi : PI X tg iter (tI X T Γ W it)) (hb : blkC X.N X.env.scope scope own = true) (hv : own.map (·.2) = is)
    (hg : ∀ (s : Shared) (H : Hp) (C : Addr) (cl : List (Str × Addr)) (fp : List Addr), Ok (X.blk s H scope (compEnvC scope cl C X.env) fp) T Γ W0 k av → Nm (X.blk s H scope (compEnvC scope cl C X.env) fp) vi' st' gl' → PG (X.blk s H scope (compEnvC scope cl C X.env) fp) tg (tG X.K is))
    (ht : ∀ (s : Shared) (H : Hp) (C : Addr) (cl : List (Str × Addr)) (fp : List Addr), Ok (X.blk s H scope (compEnvC scope cl C X.env) fp) T Γ W0 k av → Nm (X.blk s H scope (compEnvC scope cl C X.env) fp) vi' st' gl' → PTs (X.blk s H scope (compEnvC scope cl C X.env) fp) ifs (tT T X.K Γ W0 t))
    (he : ∀ (s : Shared) (H : Hp) (C : Addr) (cl : List (Str × Addr)) (fp : List Addr), Ok (X.blk s H scope (compEnvC scope cl C X.env) fp) T Γ W0 k av → Nm (X.blk s H scope (compEnvC scope cl C X.env) fp) vi' st' gl' → PE (X.blk s H scope (compEnvC scope cl C X.env) fp) elt (tE T X.K Γ W0 ea)) (hs : ∀ x, foldedSetIterable iter X.env x = pure x) :
    PE X (.ListComp elt [⟨tg, iter, ifs, 0⟩] scope pos) (tE T X.K Γ W (.comp is it t ea)) := e_comp ok hi (blkOk_by hb) hv (fun s H C cl fp => hg s H C cl fp (ok.blk s H _ _ fp) (nm_blk hn)) (fun s H C cl fp => ht s H C cl fp (ok.blk s H _ _ fp) (nm_blk hn)) (fun s H C cl fp => he s H C cl fp (ok.blk s H _ _ fp) (nm_blk hn)) hs
theorem dcomp_ {kx' : Expr} {scope : Scope} {own : List (Str × Nat)} {vi' st' : List Bool} {gl' : List Str} (hn : nmC X.N scope true vi' st' gl' = true) (hi : PI X tg iter (tI X T Γ W it)) (hb : blkC X.N X.env.scope scope own = true) (hv : own.map (·.2) = is)
    (hg : ∀ (s : Shared) (H : Hp) (C : Addr) (cl : List (Str × Addr)) (fp : List Addr), Ok (X.blk s H scope (compEnvC scope cl C X.env) fp) T Γ W0 k av → Nm (X.blk s H scope (compEnvC scope cl C X.env) fp) vi' st' gl' → PG (X.blk s H scope (compEnvC scope cl C X.env) fp) tg (tG X.K is))
    (ht : ∀ (s : Shared) (H : Hp) (C : Addr) (cl : List (Str × Addr)) (fp : List Addr), Ok (X.blk s H scope (compEnvC scope cl C X.env) fp) T Γ W0 k av → Nm (X.blk s H scope (compEnvC scope cl C X.env) fp) vi' st' gl' → PTs (X.blk s H scope (compEnvC scope cl C X.env) fp) ifs (tT T X.K Γ W0 t))
    (hk : ∀ (s : Shared) (H : Hp) (C : Addr) (cl : List (Str × Addr)) (fp : List Addr), Ok (X.blk s H scope (compEnvC scope cl C X.env) fp) T Γ W0 k av → Nm (X.blk s H scope (compEnvC scope cl C X.env) fp) vi' st' gl' → PE (X.blk s H scope (compEnvC scope cl C X.env) fp) kx' (tE T X.K Γ W0 eb))
    (he : ∀ (s : Shared) (H : Hp) (C : Addr) (cl : List (Str × Addr)) (fp : List Addr), Ok (X.blk s H scope (compEnvC scope cl C X.env) fp) T Γ W0 k av → Nm (X.blk s H scope (compEnvC scope cl C X.env) fp) vi' st' gl' → PE (X.blk s H scope (compEnvC scope cl C X.env) fp) elt (tE T X.K Γ W0 ea)) (hs : ∀ x, foldedSetIterable iter X.env x = pure x) :
    PE X (.DictComp kx' elt [⟨tg, iter, ifs, 0⟩] scope pos) (tE T X.K Γ W (.dcomp is it t eb ea)) := e_dcomp ok hi (blkOk_by hb) hv (fun s H C cl fp => hg s H C cl fp (ok.blk s H _ _ fp) (nm_blk hn)) (fun s H C cl fp => ht s H C cl fp (ok.blk s H _ _ fp) (nm_blk hn)) (fun s H C cl fp => hk s H C cl fp (ok.blk s H _ _ fp) (nm_blk hn)) (fun s H C cl fp => he s H C cl fp (ok.blk s H _ _ fp) (nm_blk hn)) hs
theorem one_ {st : Stmt} {s1 : Bc.Stm} (h1 : PS X st (tS T X.K Γ W s1)) : PSs X [st] (tB T X.K Γ W (.cons s1 .nil)) := b_cons h1 b_nil
end
/-! methods of built-ins -/
section
variable {cpos : Pos} (ok : Ok X T Γ W k av)
abbrev Few (X : Cx) (es : List Expr) (cpos : Pos) : Prop := ((backTo cpos (starEach es X.env)).all (fun x => !x.1) && (backToKw cpos (keywordEach [] X.env)).all (fun x => x.1.isSome)
      && decide (es.length + ([] : List Keyword).length + (if ([] : List Keyword).isEmpty then 0 else 1) < 30)) = true
include ok
theorem append_ (ho : PE X a (tE T X.K Γ W ea)) (ha : PA X (b :: es) (tA T X.K Γ W ees)) (hbase : attributeBase a "append" X.env (eval a X.env) = eval a X.env) (hfew : Few X (b :: es) cpos) (hline : (apos.endLine == cpos.line) = true) (hs : starEach (b :: es) X.env = (false, eval b X.env) :: starEach es X.env) (hpl : (backTo cpos (starEach es X.env)).any (·.1) = false) :
    PE X (.Call (.Attribute a "append" apos) (b :: es) [] cpos) (tE T X.K Γ W (.bm ea .append ees)) := e_bm PySem.F.plainAttrs_list PySem.F.slot_list_append PySem.F.type_list_append bm_append (by decide) ho ha hbase hfew hline hs hpl
theorem popAt_ (ho : PE X a (tE T X.K Γ W ea)) (ha : PA X (b :: es) (tA T X.K Γ W ees)) (hbase : attributeBase a "pop" X.env (eval a X.env) = eval a X.env) (hfew : Few X (b :: es) cpos) (hline : (apos.endLine == cpos.line) = true) (hs : starEach (b :: es) X.env = (false, eval b X.env) :: starEach es X.env) (hpl : (backTo cpos (starEach es X.env)).any (·.1) = false) :
    PE X (.Call (.Attribute a "pop" apos) (b :: es) [] cpos) (tE T X.K Γ W (.bm ea .popAt ees)) := e_bm PySem.F.plainAttrs_list PySem.F.slot_list_pop PySem.F.type_list_pop bm_popAt (by decide) ho ha hbase hfew hline hs hpl
theorem insert_ (ho : PE X a (tE T X.K Γ W ea)) (ha : PA X (b :: es) (tA T X.K Γ W ees)) (hbase : attributeBase a "insert" X.env (eval a X.env) = eval a X.env) (hfew : Few X (b :: es) cpos) (hline : (apos.endLine == cpos.line) = true) (hs : starEach (b :: es) X.env = (false, eval b X.env) :: starEach es X.env) (hpl : (backTo cpos (starEach es X.env)).any (·.1) = false) :
    PE X (.Call (.Attribute a "insert" apos) (b :: es) [] cpos) (tE T X.K Γ W (.bm ea .insert ees)) := e_bm PySem.F.plainAttrs_list PySem.F.slot_list_insert PySem.F.type_list_insert bm_insert (by decide) ho ha hbase hfew hline hs hpl
theorem join_ (ho : PE X a (tE T X.K Γ W ea)) (ha : PA X (b :: es) (tA T X.K Γ W ees)) (hbase : attributeBase a "join" X.env (eval a X.env) = eval a X.env) (hfew : Few X (b :: es) cpos) (hline : (apos.endLine == cpos.line) = true) (hs : starEach (b :: es) X.env = (false, eval b X.env) :: starEach es X.env) (hpl : (backTo cpos (starEach es X.env)).any (·.1) = false) :
    PE X (.Call (.Attribute a "join" apos) (b :: es) [] cpos) (tE T X.K Γ W (.bm ea .join ees)) := e_bm PySem.F.plainAttrs_str PySem.F.slot_str_join PySem.F.type_str_join bm_join (by decide) ho ha hbase hfew hline hs hpl
theorem split_ (ho : PE X a (tE T X.K Γ W ea)) (ha : PA X (b :: es) (tA T X.K Γ W ees)) (hbase : attributeBase a "split" X.env (eval a X.env) = eval a X.env) (hfew : Few X (b :: es) cpos) (hline : (apos.endLine == cpos.line) = true) (hs : starEach (b :: es) X.env = (false, eval b X.env) :: starEach es X.env) (hpl : (backTo cpos (starEach es X.env)).any (·.1) = false) :
    PE X (.Call (.Attribute a "split" apos) (b :: es) [] cpos) (tE T X.K Γ W (.bm ea .split ees)) := e_bm PySem.F.plainAttrs_str PySem.F.slot_str_split PySem.F.type_str_split bm_split (by decide) ho ha hbase hfew hline hs hpl
theorem starts_ (ho : PE X a (tE T X.K Γ W ea)) (ha : PA X (b :: es) (tA T X.K Γ W ees)) (hbase : attributeBase a "startswith" X.env (eval a X.env) = eval a X.env) (hfew : Few X (b :: es) cpos) (hline : (apos.endLine == cpos.line) = true) (hs : starEach (b :: es) X.env = (false, eval b X.env) :: starEach es X.env) (hpl : (backTo cpos (starEach es X.env)).any (·.1) = false) :
    PE X (.Call (.Attribute a "startswith" apos) (b :: es) [] cpos) (tE T X.K Γ W (.bm ea .startswith ees)) := e_bm PySem.F.plainAttrs_str PySem.F.slot_str_startswith PySem.F.type_str_startswith bm_starts (by decide) ho ha hbase hfew hline hs hpl
theorem count_ (ho : PE X a (tE T X.K Γ W ea)) (ha : PA X (b :: es) (tA T X.K Γ W ees)) (hbase : attributeBase a "count" X.env (eval a X.env) = eval a X.env) (hfew : Few X (b :: es) cpos) (hline : (apos.endLine == cpos.line) = true) (hs : starEach (b :: es) X.env = (false, eval b X.env) :: starEach es X.env) (hpl : (backTo cpos (starEach es X.env)).any (·.1) = false) :
    PE X (.Call (.Attribute a "count" apos) (b :: es) [] cpos) (tE T X.K Γ W (.bm ea .count ees)) := e_bm PySem.F.plainAttrs_str PySem.F.slot_str_count PySem.F.type_str_count bm_count (by decide) ho ha hbase hfew hline hs hpl
theorem pop_ (ho : PE X a (tE T X.K Γ W ea)) (hbase : attributeBase a "pop" X.env (eval a X.env) = eval a X.env) (hline : (apos.endLine == cpos.line) = true) :
    PE X (.Call (.Attribute a "pop" apos) [] [] cpos) (tE T X.K Γ W (.bm ea .pop .nil)) := e_bm0 PySem.F.plainAttrs_list PySem.F.slot_list_pop PySem.F.type_list_pop bm_pop (by decide) ho hbase hline
theorem get_ (ho : PE X a (tE T X.K Γ W ea)) (hb : PE X b (tE T X.K Γ W eb)) (hbase : attributeBase a "get" X.env (eval a X.env) = eval a X.env) (hfew : Few X [b] cpos) (hline : (apos.endLine == cpos.line) = true) (ht : backTo cpos (starEach [b] X.env) = [(false, eval b X.env)]) :
    PE X (.Call (.Attribute a "get" apos) [b] [] cpos) (tE T X.K Γ W (.bm ea .get (.cons eb .nil))) := e_get ok.un ho hb ⟨hbase, hfew, hline, ht⟩
end
end
end Bs
set_option Elab.async false
set_option linter.all false
set_option maxRecDepth 100000
set_option maxHeartbeats 4000000
namespace Bs
open PySem L2 PyProof.Rows

/-! ### enumerate of a text, of a tuple -/
def ItS (x : Str) : It :=
  ⟨fun i _ => i < x.cps.size, fun i H v H' => ∃ T c, v = .ref T ∧ H T = none ∧ H' = upd H T (.tup [.int (i : Nat), .str ⟨#[c]⟩]) ∧ x.cps[i]? = some c, fun i _ => x.cps.size ≤ i⟩
theorem turn_enumS {P : Program} {w : World} {K : PySem.W.Frag} {elts : List Expr} {kk : Nat} {tpos : Pos} (e it : Addr) (x : Str) (t : Tok) (ty : String) (hty : ty = "str_ascii_iterator" ∨ ty = "str_iterator") :
    Turn P w K (.Tuple elts kk tpos) (ItS x) [e, it] e (fun i h => (∃ old, IsEnum h e it ((i : Nat) : Int) old) ∧ h.IsStrIter it ty x t i ∧ e ≠ it) where
  mem := by simp
  obj := fun i h st b hb => by
    obtain ⟨⟨old, he⟩, ⟨o, ho, hc, hd⟩, _⟩ := st
    have e' : b = e ∨ b = it := by simpa using hb
    rcases e' with z | z
    · rw [z]; exact ⟨_, he, fun v q => nomatch q⟩
    · rw [z]; exact ⟨o, ho, fun v q => by rw [hd] at q; cases q⟩
  keep := fun i h h' st k => let ⟨⟨old, he⟩, ⟨o, ho, r⟩, hne⟩ := st; ⟨⟨old, k e (by simp) _ he⟩, ⟨o, k it (by simp) o ho, r⟩, hne⟩
  item := by
    intro X hP hw hK hc i pins s σ H E I hf st hg
    subst hP hw hK
    obtain ⟨⟨old, he⟩, hit, hne⟩ := st
    have hel : e < s.heap.objs.size := Heap.lt_size he
    have hil : it < s.heap.objs.size := by obtain ⟨_, q, _⟩ := hit; exact Heap.lt_size q
    have D : Draws X.prog X.w X.A.in1 it [it] x.cps.size (fun i v => ∃ c u, x.cps[i]? = some c ∧ v = .str ⟨#[c]⟩ u) (fun i h => h.IsStrIter it ty x t i) := by
      rcases hty with q | q
      · rw [q]; exact Draws.strAscii (A := X.A.in1) (I.ok.hd hc) it x t
      · rw [q]; exact Draws.strWide (A := X.A.in1) (I.ok.hd hc) it x t
    refine wpAny_pyNext_enum_itemD D he hit hg hne (by simpa using hne) fun u h' tk hP ho hit' hT hsz hk => ?_
    obtain ⟨c, u0, hcx, rfl⟩ := hP
    refine ⟨_, rfl, wpAny_letOwnedTupleGo_enum (s := { s with heap := h', toks := tk + 1 }) ho fun h'' he' sb => ?_⟩
    have hT2 : h''.get? s.heap.objs.size = some { cls := .type "tuple", data := .seq #[.int i tk, .str ⟨#[c]⟩ u0] } := (sb.2 _ (Nat.ne_of_gt hel)).trans hT
    have new : ObjOk X.prog X.w (upd H s.heap.objs.size (.tup [.int (i : Nat), .str ⟨#[c]⟩])) h'' s.heap.objs.size (.tup [.int (i : Nat), .str ⟨#[c]⟩]) :=
      ⟨by show 2 ≤ sizeLine; decide, [.int i tk, .str ⟨#[c]⟩ u0], .cons ⟨_, rfl⟩ (.cons ⟨_, rfl⟩ .nil), ⟨_, hT2, rfl, _, rfl⟩⟩
    have I1 : Inv X pins σ (upd H s.heap.objs.size (.tup [.int (i : Nat), .str ⟨#[c]⟩])) { s with heap := h'', toks := tk + 1 } :=
      I.turnedNew (ch := [e, it]) (fun b ob hb q => (sb.2 b (fun z => hb (by simp [z]))).trans (hk b ob (fun z => hb (by simp [z])) (fun z => hb (by simp [z])) q)) hf (Nat.le_refl _) new
    obtain ⟨oi, q1, q2, q3⟩ := id hit'
    refine ⟨.ref s.heap.objs.size, _, I1, rfl, ⟨_, c, rfl, I.hok.fresh (Nat.le_refl _), rfl, hcx⟩, ⟨⟨.str ⟨#[c]⟩ u0, ?_⟩, ⟨oi, (sb.2 it (Ne.symm hne)).trans q1, q2, q3⟩, hne⟩, fun b hb => ?_⟩
    · have e1 : ((i + 1 : Nat) : Int) = (i : Int) + 1 := by omega
      rw [e1]; exact he'
    · have hb' : b < s.heap.objs.size := by
        have e' : b = e ∨ b = it := by simpa using hb
        rcases e' with z | z
        · rw [z]; exact hel
        · rw [z]; exact hil
      rw [upd_ne (Nat.ne_of_lt hb')]
      exact (hf b hb).1
  done := by
    intro X hP hw hK hc i pins s σ H E I hf st hg
    subst hP hw hK
    obtain ⟨⟨old, he⟩, hit, hne⟩ := st
    obtain ⟨f0, f1, f2, f3, f4, f5⟩ := hf it (by simp)
    obtain ⟨oi, q1, q2, q3⟩ := id hit
    have D : Draws X.prog X.w X.A.in1 it [it] i (fun _ _ => False) (fun j h => if j = i then h.IsStrIter it ty x t i else False) := by
      refine ⟨fun j h st => ?_, fun j h h' st k => ?_, fun j s Q E hj st _ => ?_, fun s Q E st hE => ?_⟩
      · by_cases hj : j = i
        · rw [if_pos hj] at st; obtain ⟨o, ho, _⟩ := st; exact ⟨o, ho⟩
        · rw [if_neg hj] at st; exact st.elim
      · by_cases hj : j = i
        · rw [if_pos hj] at st ⊢; obtain ⟨o, ho, r⟩ := st; exact ⟨o, k it (by simp) o ho, r⟩
        · rw [if_neg hj] at st; exact st.elim
      · rw [if_neg (Nat.ne_of_lt hj)] at st; exact st.elim
      · rw [if_pos rfl] at st
        have hx : x.cps[i]? = none := Array.getElem?_eq_none hg
        rcases hty with q | q
        · rw [q] at st; exact wpAny_nextOf_ascii_end (I.ok.hd hc) st hx hE
        · rw [q] at st; exact wpAny_nextOf_wide_end (I.ok.hd hc) st hx hE
    exact wpAny_pyNext_enum_endD D he (by rw [if_pos rfl]; exact hit) fun h' eb => ⟨rfl, I.turned (t' := s.toks) (fun b o hb q => eb b o hb q) f0 f1 f3 f4 f5⟩
  self := fun A i s Q E st h => let ⟨⟨_, he⟩, _⟩ := st; wpAny_pyIter_enum he h
def iEnumS (ta : TA) : TI := fun σ H R => ta σ H fun vs H1 => ∃ x, vs = [.str x] ∧ R (ItS x) H1
theorem pi_enumS {X : Cx} {e : Expr} {ta : TA} {p pos tpos : Pos} {elts : List Expr} {kk : Nat} (hg : Gl X "enumerate") (hm : X.mg "enumerate" = none) (ha : PA X [e] ta) (hs : starEach [e] X.env = [(false, eval e X.env)]) :
    PI X (.Tuple elts kk tpos) (.Call (.Name "enumerate" p) [e] [] pos) (iEnumS ta) := by
  refine ⟨fun pins s σ H R I h => ?_⟩
  refine Call_ (ld_blt I hg hm boot_enumerate (PyProof.Rows.callWith_type1 (thn (ha.run pos pins s σ H _ I h) fun us s1 ⟨vs, H1, I1, r1, q1⟩ => ?_) hs rfl))
  obtain ⟨x, ex, q⟩ := q1
  subst ex
  cases r1 with
  | cons r rr =>
    cases rr
    obtain ⟨t, rfl⟩ := r
    refine call_enumerate_str fun h' he hit hsz hk => wpAny_pyIter_enum he ?_
    have I2 : Inv X pins σ H1 { s1 with heap := h' } := I1.kept (t' := s1.toks) hk
    have hty : strIterType x = "str_ascii_iterator" ∨ strIterType x = "str_iterator" := by unfold strIterType; split; exact .inl rfl; exact .inr rfl
    refine ⟨s1.heap.objs.size + 1, [s1.heap.objs.size + 1, s1.heap.objs.size], _, _, H1, rfl, I2, turn_enumS (s1.heap.objs.size + 1) s1.heap.objs.size x t _ hty, ⟨⟨.none, he⟩, hit, Nat.succ_ne_self _⟩, fun b hb => ?_, q⟩
    have e' : b = s1.heap.objs.size + 1 ∨ b = s1.heap.objs.size := by simpa using hb
    have hle : s1.heap.objs.size ≤ b := by
      rcases e' with z | z
      · rw [z]; exact Nat.le_add_right _ _
      · rw [z]; exact Nat.le_refl _
    exact I1.fpOk hle (I1.hok.fresh hle)
section
variable {T : Tab} {K : PySem.W.Frag}
theorem signs_get {s : List Nat} {i : Nat} {v : Bc.Val} (h : (Bc.signs s)[i]? = some v) : ∃ c, s[i]? = some c ∧ v = .str [c] := by
  unfold Bc.signs at h
  rw [List.getElem?_map] at h
  cases e : s[i]? with
  | none => rw [e] at h; cases h
  | some c => rw [e] at h; cases h; exact ⟨c, rfl, rfl⟩
theorem signs_len (s : List Nat) : (Bc.signs s).length = s.length := by unfold Bc.signs; rw [List.length_map]
theorem wk_enumS {s : List Nat} (ok : ∀ c ∈ s, c < 1114112) : Wk T K (ItS ⟨s.toArray⟩) (Bc.zipIx 0 (Bc.signs s)) (fun _ => True) (fun _ => True) where
  keep := fun _ _ _ _ _ _ _ => True.intro
  stop := fun i H h R o _ hi => by
    rw [zipIx_len, signs_len] at hi
    show s.toArray.size ≤ i
    simpa using hi
  go := fun i H h R o _ hi => by
    rw [zipIx_len, signs_len] at hi
    show i < s.toArray.size
    simpa using hi
  yld := fun i H h x H' v R o _ hv y => by
    obtain ⟨p, c, ex, hn, eH, y⟩ := y
    subst ex eH
    obtain ⟨z, e1, e2⟩ := zipIx_get _ 0 i v hv
    subst e2
    obtain ⟨c', e3, e4⟩ := signs_get e1
    subst e4
    have e5 : s[i]? = some c := by simpa using y
    rw [e3] at e5
    cases e5
    have f := Fr.newU (o := .tup [.int (i : Nat), .str ⟨#[c]⟩]) R hn
    refine ⟨R.newU hn, f, .tup (.inl (.inl upd_same)) ?_⟩
    rw [Nat.zero_add]
    exact .cons (.int _) (.cons (.str [c] (fun d hd => by simp only [List.mem_singleton] at hd; subst hd; exact ok _ (List.mem_of_getElem? e3))) .nil)
end
section
variable {X : Cx} {T : Tab} {Γ : Bc.Ctx} {W : WX} {k : Nat} {av : Av} {a : Expr} {ea : Bc.Exp} {pos p tpos : Pos} {vi st : List Bool} {gl : List Str}
theorem enumS_ (ok : Ok X T Γ W k av) (nm : Nm X vi st gl) {elts : List Expr} {kk : Nat} {j : Nat} (hj : gl[j]? = some ("enumerate" : Str)) (ha : PE X a (tE T X.K Γ W ea)) (hs : starEach [a] X.env = [(false, eval a X.env)]) :
    PI X (.Tuple elts kk tpos) (.Call (.Name "enumerate" p) [a] [] pos) (tI X T Γ W (.enumS ea)) :=
  (pi_enumS (nm.gl j _ hj).1 (ok.blt _ (by decide)) (pa_cons ha pa_nil hs) hs).imp fun σ H R' ⟨env, h, R, E, Rp, S, w, k, kx⟩ => by
    simp only [Bc.wpI] at w
    refine ⟨env, h, _, E, Rp, S, w, fun v h1 H1 x q R1 f1 r1 => ?_, kx⟩
    cases r1 <;> first | exact q.elim | skip
    rename_i s oks
    exact ⟨_, rfl, k _ h1 H1 _ _ q R1 f1 (fun a z => (nomatch z)) True.intro (wk_enumS oks)⟩
end
end Bs
set_option Elab.async false
set_option linter.all false
set_option maxRecDepth 100000
set_option maxHeartbeats 4000000
namespace Bs
open PySem L2 PyProof.Rows

/-! ### try, with clauses that may have a name -/
def endsAs (D : Ends) : Option Nat → Ends
  | none => D
  | some i => { nx := fun σ' H' => D.nx (σ'.set i none) H', rt := D.rt, bk := fun σ' H' => D.bk (σ'.set i none) H', ct := fun σ' H' => D.ct (σ'.set i none) H' }
def stAs (σ : L2.St) (a : Addr) : Option Nat → L2.St
  | none => σ
  | some i => σ.set i (some (.ref a))
abbrev Suit := Addr → Value → Option Addr → TS
def wHds (K : PySem.W.Frag) (Wo : WX) (D : Ends) : List (Value × Option Nat × Suit) → WX
  | [] => Wo
  | (c, i, ts) :: r => fun cls d σ H => ∃ b, PySem.W.exmOne K cls c = some b ∧ (b = true → ∀ a, H a = none → ts a cls d (endsAs D i) (stAs σ a i) H) ∧ (b = false → wHds K Wo D r cls d σ H)
def SuitOk (X : Cx) (b1 : Stmt) (more : List Stmt) (ts : Suit) : Prop :=
  ∀ (a : Addr) (ob : Obj) (cls : Value) (d : Option Addr) (pn : List (Addr × Obj)), Zc cls d ob → (∃ vs, ob.data = .fields vs) → PSs (X.suite a ((a, ob) :: pn)) (b1 :: more) (ts a cls d)
inductive HdsN (X : Cx) : List ExceptHandler → List (Value × Option Nat × Suit) → Prop
  | nil : HdsN X [] []
  | plain {x : Str} {c : Value} {ts : Suit} {b1 : Stmt} {more : List Stmt} {p1 p2 : Pos} {hds : List ExceptHandler} {l : List (Value × Option Nat × Suit)} (hc : Names X x c) (hsu : SuitOk X b1 more ts) (r : HdsN X hds l) :
      HdsN X (.ExceptHandler (some (.Name x p1)) none (b1 :: more) p2 :: hds) ((c, none, ts) :: l)
  | named {x n : Str} {i : Nat} {c : Value} {ts : Suit} {b1 : Stmt} {more : List Stmt} {p1 p2 : Pos} {hds : List ExceptHandler} {l : List (Value × Option Nat × Suit)} (hi : X.N[i]? = some n) (hln : X.env.kindOf n = some .local) (hc : Names X x c) (hsu : SuitOk X b1 more ts) (r : HdsN X hds l) :
      HdsN X (.ExceptHandler (some (.Name x p1)) (some n) (b1 :: more) p2 :: hds) ((c, some i, ts) :: l)
section
variable {X : Cx} {body : List Stmt} {g1 : ExceptHandler} {gs : List ExceptHandler} {l : List (Value × Option Nat × Suit)} {pos : Pos} {tb : WX → TS} {Wo : WX}
theorem ps_tryN (hst : X.stack = X.env :: X.outer) (hfm : X.env.frame = some X.env.locals) (hN : X.N.Nodup) (tk : Takes X Wo)
    (hbd : ∀ (W : WX) (pn : List (Addr × Obj)) (xe : Value → Shared → Prop), Takes (X.tr pn xe) W → PassesOwn (model X.prog X.w) X.A X.env xe → PSs (X.tr pn xe) body (tb W))
    (hhs : HdsN X (g1 :: gs) l) : PS X (.Try body (g1 :: gs) [] [] pos) (fun D σ H => tb (wHds X.K Wo D l) D σ H) := by
  refine ⟨fun pins s σ H D I h => ?_⟩
  have okX := I.ok
  have frX : X.A.frames = some (X.env :: X.outer) := by rw [okX.frames, hst]
  refine wpAny_Try_except ?_
  let xe1 : Value → Shared → Prop := fun e s₁ => wpAny (model X.prog X.w) X.A (noteFrame e X.env) (fun _ s₂ => wpAny (model X.prog X.w) X.A (setFlight e none) (fun _ s₃ =>
    wpAny (model X.prog X.w) X.A (handleBy e X.env (g1 :: gs)) (SP X pins D) X.xe s₃) X.xe s₂) X.xe s₁
  refine wpAny_mono ((hbd (wHds X.K Wo D l) (X.pn ++ pins) xe1 (fun u sx xx => ?_) PassesOwn.looking).run [] s σ H D (I.toTry _) h) (fun fl sz hz => ?_) (fun _ _ he => he)
  · obtain ⟨a, B, sJ, pinsJ, τ, G, cls, d, rfl, J0, nbg, upw, skyw, naw, osw, agw, wq⟩ := xx
    have J : Inv X pins τ G sJ := J0.ofTry okX
    have skyX : Sky B (X.env :: X.outer) a (Zc cls d) X.env.locals sx.heap := by rw [← hst]; exact skyw
    show wpAny (model X.prog X.w) X.A (noteFrame (.ref a) X.env) _ _ _
    refine Sky.land Zc.steady frX hfm skyX fun hL flL upL => ?_
    have JL : Inv X pins τ G { sx with heap := hL } := J.landed nbg flL.1 (upw.trans upL) osw agw
    obtain ⟨obL, fsL, atL, zcL, dtL⟩ := flL.there
    have off : ∀ {hh : Heap} {ob : Obj} {fv : Array Value}, hh.FunFrames B (X.env :: X.outer) → hh.get? a = some ob → ob.data = .fields fv → a ∉ frs (X.env :: X.outer) := fun {hh ob fv} ff e dd hm => by
      obtain ⟨_, ob', e', hnf⟩ := ff.mem hm
      rw [e] at e'
      cases e'
      exact hnf _ dd
    have offL := off flL.2.2.1 atL dtL
    have notLoc : a ≠ X.env.locals := fun z => offL (List.mem_filterMap.mpr ⟨X.env, List.mem_cons_self, by rw [hfm, z]⟩)
    have notFs : a ∉ X.fs := fun hm => by
      obtain ⟨e, he, q⟩ := List.mem_filterMap.mp hm
      exact offL (List.mem_filterMap.mpr ⟨e, List.mem_cons_of_mem _ he, q⟩)
    have SL := JL.suite atL dtL naw notLoc notFs
    have look : ∀ {x : Str} {c : Value} {p1 : Pos} {Q E : Value → Shared → Prop}, Names X x c → Q c { sx with heap := hL } → wpAny (model X.prog X.w) (X.A.mark (some (.ref a))) (eval (.Name x p1) X.env) Q E { sx with heap := hL } := fun {x c p1 Q E} hc q => by
      obtain ⟨hg, hdb, hm | ⟨hm, hv, hnn⟩⟩ := hc
      · exact ld_glob (X := X.suite a ((a, obL) :: (X.pn ++ pins))) SL hg hm q hdb
      · exact ld_blt (X := X.suite a ((a, obL) :: (X.pn ++ pins))) SL hg hm hv q hnn hdb
    have LT : PySem.W.Looks (model X.prog X.w) hL (typeOf (.ref a)) cls := fun A Q E sK kk q => wpAny_typeOf_ref (kk _ _ atL) (by rw [zcL.1]; exact q)
    have main : ∀ {hds2 : List ExceptHandler} {l2 : List (Value × Option Nat × Suit)}, HdsN X hds2 l2 → wHds X.K Wo D l2 cls d τ G → wpAny (model X.prog X.w) X.A (handleBy (.ref a) X.env hds2) (SP X pins D) X.xe { sx with heap := hL } := by
      intro hds2 l2 hk
      induction hk with
      | nil =>
        intro wn
        refine wpAny_handleBy_nil ?_
        obtain ⟨_, _, _, ob, fv, Tb, oT, tsT, at1, _, dt1, one1, _⟩ := id flL
        unfold PySem.passOn
        refine wpAny_bind (wpAny_field at1 dt1 one1 ?_)
        rw [if_neg (show ¬ ((Value.ref Tb == Value.none) = true) from by simp)]
        have away : wpAny (model X.prog X.w) X.A (setFlight (.ref a) X.env.frame) (fun _ s4 => wpAny (model X.prog X.w) X.A (throw (.ref a) : Sem Flow) (SP X pins D) X.xe s4) X.xe { sx with heap := hL } := by
          rw [hfm]
          refine HandSPX.setFlight_upZ flL fun h4 hd4 up4 => wpAny_throw (tk _ _ ?_)
          exact ⟨a, B, sJ, pins, τ, G, cls, d, rfl, J, nbg, (upw.trans upL).trans up4, .inr (.inr (by rw [hst]; exact hd4)), naw, osw, agw, wn⟩
        first
          | exact wpAny_bind (wpAny_pure (wpAny_bind away))
          | exact wpAny_bind away
      | @plain x c ts b1 more p1 p2 hds3 l3 hc hsu r ih =>
        intro wn
        obtain ⟨b, hb1, yes, no⟩ := wn
        have LM := PySem.W.exm_one (M := model X.prog X.w) (JL.kIn) LT hb1
        refine wpAny_handleBy_cons (codeAny_handlers_test ?_) (by intro q; cases q)
        refine look hc (LM.here ?_)
        cases b with
        | false =>
          show wpAny _ X.A (handleBy (.ref a) X.env hds3) _ _ _
          exact ih (no rfl)
        | true =>
          refine codeAny_handlers_suite ?_
          refine HandSPX.lands_againZ flL fun h4 fl4 up4 => ?_
          have J4 : Inv X pins τ G { sx with heap := h4 } := J.landed nbg fl4.1 ((upw.trans upL).trans up4) osw agw
          obtain ⟨ob4, fv4, at4, zc4, dt4⟩ := fl4.there
          have S4 := J4.suite at4 dt4 naw notLoc notFs
          refine wpAny_mono ((hsu a ob4 cls d (X.pn ++ pins) zc4 ⟨_, dt4⟩).run [] _ _ G _ S4 (yes rfl a naw)) (fun fl s6 hz6 => ?_) (fun _ _ z => False.elim z)
          cases fl with
          | next => obtain ⟨_, _, S6, q6⟩ := hz6; exact ⟨_, _, S6.unsuite okX, q6⟩
          | brk => obtain ⟨_, _, S6, q6⟩ := hz6; exact ⟨_, _, S6.unsuite okX, q6⟩
          | cont => obtain ⟨_, _, S6, q6⟩ := hz6; exact ⟨_, _, S6.unsuite okX, q6⟩
          | ret u => obtain ⟨_, _, _, S6, r6, q6⟩ := hz6; exact ⟨_, _, _, S6.unsuite okX, r6, q6⟩
      | @named x n i c ts b1 more p1 p2 hds3 l3 hi hln hc hsu r ih =>
        intro wn
        obtain ⟨b, hb1, yes, no⟩ := wn
        have LM := PySem.W.exm_one (M := model X.prog X.w) (JL.kIn) LT hb1
        refine wpAny_handleBy_cons (codeAny_handlers_test ?_) (by intro q; cases q)
        refine look hc (LM.here ?_)
        cases b with
        | false =>
          show wpAny _ X.A (handleBy (.ref a) X.env hds3) _ _ _
          exact ih (no rfl)
        | true =>
          refine codeAny_handlers_suite_as ?_
          refine HandSPX.lands_againZ flL fun h4 fl4 up4 => ?_
          have J4 : Inv X pins τ G { sx with heap := h4 } := J.landed nbg fl4.1 ((upw.trans upL).trans up4) osw agw
          obtain ⟨ob4, fv4, at4, zc4, dt4⟩ := fl4.there
          have S4 := J4.suite at4 dt4 naw notLoc notFs
          refine store_ok (X := X.suite a ((a, ob4) :: (X.pn ++ pins))) (v := .ref a) S4 hN hi (.inl hln) rfl (fun s5 S5 => ?_) (.inr hln)
          refine wpAny_mono ((hsu a ob4 cls d (X.pn ++ pins) zc4 ⟨_, dt4⟩).run [] s5 _ G _ S5 (yes rfl a naw)) (fun fl s6 hz6 => ?_) (fun _ _ z => False.elim z)
          have last : ∀ {τ6 : L2.St} {G6 : Hp} {Q : Shared → Prop}, Inv (X.suite a ((a, ob4) :: (X.pn ++ pins))) [] τ6 G6 s6 → (∀ s7, Inv X pins (τ6.set i none) G6 s7 → Q s7) →
              wpAny (model X.prog X.w) X.A (do bindName X.env n .none; unbindBehindTheSuite X.env n p2) (fun _ s7 => Q s7) X.xe s6 := fun {τ6 G6 Q} S6 hq => gone_ok (S6.unsuite okX) hN hi hln hq
          cases fl with
          | next => obtain ⟨_, _, S6, q6⟩ := hz6; exact last S6 fun s7 J7 => ⟨_, _, J7, q6⟩
          | brk => obtain ⟨_, _, S6, q6⟩ := hz6; exact last S6 fun s7 J7 => ⟨_, _, J7, q6⟩
          | cont => obtain ⟨_, _, S6, q6⟩ := hz6; exact last S6 fun s7 J7 => ⟨_, _, J7, q6⟩
          | ret u => obtain ⟨_, _, _, S6, r6, q6⟩ := hz6; exact last S6 fun s7 J7 => ⟨_, _, _, J7, r6, q6⟩
    exact main hhs wq
  · cases fl with
    | next => obtain ⟨_, _, Jz, q⟩ := hz; exact wpAny_execs_nil ⟨_, _, Jz.ofTry okX, q⟩
    | brk => obtain ⟨_, _, Jz, q⟩ := hz; exact ⟨_, _, Jz.ofTry okX, q⟩
    | cont => obtain ⟨_, _, Jz, q⟩ := hz; exact ⟨_, _, Jz.ofTry okX, q⟩
    | ret u => obtain ⟨_, _, _, Jz, r, q⟩ := hz; exact ⟨_, _, _, Jz.ofTry okX, r, q⟩
end
end Bs
set_option Elab.async false
set_option linter.all false
set_option maxRecDepth 100000
set_option maxHeartbeats 4000000
namespace Bs
open PySem L2 PyProof.Rows

/-! ### own exceptions -/
/-- what __init__ of an exception with one field promises -/
def spX (C : Addr) (f : Str) : Sp := fun vs H Q _ => ∃ (a : Addr) (y : V), vs = [.ref a, y] ∧ H a = some (exo a C none) ∧ ∀ dx, H dx = none → dx ≠ a → Q .non (L2.upd (L2.upd H dx (exd dx [(f, y)])) a (exo a C (some dx)))
section
variable {P : Program} {w : World} {K : PySem.W.Frag} {mg : Str → Option Value} {base : Heap}
theorem init_x {x f qual : Str} {st : Stmt} {fI C : Addr} {fd : FuncData} {p1 p2 p3 p4 : Pos} (F : Fun K "__init__" qual st fI fd) (S : FnScope ["self", x] ["self", x] (defScope st)) (hb : defBody st = [.Assign [.Attribute (.Name "self" p1) f p2] (.Name x p3) p4])
    (T : OexC K C) (hno : PySem.W.findIn K (.ref C) f = some none) (hd : (x == ("__debug__" : Str)) = false) (hcd : (x == ("__classdict__" : Str)) = false) : FnOk P w K mg base CX0 1 fI fd ["self", x] (spX C f) := by
  refine F.ok S (fun vs H Q E h => ?_) (fun cdv A outer s H vs Q E hr h => ?_)
  · obtain ⟨a, y, rfl, _⟩ := h
    rfl
  · obtain ⟨a, y, rfl, e, k⟩ := h
    have vis : ∀ z ∈ (["self", x] : List Str), Vis (defScope st) z := fun z hz => by
      rcases S.par z hz with q | q
      · exact .inl q
      · exact .inr (.inl q)
    rw [hb]
    refine ⟨_, pss_one (ps_ost (pe_var (i := 0) rfl (vis _ List.mem_cons_self) (by decide) (by decide)) (pe_var (i := 1) rfl (vis _ (.tail _ (.head _))) hd hcd) rfl), ?_⟩
    refine ⟨_, rfl, _, rfl, a, C, rfl, T, hno, .inl ⟨e, fun dx h1 h2 => ?_⟩⟩
    exact k dx h1 h2
/-- X() -/
theorem pmk_own0 {X : Cx} {C : Addr} {bmB : List Value} {B newId initId : String} {x : Str} {p pos : Pos} (F : ExcBaseFacts B newId initId bmB) (q : PySem.W.excIn X.K C bmB newId = true) (gC : X.mg x = some (.ref C)) (kC : PySem.W.keepIn X.K (.ref C) = true) (r : Raises X (.ref C)) (hg : Gl X x)
    (hdb : (x == ("__debug__" : Str)) = false) : PMk X (.Call (.Name x p) [] [] pos) (fun _ H Q => Q (.ref C) none H) := by
  intro pins s σ H Q I h
  refine wpAny_Call_Name_kw (ld_glob I hg gC (PySem.W.callWith_K0 I.kIn kC ?_) hdb)
  show wpAny _ _ (call (.ref C) []) _ _ _
  obtain ⟨bm, N, nm, qn, bs, hdct, sn, sub, ab, col, dd, k0, k1, k2, k3, k5, mN, hC, hN, hni, T⟩ := exc_obj I.kIn q
  refine wpAny_call_exc_subT F T hC hN hni (fun h' e hm => ?_) (Nat.zero_le _)
  exact mk_of I hm r h (I.hok.gone hm.new)
end
/-- a class with a field; without -/
structure XcP (P : Program) (w : World) (K : PySem.W.Frag) (mg : Str → Option Value) (base : Heap) (T : Tab) (c : Nat) : Prop where
  ex : ∃ (fI : Addr) (fd : FuncData) (x : Str), PySem.W.findIn K (.ref (T.ct c)) "__init__" = some (some (.ref fI)) ∧ PySem.W.typeIn K (.ref fI) = some (.type "function") ∧ FnOk P w K mg base CX0 1 fI fd ["self", x] (spX (T.ct c) (T.pf c)) ∧ Binds K fd ["self", x] []
  ox : OexC K (T.ct c)
  mgc : mg (T.clN c) = some (.ref (T.ct c))
  ec : T.ec c = true
  no : PySem.W.findIn K (.ref (T.ct c)) (T.pf c) = some none
  xf : XfC K (T.ct c)
structure Xc0 (K : PySem.W.Frag) (mg : Str → Option Value) (T : Tab) (c : Nat) : Prop where
  q : PySem.W.excIn K (T.ct c) [.type "ValueError", .type "Exception", .type "BaseException", .type "object"] "ValueError.__new__" = true
  kC : PySem.W.keepIn K (.ref (T.ct c)) = true
  exC : PySem.W.subIn K (.ref (T.ct c)) (.type "BaseException") = some true
  tyC : PySem.W.typeIn K (.ref (T.ct c)) = some (.type "type")
  mgc : mg (T.clN c) = some (.ref (T.ct c))
  ec : T.ec c = true
section
variable {X : Cx} {T : Tab} {Γ : Bc.Ctx} {W : WX} {k : Nat} {av : Av} {e : Expr} {es : List Expr} {ees : Bc.Exps} {p pos pos' : Pos} {vi st : List Bool} {gl : List Str}
theorem raise0_ (ok : Ok X T Γ W k av) (nm : Nm X vi st gl) {c j : Nat} (x0 : Xc0 X.K X.mg T c) (hj : gl[j]? = some (T.clN c)) : PS X (.Raise (some (.Call (.Name (T.clN c) p) [] [] pos)) none pos') (tS T X.K Γ W (.raise c .nil)) :=
  (ps_raise ok.calm ok.tk (pmk_own0 F.excBase_ValueError x0.q x0.mgc x0.kC (raises_own x0.exC x0.tyC) (nm.gl j _ hj).1 (nm.gl j _ hj).2)).imp fun D σ H ⟨env, h, kk, R, S, w, kr⟩ => by
    simp only [Bc.wpS, Bc.wpEs, Bc.raised] at w
    exact kr.ex _ _ _ _ _ _ _ w R .refl S ⟨rfl, x0.ec, rfl⟩
theorem raise1_ (ok : Ok X T Γ W k av) (nm : Nm X vi st gl) {c j : Nat} (xp : XcP X.prog X.w X.K X.mg X.base T c) (hj : gl[j]? = some (T.clN c)) (hk : 2 ≤ k) (ha : PA X (e :: es) (tA T X.K Γ W ees)) (hl : ees.len = 1)
    (he : starEach (e :: es) X.env = (false, eval e X.env) :: starEach es X.env) (hpl : (backTo pos (starEach es X.env)).any (·.1) = false) : PS X (.Raise (some (.Call (.Name (T.clN c) p) (e :: es) [] pos)) none pos') (tS T X.K Γ W (.raise c ees)) := by
  obtain ⟨fI, fd, x, iC, tI, F1, hb⟩ := xp.ex
  refine (ps_raise ok.calm ok.tk (pmk_oex xp.ox iC tI F1 (ok.room.mono hk) hb .nil pass0 (nm.gl j _ hj).1 xp.mgc ha (nm.gl j _ hj).2 he hpl)).imp fun D σ H ⟨env, h, kk, R, S, w, kr⟩ => ?_
  simp only [Bc.wpS] at w
  refine args R S w (kr.xp R S) fun vs h1 H1 ws l q R1 f1 r1 => ?_
  rw [hl] at l
  match vs, l, q, r1 with
  | [v], _, q, .cons r .nil =>
    rename_i y
    refine ⟨by show 1 ≤ 1000; decide, fun a ha => ⟨a, y, rfl, upd_same, fun dx hdx hne => ⟨rfl, dx, [(T.pf c, y)], upd_same, by rw [upd_ne hne, upd_same], ?_, ?_⟩⟩⟩
    · rw [upd_ne hne] at hdx
      exact hdx
    · rw [upd_ne hne] at hdx
      have eH : L2.upd (del (L2.upd (L2.upd (L2.upd H1 a (exo a (T.ct c) none)) dx (exd dx [(T.pf c, y)])) a (exo a (T.ct c) (some dx))) a) dx (.xd [(T.pf c, y)]) = L2.upd H1 dx (.xd [(T.pf c, y)]) := by
        funext b
        by_cases h1 : b = dx
        · rw [h1, upd_same, upd_same]
        · rw [upd_ne h1, upd_ne h1]
          by_cases h2 : b = a
          · rw [h2, del_same, ha]
          · rw [del_ne h2, upd_ne h2, upd_ne h1, upd_ne h2]
      rw [eH]
      have f2 := Fr.newU (o := .xd [(T.pf c, y)]) R1 hdx
      exact kr.ex _ _ _ _ _ _ _ q (R1.newU hdx) (f1.trans f2) ((S.fr R f1).fr R1 f2) ⟨rfl, xp.ec, dx, y, rfl, upd_same, r.fr R1 f2⟩
end

/-- what is known of the text's own exceptions: with a field, without, caught -/
structure XF (P : Program) (w : World) (K : PySem.W.Frag) (mg : Str → Option Value) (base : Heap) (T : Tab) (Γ : Bc.Ctx) (ps zs hs : List Nat) : Prop where
  p : ∀ c ∈ ps, XcP P w K mg base T c
  z : ∀ c ∈ zs, Xc0 K mg T c
  h : ∀ c ∈ hs, mg (T.clN c) = some (.ref (T.ct c)) ∧ ∀ c', T.ec c' = true → PySem.W.exmOne K (.ref (T.ct c')) (.ref (T.ct c)) = some (Γ.sub c' c)
  only : ∀ c ∈ ps, ∀ c', Γ.sub c' c = true → c' = c
/-! ### suites -/
/-- at a clause's suite: the exception, the heap, the slots -/
def tSA (T : Tab) (K : PySem.W.Frag) (Γ : Bc.Ctx) (ch : Nat) (i : Option Nat) (at' : Bc.SAt) (a : Addr) (cls : Value) (d : Option Addr) : TE := fun σ H Q' =>
  ∃ h x v, Rep T K H h ∧ XR T K H x cls d ∧ Γ.sub x.cls ch = true ∧ (∀ j, i = some j → σ[j]? = some (some (.ref a))) ∧ at'.val x.pay = some v ∧ ∀ w, RV K H w v → Q' w H
def SAtOk (X : Cx) (T : Tab) (Γ : Bc.Ctx) (ch : Nat) (i : Option Nat) (e : Expr) (at' : Bc.SAt) : Prop :=
  ∀ (a : Addr) (ob : Obj) (cls : Value) (d : Option Addr) (pn : List (Addr × Obj)), Zc cls d ob → (∃ vs, ob.data = .fields vs) → PE (X.suite a ((a, ob) :: pn)) e (tSA T X.K Γ ch i at' a cls d)
def tSu (T : Tab) (K : PySem.W.Frag) (Γ : Bc.Ctx) (ch : Nat) (i : Option Nat) (t : Nat) (s : Bc.Sui) : Suit := fun a cls d D σ H =>
  ∃ h x v, Rep T K H h ∧ XR T K H x cls d ∧ Γ.sub x.cls ch = true ∧ (∀ j, i = some j → σ[j]? = some (some (.ref a))) ∧ s.val x.pay = some v ∧ ∀ w H', Rep T K H' h → Fr H h H' h → RV K H' w v → D.nx (σ.set t (some w)) H'
section
variable {X : Cx} {T : Tab} {Γ : Bc.Ctx} {W : WX} {k : Nat} {av : Av} {e : Expr} {es : List Expr} {p p2 pos pos' : Pos} {vi st : List Bool} {gl : List Str} {ch : Nat} {i : Option Nat}
theorem sa_int {z : Int} {j : Nat} : SAtOk X T Γ ch i (.Constant (.int z) j pos) (.lit (.int z)) := fun _ _ _ _ _ _ _ => pe_int.imp fun σ H Q' ⟨h, x, v, R, xr, hs, hi, e, k⟩ => by cases e; exact k _ (.int z)
theorem sa_bl {z : Bool} {j : Nat} : SAtOk X T Γ ch i (.Constant (.bool z) j pos) (.lit (.bool z)) := fun _ _ _ _ _ _ _ => pe_bl.imp fun σ H Q' ⟨h, x, v, R, xr, hs, hi, e, k⟩ => by cases e; exact k _ (.bl z)
theorem sa_non {j : Nat} : SAtOk X T Γ ch i (.Constant .none j pos) (.lit .non) := fun _ _ _ _ _ _ _ => pe_non.imp fun σ H Q' ⟨h, x, v, R, xr, hs, hi, e, k⟩ => by cases e; exact k _ .non
theorem sa_str {L : List (Str × List Nat)} (hL : strC L = true) {n j : Nat} {x : Str} {l : List Nat} (h : L[n]? = some (x, l)) : SAtOk X T Γ ch i (.Constant (.str x) j pos) (.lit (.str l)) := by
  have q := List.all_eq_true.mp hL _ (List.mem_of_getElem? h)
  simp only [Bool.and_eq_true, decide_eq_true_eq, List.all_eq_true] at q
  obtain ⟨q1, q2⟩ := q
  subst q1
  exact fun _ _ _ _ _ _ _ => pe_str.imp fun σ H Q' ⟨h, x, v, R, xr, hs, hi, e, k⟩ => by cases e; exact k _ (.str l q2)
theorem sa_pay {n : Nat} {x : Str} (nm : Nm X vi st gl) (h1 : vi[n]? = some true) (h2 : X.N[n]? = some x) (xp : XcP X.prog X.w X.K X.mg X.base T ch) (only : ∀ c', Γ.sub c' ch = true → c' = ch)
    (hb : attributeBase (.Name x p) (T.pf ch) X.env (eval (.Name x p) X.env) = eval (.Name x p) X.env) : SAtOk X T Γ ch (some n) (.Attribute (.Name x p) (T.pf ch) pos) .pay := fun a ob cls d pn hz hf => by
  have q := nm.vis n x h1 h2
  have pv : PE (X.suite a ((a, ob) :: pn)) (.Name x p) (tVar n) := pe_var h2 q.1 q.2.1 q.2.2
  refine (pe_xf xp.xf xp.no hz hf pv hb).imp fun σ H Q' ⟨h, y, v, R, xr, hs, hi, ev, k⟩ => ?_
  have ec := only _ hs
  obtain ⟨x1, x2, x3⟩ := xr
  rw [show y.pay = some v from ev] at x3
  obtain ⟨dd, w, e1, e2, r⟩ := x3
  refine ⟨_, hi n rfl, rfl, by rw [x1, ec], dd, _, w, e1, e2, ?_, k w r⟩
  rw [ec]
  exact List.lookup_cons_self
/-- t = atom -/
theorem su_one (ok : Ok X T Γ W k av) (nm : Nm X vi st gl) {at' : Bc.SAt} {t : Nat} {x : Str} (h1 : st[t]? = some true) (h2 : X.N[t]? = some x) (he : SAtOk X T Γ ch i e at') (hs : swapsWith e (some (.Name x pos')) pos.line X.env = pure false) :
    SuitOk X (.Assign [.Name x pos'] e pos) [] (tSu T X.K Γ ch i t (.one at')) := fun a ob cls d pn hz hf => by
  have q := nm.sto t x h1 h2
  refine (pss_one (ps_set (X := X.suite a ((a, ob) :: pn)) ok.nd h2 q.1 (he a ob cls d pn hz hf) hs q.2)).imp fun D σ H ⟨h, y, v, R, xr, hs, hi, ev, k⟩ => ?_
  exact ⟨h, y, v, R, xr, hs, hi, ev, fun w r => k w H R .refl r⟩
/-- t = (atom, atom) -/
theorem su_tup2 (ok : Ok X T Γ W k av) (nm : Nm X vi st gl) {a1 a2 : Bc.SAt} {e1 e2 : Expr} {kk : Nat} {t : Nat} {x : Str} (h1 : st[t]? = some true) (h2 : X.N[t]? = some x) (he : SAtOk X T Γ ch i e1 a1) (he2 : SAtOk X T Γ ch i e2 a2)
    (hst : starEach (e1 :: [e2]) X.env = (false, eval e1 X.env) :: starEach [e2] X.env) (hst2 : starEach [e2] X.env = (false, eval e2 X.env) :: starEach [] X.env) (hs : swapsWith (.Tuple [e1, e2] kk p) (some (.Name x pos')) pos.line X.env = pure false) :
    SuitOk X (.Assign [.Name x pos'] (.Tuple [e1, e2] kk p) pos) [] (tSu T X.K Γ ch i t (.tup [a1, a2])) := fun a ob cls d pn hz hf => by
  have q := nm.sto t x h1 h2
  refine (pss_one (ps_set (X := X.suite a ((a, ob) :: pn)) ok.nd h2 q.1 (pe_tup (pa_cons (he a ob cls d pn hz hf) (pa_cons (he2 a ob cls d pn hz hf) pa_nil hst2) hst)) hs q.2)).imp fun D σ H ⟨h, y, v, R, xr, hs, hi, ev, k⟩ => ?_
  cases u1 : a1.val y.pay with
  | none => simp [Bc.Sui.val, Bc.allSat, u1] at ev
  | some v1 =>
    cases u2 : a2.val y.pay with
    | none => simp [Bc.Sui.val, Bc.allSat, u1, u2] at ev
    | some v2 =>
      simp [Bc.Sui.val, Bc.allSat, u1, u2] at ev
      subst ev
      refine ⟨h, y, v1, R, xr, hs, hi, u1, fun w1 r1 => ⟨h, y, v2, R, xr, hs, hi, u2, fun w2 r2 => ⟨by show 2 ≤ sizeLine; decide, fun tp htp => ?_⟩⟩⟩
      have f := Fr.newU (o := .tup [w1, w2]) R htp
      exact k _ _ (R.newU htp) f (.tup (.inl (.inl upd_same)) (.cons (r1.fr R f) (.cons (r2.fr R f) .nil)))
/-- t = (atom,) -/
theorem su_tup1 (ok : Ok X T Γ W k av) (nm : Nm X vi st gl) {a1 : Bc.SAt} {e1 : Expr} {kk : Nat} {t : Nat} {x : Str} (h1 : st[t]? = some true) (h2 : X.N[t]? = some x) (he : SAtOk X T Γ ch i e1 a1)
    (hst : starEach (e1 :: []) X.env = (false, eval e1 X.env) :: starEach [] X.env) (hs : swapsWith (.Tuple [e1] kk p) (some (.Name x pos')) pos.line X.env = pure false) :
    SuitOk X (.Assign [.Name x pos'] (.Tuple [e1] kk p) pos) [] (tSu T X.K Γ ch i t (.tup [a1])) := fun a ob cls d pn hz hf => by
  have q := nm.sto t x h1 h2
  refine (pss_one (ps_set (X := X.suite a ((a, ob) :: pn)) ok.nd h2 q.1 (pe_tup (pa_cons (he a ob cls d pn hz hf) pa_nil hst)) hs q.2)).imp fun D σ H ⟨h, y, v, R, xr, hs, hi, ev, k⟩ => ?_
  cases u1 : a1.val y.pay with
  | none => simp [Bc.Sui.val, Bc.allSat, u1] at ev
  | some v1 =>
    simp [Bc.Sui.val, Bc.allSat, u1] at ev
    subst ev
    refine ⟨h, y, v1, R, xr, hs, hi, u1, fun w1 r1 => ⟨by show 1 ≤ sizeLine; decide, fun tp htp => ?_⟩⟩
    have f := Fr.newU (o := .tup [w1]) R htp
    exact k _ _ (R.newU htp) f (.tup (.inl (.inl upd_same)) (.cons (r1.fr R f) .nil))

/-! ### the whole statement -/
inductive HsOk (X : Cx) (T : Tab) (Γ : Bc.Ctx) : List ExceptHandler → Bc.Hds → Prop
  | nil : HsOk X T Γ [] .nil
  | plain {c t : Nat} {s : Bc.Sui} {b1 : Stmt} {more : List Stmt} {p1 p2 : Pos} {hds : List ExceptHandler} {r : Bc.Hds} (hc : Names X (T.clN c) (.ref (T.ct c))) (hx : ∀ c', T.ec c' = true → PySem.W.exmOne X.K (.ref (T.ct c')) (.ref (T.ct c)) = some (Γ.sub c' c))
      (hsu : SuitOk X b1 more (tSu T X.K Γ c none t s)) (hr : HsOk X T Γ hds r) : HsOk X T Γ (.ExceptHandler (some (.Name (T.clN c) p1)) none (b1 :: more) p2 :: hds) (.cons c none t s r)
  | named {c t i : Nat} {n : Str} {s : Bc.Sui} {b1 : Stmt} {more : List Stmt} {p1 p2 : Pos} {hds : List ExceptHandler} {r : Bc.Hds} (hi : X.N[i]? = some n) (hln : X.env.kindOf n = some .local) (hc : Names X (T.clN c) (.ref (T.ct c)))
      (hx : ∀ c', T.ec c' = true → PySem.W.exmOne X.K (.ref (T.ct c')) (.ref (T.ct c)) = some (Γ.sub c' c))
      (hsu : SuitOk X b1 more (tSu T X.K Γ c (some i) t s)) (hr : HsOk X T Γ hds r) : HsOk X T Γ (.ExceptHandler (some (.Name (T.clN c) p1)) (some n) (b1 :: more) p2 :: hds) (.cons c (some i) t s r)
theorem hs_ok {W : WX} {hds : List ExceptHandler} {r : Bc.Hds} (h : HsOk X T Γ hds r) : ∃ l, HdsN X hds l ∧ ∀ (D : Ends) (kk : Bc.Kont) (x : Bc.Exn) (env : Bc.Env) (h : Bc.Heap) (σ : L2.St) (H : Hp) (cls : Value) (d : Option Addr),
    Bc.wpH Γ r x kk env h → Rep T X.K H h → ER X.K H σ env → XR T X.K H x cls d → KR T X.K W kk H h D → wHds X.K W D l cls d σ H := by
  induction h with
  | nil =>
    refine ⟨[], .nil, fun D kk x env h σ H cls d w R S xr kr => ?_⟩
    simp only [Bc.wpH] at w
    exact kr.ex _ _ _ _ _ _ _ w R .refl S xr
  | @plain c t s b1 more p1 p2 hds r hc hx hsu hr ih =>
    obtain ⟨l, hl, ih⟩ := ih
    refine ⟨_ :: l, .plain hc hsu hl, fun D kk x env h σ H cls d w R S xr kr => ?_⟩
    simp only [Bc.wpH] at w
    refine ⟨Γ.sub x.cls c, by rw [xr.1]; exact hx _ xr.2.1, fun hb a ha => ?_, fun hb => ?_⟩
    · rw [hb] at w
      obtain ⟨_, w⟩ := w
      obtain ⟨v, ev, w⟩ := Bc.onSome_of w
      refine ⟨h, x, v, R, xr, hb, fun j z => (nomatch z), ev, fun u H' R' f r => ?_⟩
      exact kr.nx _ _ _ _ w R' f ((S.fr R f).set r t)
    · rw [hb] at w
      exact ih D kk x env h σ H cls d w R S xr kr
  | @named c t i n s b1 more p1 p2 hds r hi hln hc hx hsu hr ih =>
    obtain ⟨l, hl, ih⟩ := ih
    refine ⟨_ :: l, .named hi hln hc hsu hl, fun D kk x env h σ H cls d w R S xr kr => ?_⟩
    simp only [Bc.wpH] at w
    refine ⟨Γ.sub x.cls c, by rw [xr.1]; exact hx _ xr.2.1, fun hb a ha => ?_, fun hb => ?_⟩
    · rw [hb] at w
      obtain ⟨lt, w⟩ := w
      have hil : i < σ.length := by rw [S.len]; exact lt i rfl
      obtain ⟨v, ev, w⟩ := Bc.onSome_of w
      have er : ∀ {H' : Hp} {u : V}, Rep T X.K H' h → Fr H h H' h → RV X.K H' u v → ER X.K H' (((σ.set i (some (.ref a))).set t (some u)).set i none) (((env.set i none).set t (some v)).set i none) := fun {H' u} R' f r => by
        have S1 : ER X.K H' (σ.set i (some (.ref a))) (env.set i none) := by
          have S0 := S.fr R f
          refine ⟨by rw [List.length_set, List.length_set]; exact S0.len, fun j y q => ?_⟩
          by_cases hj : i = j
          · subst hj
            by_cases hl : i < env.length
            · rw [List.getElem?_set_self hl] at q; cases q
            · rw [List.getElem?_eq_none (by rw [List.length_set]; omega)] at q; cases q
          · rw [List.getElem?_set_ne hj] at q
            obtain ⟨b, b1, b2⟩ := S0.at_ j y q
            exact ⟨b, by rw [List.getElem?_set_ne hj]; exact b1, b2⟩
        exact (S1.set r t).unset i
      refine ⟨h, x, v, R, xr, hb, fun j z => by cases z; exact List.getElem?_set_self hil, ev, fun u H' R' f r => ?_⟩
      exact kr.nx _ _ _ _ w R' f (er R' f r)
    · rw [hb] at w
      exact ih D kk x env h σ H cls d w R S xr kr
theorem hd_plain {j c t : Nat} {s : Bc.Sui} {b1 : Stmt} {more : List Stmt} {p1 p2 : Pos} {hds : List ExceptHandler} {r : Bc.Hds} {ps zs hs : List Nat} (nm : Nm X vi st gl) (xf : XF X.prog X.w X.K X.mg X.base T Γ ps zs hs) (hj : gl[j]? = some (T.clN c)) (hh : hs.contains c = true)
    (hsu : SuitOk X b1 more (tSu T X.K Γ c none t s)) (hr : HsOk X T Γ hds r) : HsOk X T Γ (.ExceptHandler (some (.Name (T.clN c) p1)) none (b1 :: more) p2 :: hds) (.cons c none t s r) :=
  .plain ⟨(nm.gl j _ hj).1, (nm.gl j _ hj).2, .inl (xf.h c (mB hh)).1⟩ (xf.h c (mB hh)).2 hsu hr
theorem hd_named {j c t i : Nat} {n : Str} {s : Bc.Sui} {b1 : Stmt} {more : List Stmt} {p1 p2 : Pos} {hds : List ExceptHandler} {r : Bc.Hds} {ps zs hs : List Nat} (nm : Nm X vi st gl) (xf : XF X.prog X.w X.K X.mg X.base T Γ ps zs hs) (hj : gl[j]? = some (T.clN c)) (hh : hs.contains c = true)
    (hi : X.N[i]? = some n) (hln : X.env.kindOf n = some .local) (hsu : SuitOk X b1 more (tSu T X.K Γ c (some i) t s)) (hr : HsOk X T Γ hds r) : HsOk X T Γ (.ExceptHandler (some (.Name (T.clN c) p1)) (some n) (b1 :: more) p2 :: hds) (.cons c (some i) t s r) :=
  .named hi hln ⟨(nm.gl j _ hj).1, (nm.gl j _ hj).2, .inl (xf.h c (mB hh)).1⟩ (xf.h c (mB hh)).2 hsu hr
theorem try_ (ok : Ok X T Γ W k av) (nm : Nm X vi st gl) {body : List Stmt} {b : Bc.Stms} {g1 : ExceptHandler} {gs : List ExceptHandler} {r : Bc.Hds} (hst : X.stack = X.env :: X.outer) (hfm : X.env.frame = some X.env.locals)
    (hb : ∀ (W' : WX) (pn : List (Addr × Obj)) (xe : Value → Shared → Prop), Ok (X.tr pn xe) T Γ W' k av → Nm (X.tr pn xe) vi st gl → PSs (X.tr pn xe) body (tB T X.K Γ W' b)) (hh : HsOk X T Γ (g1 :: gs) r) :
    PS X (.Try body (g1 :: gs) [] [] pos) (tS T X.K Γ W (.try_ b r)) := by
  obtain ⟨l, hl, key⟩ := hs_ok (W := W) hh
  refine (ps_tryN (tb := fun W' => tB T X.K Γ W' b) hst hfm ok.nd ok.tk (fun W' pn xe tk pass => hb W' pn xe
    { room := ok.room, un := ok.un, nd := ok.nd, calm := ok.calm, tk := tk, pass := pass, blt := ok.blt, glob := ok.glob, fn := ok.fn, new := ok.new, meth := ok.meth, cls := ok.cls, attr := ok.attr, dis := ok.dis, inj := ok.inj, kOT := ok.kOT, kTO := ok.kTO, kOO := ok.kOO }
    ⟨nm.vis, nm.sto, nm.gl⟩) hl).imp fun D σ H ⟨env, h, kk, R, S, w, kr⟩ => ?_
  simp only [Bc.wpS] at w
  exact ⟨env, h, _, R, S, w, ⟨kr.nx, kr.rt, kr.bk, fun x env' h' σ' H' cls d q R' f S' xr => key D kk x env' h' σ' H' cls d q R' S' xr (kr.step f)⟩⟩
end
end Bs
set_option Elab.async false
set_option linter.all false
set_option maxRecDepth 100000
set_option maxHeartbeats 4000000
namespace Bs
open PySem L2 PyProof.Rows

/-! ### the law's first statement: draws = begin(script), and what stands behind it -/
def spBeg (K : PySem.W.Frag) : Sp := fun vs H Q _ => ∃ (a : Addr) (ns : List Int), vs = [.ref a] ∧ SqL K H a (ns.map V.int) ∧ ∀ p q, H p = none → L2.upd H p (.lst (ns.map V.int)) q = none → Q (.ref q) (L2.upd (L2.upd H p (.lst (ns.map V.int))) q (.lst [.ref p, .int 0, .int 0, .int 7]))
def spLawV (K : PySem.W.Frag) : Sp := fun vs H Q _ => ∃ (a : Addr) (ns : List Int), vs = [.ref a] ∧ SqL K H a (ns.map V.int) ∧ ∀ H', Q (.bl true) H'
section
variable {P : Program} {w : World} {K : PySem.W.Frag} {mg : Str → Option Value} {base : Heap} {qual x : Str} {st : Stmt} {f : Addr} {fd : FuncData}
theorem beg_ok {x1 : Str} {p0 p1 p2 p3 p4 p5 p6 p7 : Pos} {j1 j2 j3 : Nat} (F : Fun K x qual st f fd) (S : FnScope [x1] [x1] (defScope st)) (hb : defBody st = [.Return (some (.List [.Call (.Name "list" p1) [.Name x1 p2] [] p3, .Constant (.int 0) j1 p4, .Constant (.int 0) j2 p5, .Constant (.int 7) j3 p6] p7)) p0])
    (hg : (defScope st).names.lookup ("list" : Str) = some .globalImplicit) (hm : mg "list" = none) (hd : (x1 == ("__debug__" : Str)) = false) (hcd : (x1 == ("__classdict__" : Str)) = false) : FnOk P w K mg base (L2.CX P w) 1 f fd [x1] (spBeg K) := by
  refine F.okX S (fun vs H Q E h => ?_) (fun cdv A outer s H vs Q E hr h => ?_)
  · obtain ⟨a, ns, rfl, _⟩ := h
    rfl
  · obtain ⟨a, ns, rfl, hS, k⟩ := h
    have vis : Vis (defScope st) x1 := by
      rcases S.par x1 List.mem_cons_self with q | q
      · exact .inl q
      · exact .inr (.inl q)
    rw [hb]
    refine ⟨_, pss_one (ps_ret (pe_lst (pa_cons (pe_callTy call_list_of hg hm (by rfl) (pa_cons (pe_var (i := 0) rfl vis hd hcd) pa_nil rfl)) (pa_cons pe_int (pa_cons pe_int (pa_cons pe_int pa_nil rfl) rfl) rfl) rfl))), ?_⟩
    refine ⟨_, rfl, a, _, rfl, .inl hS, fun p hp => ⟨by show 4 ≤ sizeLine; decide, fun q hq => ?_⟩⟩
    exact k p q hp hq
/-- the heap that the small language sees behind it -/
def begH (p q : Addr) (ns : List Int) : Bc.Heap := Bc.upd (Bc.upd (fun _ => none) p (.lst (ns.map Bc.Val.int))) q (.lst [.ref p, .int 0, .int 0, .int 7])
theorem law_ok {T : Tab} {Γ : Bc.Ctx} {k : Nat} {av : Av} {N : List Str} {x1 x2 xb : Str} {p1 p2 p3 p4 p5 : Pos} {rest : List Stmt} {b : Bc.Stms} {fb : Addr} {fdb : FuncData} (F : Fun K x qual st f fd) (S : FnScope N [x1] (defScope st)) (fx : Fx P w K mg base T Γ k av)
    (hb : defBody st = .Assign [.Name x2 p1] (.Call (.Name xb p2) [.Name x1 p3] [] p4) p5 :: rest) (h2 : N[1]? = some x2) (hl2 : (defScope st).names.lookup x2 = some .local ∨ (defScope st).names.lookup x2 = some .cell) (h0 : N[0]? = some x1)
    (hgb : (defScope st).names.lookup xb = some .globalImplicit) (hdb : (xb == ("__debug__" : Str)) = false) (hmb : mg xb = some (.ref fb)) (kpb : PySem.W.keepIn K (.ref fb) = true) (bb : Binds K fdb [x1] []) (hk : 1 ≤ k)
    (G : FnOk P w K mg base (L2.CX P w) 1 fb fdb [x1] (spBeg K)) (hd : (x1 == ("__debug__" : Str)) = false) (hcd : (x1 == ("__classdict__" : Str)) = false)
    (hr : ∀ (cdv : Value) (A : Around) (outer : List Env) (s : Shared) (H : Hp) (E : XK), Ok (cxOf (L2.CX P w) P w K mg base N qual (defScope st) f cdv A outer s H E) T Γ (WXE E) k av →
      PSs (cxOf (L2.CX P w) P w K mg base N qual (defScope st) f cdv A outer s H E) rest (tB T K Γ (WXE E) b))
    (wr : ∀ (p q : Addr) (ns : List Int) (Q : Bc.Post) (E : Bc.XPost), p ≠ q → (∀ h', Q (.bool true) h') → Bc.wpB Γ b { nx := fun _ h => Q .non h, rt := Q, bk := fun _ _ => False, ex := fun x _ h => E x h } (none :: some (.ref q) :: List.replicate (N.length - 2) none) (begH p q ns)) :
    FnOk P w K mg base (L2.CX P w) (k + 1) f fd [x1] (spLawV K) := by
  have hN2 : 2 ≤ N.length := (List.getElem?_eq_some_iff.mp h2).1
  refine F.okX S (fun vs H Q E h => ?_) (fun cdv A outer s H vs Q E hr' h => ?_)
  · obtain ⟨a, ns, rfl, _⟩ := h
    rfl
  · obtain ⟨a, ns, rfl, hS, kq⟩ := h
    have vis : Vis (defScope st) x1 := by
      rcases S.par x1 List.mem_cons_self with q | q
      · exact .inl q
      · exact .inr (.inl q)
    have ok := fx.ok (E := E) (H := H) (s := s) (outer := outer) S hr'
    rw [hb]
    refine ⟨_, pss_cons (ps_set (i := 1) S.nd h2 hl2 (pe_callS (E := fun _ _ _ _ => False) G (hr'.mono hk) hgb hmb kpb bb (fun σ pins H s e s' I c => ?_) (pa_cons (pe_var (i := 0) h0 vis hd hcd) pa_nil rfl) hdb rfl rfl) rfl (.inl rfl)) (hr cdv A outer s H E ok), ?_⟩
    · obtain ⟨_, _, _, _, _, _, _, _, _, _, _, _, z⟩ := c
      exact z.elim
    · refine ⟨.ref a, rfl, a, ns, rfl, hS, fun p q hp hq => ?_⟩
      have pq : p ≠ q := fun e => by rw [← e, upd_same] at hq; cases hq
      have R0 : Rep T K H (fun _ => none) := fun _ _ e => nomatch e
      have f0 := Fr.new (o := .lst (ns.map V.int)) (o' := .lst (ns.map Bc.Val.int)) R0 hp
      have R1 : Rep T K (L2.upd H p (.lst (ns.map V.int))) (Bc.upd (fun _ => none) p (.lst (ns.map Bc.Val.int))) := R0.new hp (.pl (.lst (RVs.map (fun i => .int i) ns)))
      have R2' : Rep T K (L2.upd (L2.upd H p (.lst (ns.map V.int))) q (.lst [.ref p, .int 0, .int 0, .int 7])) (begH p q ns) := R1.new hq (.pl (.lst (.cons (.ref p) (.cons (.int 0) (.cons (.int 0) (.cons (.int 7) .nil))))))
      refine ⟨_, _, _, R2', ?_, wr p q ns (fun v _ => v = .bool true) (fun _ _ => False) pq (fun _ => rfl), ⟨fun env' h' σ' H' q _ _ _ => (nomatch (show Bc.Val.non = .bool true from q)), fun v h' H' w' q _ _ r' => ?_, fun env' h' σ' H' q _ _ _ => (q : False).elim, fun y env' h' σ' H' cls d q _ _ _ _ => (q : False).elim⟩⟩
      · refine ⟨?_, fun i v e => ?_⟩
        · rw [List.length_set]
          unfold L2.start
          simp only [List.length_append, List.length_map, List.length_replicate, List.length_cons, List.length_nil]
          omega
        · match i, e with
          | 0, e => cases e
          | 1, e =>
            cases e
            refine ⟨.ref q, ?_, .ref q⟩
            rw [List.getElem?_set_self]
            unfold L2.start
            simp only [List.length_append, List.length_map, List.length_replicate, List.length_cons, List.length_nil]
            omega
          | i + 2, e =>
            have e2 : (List.replicate (N.length - 2) (none : Option Bc.Val))[i]? = some (some v) := e
            rw [List.getElem?_replicate] at e2
            split at e2 <;> cases e2
      · subst q
        cases r'
        exact kq _
end
end Bs
set_option Elab.async false
set_option linter.all false
set_option maxRecDepth 100000
set_option maxHeartbeats 4000000
namespace Bk
open Bc
/-- is_of -/
def b_is_of : Bc.Stms := (.cons (.ret (.and_ (.isin (.var 0) .str) (.bi .all (.cons (.comp [2] (.str (.var 0)) .yes (.cmp .in_ (.var 2) (.var 1))) .nil))))
  .nil)

/-- is_name -/
def b_is_name : Bc.Stms := (.cons (.ret (.and_ (.call 1 (.cons (.var 0) (.cons (.glob 2) .nil))) (.cmp2 .le .le (.lit (.int 1)) (.bi .len (.cons (.var 0) .nil)) (.lit (.int 8)))))
  .nil)

/-- are_codes -/
def b_are_codes : Bc.Stms := (.cons (.ite (.or_ (.not_ (.tru (.isin (.var 0) .dct))) (.not_ (.cmp2 .le .le (.lit (.int 1)) (.bi .len (.cons (.var 0) .nil)) (.lit (.int 6))))) (.cons (.ret (.lit (.bool false)))
  .nil) .nil)
  (.cons (.for_ [1] (.dct (.var 0)) (.cons (.set 2 (.sub (.var 0) (.var 1)))
  (.cons (.ite (.or_ (.not_ (.tru (.call 1 (.cons (.var 1) (.cons (.glob 1) .nil))))) (.or_ (.cmp .ne (.bi .len (.cons (.var 1) .nil)) (.lit (.int 1))) (.or_ (.not_ (.tru (.call 1 (.cons (.var 2) (.cons (.glob 0) .nil))))) (.not_ (.cmp2 .le .le (.lit (.int 1)) (.bi .len (.cons (.var 2) .nil)) (.lit (.int 3))))))) (.cons (.ret (.lit (.bool false)))
  .nil) .nil)
  .nil)))
  (.cons (.set 3 (.comp [1] (.dct (.var 0)) .yes (.sub (.var 0) (.var 1))))
  (.cons (.for_ [4, 2] (.enumL (.var 3)) (.cons (.for_ [5] (.lst (.bin .add (.slT (.var 3) (.var 4)) (.slF (.var 3) (.bin .add (.var 4) (.lit (.int 1)))))) (.cons (.ite (.tru (.bm (.var 5) .startswith (.cons (.var 2) .nil))) (.cons (.ret (.lit (.bool false)))
  .nil) .nil)
  .nil))
  .nil))
  (.cons (.ret (.lit (.bool true)))
  .nil)))))

/-- Encoding.__init__ -/
def b_Encoding_init : Bc.Stms := (.cons (.ite (.not_ (.tru (.call 2 (.cons (.var 1) .nil)))) (.cons (.raise 1 .nil)
  .nil) .nil)
  (.cons (.ite (.not_ (.tru (.call 3 (.cons (.var 2) .nil)))) (.cons (.raise 2 .nil)
  .nil) .nil)
  (.cons (.aset (.var 0) 0 (.var 1))
  (.cons (.aset (.var 0) 1 (.dcomp [3] (.str (.glob 1)) (.cmp .in_ (.var 3) (.var 2)) (.var 3) (.sub (.var 2) (.var 3))))
  (.cons (.aset (.var 0) 2 (.dcomp [3] (.dct (.var 2)) .yes (.sub (.var 2) (.var 3)) (.var 3)))
  .nil)))))

/-- Encoding.codes -/
def b_Encoding_codes : Bc.Stms := (.cons (.ret (.bi .dict (.cons (.attr (.var 0) 1) .nil)))
  .nil)

/-- Encoding.__eq__ -/
def b_Encoding_eq : Bc.Stms := (.cons (.ret (.and_ (.isin (.var 1) (.own 3)) (.and_ (.cmp .eq (.attr (.var 0) 0) (.attr (.var 1) 0)) (.cmp .eq (.attr (.var 0) 1) (.attr (.var 1) 1)))))
  .nil)

/-- Encoding.letter_at -/
def b_Encoding_letter_at : Bc.Stms := (.cons (.for_ [2] (.rng2 (.lit (.int 1)) (.lit (.int 4))) (.cons (.ite (.cmp .in_ (.slT (.var 1) (.var 2)) (.attr (.var 0) 2)) (.cons (.ret (.sub (.attr (.var 0) 2) (.slT (.var 1) (.var 2))))
  .nil) .nil)
  .nil))
  (.cons (.ret (.lit .non))
  .nil))

/-- Encoding.is_begun -/
def b_Encoding_is_begun : Bc.Stms := (.cons (.ret (.bi .any (.cons (.comp [2] (.dct (.attr (.var 0) 2)) .yes (.bm (.var 2) .startswith (.cons (.var 1) .nil))) .nil)))
  .nil)

/-- Encoding.parsed -/
def b_Encoding_parsed : Bc.Stms := (.cons (.set 3 (.lst .nil))
  (.cons (.while_ (.cmp .ne (.var 1) (.lit (.str []))) (.cons (.set 4 (.meth (.var 0) 3 (.cons (.var 1) .nil)))
  (.cons (.ite (.cmp .isnot (.var 4) (.lit .non)) (.cons (.exp (.bm (.var 3) .append (.cons (.var 4) .nil)))
  (.cons (.set 1 (.slF (.var 1) (.bi .len (.cons (.sub (.attr (.var 0) 1) (.var 4)) .nil))))
  .nil)) (.cons (.ite (.and_ (.not_ (.tru (.var 2))) (.tru (.meth (.var 0) 4 (.cons (.var 1) .nil)))) (.cons .brk
  .nil) (.cons (.exp (.bm (.var 3) .append (.cons (.lit .non) .nil)))
  (.cons (.set 1 (.slF (.var 1) (.lit (.int 1))))
  .nil)))
  .nil))
  .nil)))
  (.cons (.ret (.tup (.cons (.var 3) (.cons (.var 1) .nil))))
  .nil)))

/-- Encoding.as_text -/
def b_Encoding_as_text : Bc.Stms := (.cons (.set 3 (.lst .nil))
  (.cons (.set 4 (.lit (.int 0)))
  (.cons (.for_ [5] (.lst (.sub (.meth (.var 0) 5 (.cons (.var 1) (.cons (.lit (.bool true)) .nil))) (.lit (.int 0)))) (.cons (.ite (.cmp .is_ (.var 5) (.lit .non)) (.cons (.ite (.cmp .eq (.var 2) (.lit (.str [115, 116, 114, 105, 99, 116]))) (.cons (.raise 4 (.cons (.var 4) .nil))
  .nil) .nil)
  (.cons (.aug 4 .add (.lit (.int 1)))
  (.cons (.ite (.cmp .eq (.var 2) (.lit (.str [114, 101, 112, 108, 97, 99, 101]))) (.cons (.exp (.bm (.var 3) .append (.cons (.lit (.str [63])) .nil)))
  .nil) .nil)
  .nil))) (.cons (.exp (.bm (.var 3) .append (.cons (.var 5) .nil)))
  (.cons (.aug 4 .add (.bi .len (.cons (.sub (.attr (.var 0) 1) (.var 5)) .nil)))
  .nil)))
  .nil))
  (.cons (.ret (.bm (.lit (.str [])) .join (.cons (.var 3) .nil)))
  .nil))))

/-- Encoding.code_of -/
def b_Encoding_code_of : Bc.Stms := (.cons (.ite (.cmp .in_ (.var 1) (.attr (.var 0) 1)) (.cons (.ret (.sub (.attr (.var 0) 1) (.var 1)))
  .nil) .nil)
  (.cons (.ite (.cmp .eq (.var 2) (.lit (.str [105, 103, 110, 111, 114, 101]))) (.cons (.ret (.lit (.str [])))
  .nil) .nil)
  (.cons (.ite (.cmp .eq (.var 2) (.lit (.str [114, 101, 112, 108, 97, 99, 101]))) (.cons (.ret (.bm (.attr (.var 0) 1) .get (.cons (.lit (.str [63])) .nil)))
  .nil) .nil)
  (.cons (.ret (.lit .non))
  .nil))))

/-- Encoding.as_bytes -/
def b_Encoding_as_bytes : Bc.Stms := (.cons (.set 3 (.lst .nil))
  (.cons (.for_ [4, 5] (.enumS (.var 1)) (.cons (.set 6 (.meth (.var 0) 7 (.cons (.var 5) (.cons (.var 2) .nil))))
  (.cons (.ite (.cmp .is_ (.var 6) (.lit .non)) (.cons (.raise 5 (.cons (.var 4) .nil))
  .nil) .nil)
  (.cons (.exp (.bm (.var 3) .append (.cons (.var 6) .nil)))
  .nil))))
  (.cons (.ret (.bm (.lit (.str [])) .join (.cons (.var 3) .nil)))
  .nil)))

/-- _law_begin -/
def b__law_begin : Bc.Stms := (.cons (.ret (.lst (.cons (.bi .list (.cons (.var 0) .nil)) (.cons (.lit (.int 0)) (.cons (.lit (.int 0)) (.cons (.lit (.int 7)) .nil))))))
  .nil)

/-- _law_draw -/
def b__law_draw : Bc.Stms := (.cons (.ite (.cmp .eq (.sub (.var 0) (.lit (.int 2))) (.lit (.int 0))) (.cons (.ite (.cmp .lt (.sub (.var 0) (.lit (.int 1))) (.bi .len (.cons (.sub (.var 0) (.lit (.int 0))) .nil))) (.cons (.set 2 (.sub (.sub (.var 0) (.lit (.int 0))) (.sub (.var 0) (.lit (.int 1)))))
  (.cons (.sset (.var 0) (.lit (.int 1)) (.bin .add (.sub (.var 0) (.lit (.int 1))) (.lit (.int 1))))
  (.cons (.ite (.cmp .ge (.var 2) (.bin .pow (.lit (.int 10)) (.lit (.int 18)))) (.cons (.sset (.var 0) (.lit (.int 2)) (.var 2))
  .nil) (.cons (.sset (.var 0) (.lit (.int 3)) (.bin .mod (.bi .int (.cons (.bin .add (.bin .add (.bin .mul (.sub (.var 0) (.lit (.int 3))) (.lit (.int 48271))) (.bin .mul (.var 2) (.lit (.int 69621)))) (.lit (.int 11))) .nil)) (.lit (.int 2147483647))))
  .nil))
  .nil))) (.cons (.sset (.var 0) (.lit (.int 3)) (.bin .mod (.bi .int (.cons (.bin .add (.bin .mul (.sub (.var 0) (.lit (.int 3))) (.lit (.int 48271))) (.lit (.int 7))) .nil)) (.lit (.int 2147483647))))
  .nil))
  .nil) .nil)
  (.cons (.ite (.cmp .gt (.sub (.var 0) (.lit (.int 2))) (.lit (.int 0))) (.cons (.set 3 (.bin .mod (.bi .int (.cons (.sub (.var 0) (.lit (.int 2))) .nil)) (.var 1)))
  (.cons (.sset (.var 0) (.lit (.int 2)) (.bin .fdiv (.sub (.var 0) (.lit (.int 2))) (.var 1)))
  (.cons (.ret (.var 3))
  .nil))) .nil)
  (.cons (.ret (.bin .mod (.bin .mod (.bi .int (.cons (.bin .mul (.sub (.var 0) (.lit (.int 3))) (.lit (.int 16807))) .nil)) (.lit (.int 2147483629))) (.var 1)))
  .nil)))

/-- _law_codes -/
def b__law_codes : Bc.Stms := (.cons (.set 1 (.lst (.cons (.lit (.str [48])) (.cons (.lit (.str [49])) (.cons (.lit (.str [50])) (.cons (.lit (.str [51])) .nil))))))
  (.cons (.for_ [2] (.rng1 (.call 5 (.cons (.var 0) (.cons (.lit (.int 4)) .nil)))) (.cons (.set 3 (.call 5 (.cons (.var 0) (.cons (.bi .len (.cons (.var 1) .nil)) .nil))))
  (.cons (.ite (.cmp .lt (.bi .len (.cons (.sub (.var 1) (.var 3)) .nil)) (.lit (.int 3))) (.cons (.set 4 (.bm (.var 1) .popAt (.cons (.var 3) .nil)))
  (.cons (.set 1 (.bin .add (.var 1) (.slT (.lst (.cons (.bin .add (.var 4) (.lit (.str [48]))) (.cons (.bin .add (.var 4) (.lit (.str [49]))) (.cons (.bin .add (.var 4) (.lit (.str [50]))) .nil)))) (.bin .add (.lit (.int 2)) (.call 5 (.cons (.var 0) (.cons (.lit (.int 2)) .nil)))))))
  .nil)) .nil)
  .nil)))
  (.cons (.set 5 (.lst (.cons (.lit (.str [97])) (.cons (.lit (.str [98])) (.cons (.lit (.str [99])) (.cons (.lit (.str [100])) (.cons (.lit (.str [101])) (.cons (.lit (.str [63])) .nil))))))))
  (.cons (.set 6 (.dct .nil))
  (.cons (.for_ [2] (.rng1 (.bin .add (.lit (.int 1)) (.call 5 (.cons (.var 0) (.cons (.bi .min2 (.cons (.lit (.int 6)) (.cons (.bi .len (.cons (.var 1) .nil)) .nil))) .nil))))) (.cons (.set 7 (.bm (.var 5) .popAt (.cons (.call 5 (.cons (.var 0) (.cons (.bi .len (.cons (.var 5) .nil)) .nil))) .nil)))
  (.cons (.sset (.var 6) (.var 7) (.bm (.var 1) .popAt (.cons (.call 5 (.cons (.var 0) (.cons (.bi .len (.cons (.var 1) .nil)) .nil))) .nil)))
  .nil)))
  (.cons (.ret (.var 6))
  .nil))))))

/-- _law_tables -/
def b__law_tables : Bc.Stms := (.cons (.ret (.lst (.cons (.lst (.cons (.lit (.str [111, 110, 101])) (.cons (.call 6 (.cons (.var 0) .nil)) .nil))) (.cons (.lst (.cons (.lit (.str [116, 119, 111])) (.cons (.call 6 (.cons (.var 0) .nil)) .nil))) .nil))))
  .nil)

/-- _law_like -/
def b__law_like : Bc.Stms := (.cons (.ite (.cmp .is_ (.var 1) (.lit .non)) (.cons (.ret (.cmp .is_ (.var 0) (.lit .non)))
  .nil) .nil)
  (.cons (.ite (.tru (.isin (.var 1) .bool)) (.cons (.ret (.and_ (.isin (.var 0) .bool) (.cmp .eq (.var 0) (.var 1))))
  .nil) .nil)
  (.cons (.ite (.tru (.isin (.var 1) .int)) (.cons (.ret (.and_ (.isin (.var 0) .int) (.and_ (.not_ (.isin (.var 0) .bool)) (.cmp .eq (.var 0) (.var 1)))))
  .nil) .nil)
  (.cons (.ite (.tru (.isin (.var 1) .str)) (.cons (.ret (.and_ (.isin (.var 0) .str) (.cmp .eq (.var 0) (.var 1))))
  .nil) .nil)
  (.cons (.ite (.tru (.isin (.var 1) .tup)) (.cons (.ite (.or_ (.not_ (.tru (.isin (.var 0) .tup))) (.cmp .ne (.bi .len (.cons (.var 0) .nil)) (.bi .len (.cons (.var 1) .nil)))) (.cons (.ret (.lit (.bool false)))
  .nil) .nil)
  .nil) (.cons (.ite (.or_ (.not_ (.tru (.isin (.var 0) .lst))) (.cmp .ne (.bi .len (.cons (.var 0) .nil)) (.bi .len (.cons (.var 1) .nil)))) (.cons (.ret (.lit (.bool false)))
  .nil) .nil)
  .nil))
  (.cons (.for_ [2] (.rng1 (.bi .len (.cons (.var 1) .nil))) (.cons (.ite (.not_ (.tru (.call 8 (.cons (.sub (.var 0) (.var 2)) (.cons (.sub (.var 1) (.var 2)) .nil))))) (.cons (.ret (.lit (.bool false)))
  .nil) .nil)
  .nil))
  (.cons (.ret (.lit (.bool true)))
  .nil)))))))

/-- _law_text -/
def b__law_text : Bc.Stms := (.cons (.set 3 (.lit (.str [])))
  (.cons (.set 4 (.lit (.int 0)))
  (.cons (.while_ (.cmp .lt (.var 4) (.bi .len (.cons (.var 1) .nil))) (.cons (.set 5 (.lit (.str [])))
  (.cons (.for_ [6] (.dct (.var 0)) (.cons (.ite (.cmp .eq (.slB (.var 1) (.var 4) (.bin .add (.var 4) (.bi .len (.cons (.sub (.var 0) (.var 6)) .nil)))) (.sub (.var 0) (.var 6))) (.cons (.set 5 (.var 6))
  .nil) .nil)
  .nil))
  (.cons (.ite (.cmp .ne (.var 5) (.lit (.str []))) (.cons (.set 3 (.bin .add (.var 3) (.var 5)))
  (.cons (.set 4 (.bin .add (.var 4) (.bi .len (.cons (.sub (.var 0) (.var 5)) .nil))))
  .nil)) (.cons (.ite (.cmp .eq (.var 2) (.lit (.str [115, 116, 114, 105, 99, 116]))) (.cons (.ret (.tup (.cons (.lit (.str [119, 114, 111, 110, 103])) (.cons (.var 4) .nil))))
  .nil) .nil)
  (.cons (.ite (.cmp .eq (.var 2) (.lit (.str [114, 101, 112, 108, 97, 99, 101]))) (.cons (.set 3 (.bin .add (.var 3) (.lit (.str [63]))))
  .nil) .nil)
  (.cons (.set 4 (.bin .add (.var 4) (.lit (.int 1))))
  .nil))))
  .nil))))
  (.cons (.ret (.var 3))
  .nil))))

/-- _law_bytes -/
def b__law_bytes : Bc.Stms := (.cons (.set 3 (.lit (.str [])))
  (.cons (.for_ [4] (.rng1 (.bi .len (.cons (.var 1) .nil))) (.cons (.ite (.cmp .in_ (.sub (.var 1) (.var 4)) (.var 0)) (.cons (.set 3 (.bin .add (.var 3) (.sub (.var 0) (.sub (.var 1) (.var 4)))))
  .nil) (.cons (.ite (.and_ (.cmp .eq (.var 2) (.lit (.str [114, 101, 112, 108, 97, 99, 101]))) (.cmp .in_ (.lit (.str [63])) (.var 0))) (.cons (.set 3 (.bin .add (.var 3) (.sub (.var 0) (.lit (.str [63])))))
  .nil) (.cons (.ite (.cmp .ne (.var 2) (.lit (.str [105, 103, 110, 111, 114, 101]))) (.cons (.ret (.tup (.cons (.lit (.str [119, 114, 111, 110, 103])) (.cons (.var 4) .nil))))
  .nil) .nil)
  .nil))
  .nil))
  .nil))
  (.cons (.ret (.var 3))
  .nil)))

/-- _law_told -/
def b__law_told : Bc.Stms := (.cons (.set 4 (.lit .non))
  (.cons (.try_ (.cons (.ite (.cmp .eq (.var 3) (.lit (.int 0))) (.cons (.set 4 (.meth (.var 0) 6 (.cons (.var 1) (.cons (.var 2) .nil))))
  .nil) (.cons (.set 4 (.meth (.var 0) 8 (.cons (.var 1) (.cons (.var 2) .nil))))
  .nil))
  .nil) (.cons 4 (some 5) 4 (.tup [(.lit (.str [119, 114, 111, 110, 103])), .pay]) (.cons 5 (some 5) 4 (.tup [(.lit (.str [119, 114, 111, 110, 103])), .pay]) .nil)))
  (.cons (.ret (.var 4))
  .nil)))

/-- law, behind its first statement -/
def br_law : Bc.Stms := (.cons (.set 2 (.call 6 (.cons (.var 1) .nil)))
  (.cons (.set 3 (.mk 3 (.cons (.lit (.str [111, 110, 101])) (.cons (.var 2) .nil))))
  (.cons (.for_ [4] (.lst (.lst (.cons (.lit (.str [115, 116, 114, 105, 99, 116])) (.cons (.lit (.str [114, 101, 112, 108, 97, 99, 101])) (.cons (.lit (.str [105, 103, 110, 111, 114, 101])) .nil))))) (.cons (.set 5 (.bm (.lit (.str [])) .join (.cons (.comp [8] (.rng1 (.call 5 (.cons (.var 1) (.cons (.lit (.int 11)) .nil)))) .yes (.sub (.lit (.str [48, 49, 50, 51])) (.call 5 (.cons (.var 1) (.cons (.lit (.int 4)) .nil))))) .nil)))
  (.cons (.ite (.not_ (.tru (.call 8 (.cons (.call 10 (.cons (.var 3) (.cons (.var 5) (.cons (.var 4) (.cons (.lit (.int 0)) .nil))))) (.cons (.call 12 (.cons (.var 2) (.cons (.var 5) (.cons (.var 4) .nil)))) .nil))))) (.cons (.ret (.lit (.bool false)))
  .nil) .nil)
  (.cons (.set 6 (.bm (.lit (.str [])) .join (.cons (.comp [8] (.rng1 (.call 5 (.cons (.var 1) (.cons (.lit (.int 9)) .nil)))) .yes (.sub (.lit (.str [97, 98, 99, 100, 101, 63])) (.call 5 (.cons (.var 1) (.cons (.lit (.int 6)) .nil))))) .nil)))
  (.cons (.ite (.not_ (.tru (.call 8 (.cons (.call 10 (.cons (.var 3) (.cons (.var 6) (.cons (.var 4) (.cons (.lit (.int 1)) .nil))))) (.cons (.call 13 (.cons (.var 2) (.cons (.var 6) (.cons (.var 4) .nil)))) .nil))))) (.cons (.ret (.lit (.bool false)))
  .nil) .nil)
  (.cons (.set 7 (.bm (.lit (.str [])) .join (.cons (.comp [9] (.str (.var 6)) (.cmp .in_ (.var 9) (.var 2)) (.var 9)) .nil)))
  (.cons (.ite (.cmp .ne (.meth (.var 3) 6 (.cons (.meth (.var 3) 8 (.cons (.var 7) (.cons (.lit (.str [115, 116, 114, 105, 99, 116])) .nil))) (.cons (.var 4) .nil))) (.var 7)) (.cons (.ret (.lit (.bool false)))
  .nil) .nil)
  .nil)))))))
  (.cons (.ret (.lit (.bool true)))
  .nil))))

/-- law -/
def b_law : Bc.Stms := (.cons (.set 1 (.call 4 (.cons (.var 0) .nil)))
  (.cons (.set 2 (.call 6 (.cons (.var 1) .nil)))
  (.cons (.set 3 (.mk 3 (.cons (.lit (.str [111, 110, 101])) (.cons (.var 2) .nil))))
  (.cons (.for_ [4] (.lst (.lst (.cons (.lit (.str [115, 116, 114, 105, 99, 116])) (.cons (.lit (.str [114, 101, 112, 108, 97, 99, 101])) (.cons (.lit (.str [105, 103, 110, 111, 114, 101])) .nil))))) (.cons (.set 5 (.bm (.lit (.str [])) .join (.cons (.comp [8] (.rng1 (.call 5 (.cons (.var 1) (.cons (.lit (.int 11)) .nil)))) .yes (.sub (.lit (.str [48, 49, 50, 51])) (.call 5 (.cons (.var 1) (.cons (.lit (.int 4)) .nil))))) .nil)))
  (.cons (.ite (.not_ (.tru (.call 8 (.cons (.call 10 (.cons (.var 3) (.cons (.var 5) (.cons (.var 4) (.cons (.lit (.int 0)) .nil))))) (.cons (.call 12 (.cons (.var 2) (.cons (.var 5) (.cons (.var 4) .nil)))) .nil))))) (.cons (.ret (.lit (.bool false)))
  .nil) .nil)
  (.cons (.set 6 (.bm (.lit (.str [])) .join (.cons (.comp [8] (.rng1 (.call 5 (.cons (.var 1) (.cons (.lit (.int 9)) .nil)))) .yes (.sub (.lit (.str [97, 98, 99, 100, 101, 63])) (.call 5 (.cons (.var 1) (.cons (.lit (.int 6)) .nil))))) .nil)))
  (.cons (.ite (.not_ (.tru (.call 8 (.cons (.call 10 (.cons (.var 3) (.cons (.var 6) (.cons (.var 4) (.cons (.lit (.int 1)) .nil))))) (.cons (.call 13 (.cons (.var 2) (.cons (.var 6) (.cons (.var 4) .nil)))) .nil))))) (.cons (.ret (.lit (.bool false)))
  .nil) .nil)
  (.cons (.set 7 (.bm (.lit (.str [])) .join (.cons (.comp [9] (.str (.var 6)) (.cmp .in_ (.var 9) (.var 2)) (.var 9)) .nil)))
  (.cons (.ite (.cmp .ne (.meth (.var 3) 6 (.cons (.meth (.var 3) 8 (.cons (.var 7) (.cons (.lit (.str [115, 116, 114, 105, 99, 116])) .nil))) (.cons (.var 4) .nil))) (.var 7)) (.cons (.ret (.lit (.bool false)))
  .nil) .nil)
  .nil)))))))
  (.cons (.ret (.lit (.bool true)))
  .nil)))))
end Bk
set_option Elab.async false
set_option linter.all false
set_option maxRecDepth 100000
set_option maxHeartbeats 4000000
namespace Bk
open PySem L2 PyProof.Rows Bs
def xps : List Nat := [4, 5]
def xzs : List Nat := [1, 2]
def xhs : List Nat := [4, 5]
def pfNs : List Str := [PySem.Str.ofString "", PySem.Str.ofString "", PySem.Str.ofString "", PySem.Str.ofString "", PySem.Str.ofString "place", PySem.Str.ofString "place", PySem.Str.ofString "", PySem.Str.ofString "index", PySem.Str.ofString "", PySem.Str.ofString "index", PySem.Str.ofString "", PySem.Str.ofString "", PySem.Str.ofString "index", PySem.Str.ofString "", PySem.Str.ofString "", PySem.Str.ofString "", PySem.Str.ofString "", PySem.Str.ofString "line", PySem.Str.ofString "", PySem.Str.ofString ""]
def fnNs : List Str := [PySem.Str.ofString "_wall", PySem.Str.ofString "is_of", PySem.Str.ofString "is_name", PySem.Str.ofString "are_codes", PySem.Str.ofString "_law_begin", PySem.Str.ofString "_law_draw", PySem.Str.ofString "_law_codes", PySem.Str.ofString "_law_tables", PySem.Str.ofString "_law_like", PySem.Str.ofString "_law_good", PySem.Str.ofString "_law_told", PySem.Str.ofString "law", PySem.Str.ofString "_law_text", PySem.Str.ofString "_law_bytes", PySem.Str.ofString "is_int", PySem.Str.ofString "is_mode", PySem.Str.ofString "is_pairs", PySem.Str.ofString "is_some", PySem.Str.ofString "is_coding", PySem.Str.ofString "given_by", PySem.Str.ofString "_law_mode", PySem.Str.ofString "_law_some", PySem.Str.ofString "_law_stage", PySem.Str.ofString "_law_parts", PySem.Str.ofString "_law_stages", PySem.Str.ofString "_law_gives", PySem.Str.ofString "_law_real", PySem.Str.ofString "_law_encodings", PySem.Str.ofString "_law_chain", PySem.Str.ofString "_law_pairs_good", PySem.Str.ofString "_law_some_good", PySem.Str.ofString "_law_next", PySem.Str.ofString "_law_due", PySem.Str.ofString "_law_odd", PySem.Str.ofString "_law_sum", PySem.Str.ofString "first_state", PySem.Str.ofString "letters_of", PySem.Str.ofString "decoded", PySem.Str.ofString "recut", PySem.Str.ofString "replaced", PySem.Str.ofString "passed", PySem.Str.ofString "react", PySem.Str.ofString "first_states", PySem.Str.ofString "check_pieces", PySem.Str.ofString "flowed", PySem.Str.ofString "run", PySem.Str.ofString "answer", PySem.Str.ofString "_law_pieces", PySem.Str.ofString "_law_wrong", PySem.Str.ofString "_law_parse", PySem.Str.ofString "_law_decoding", PySem.Str.ofString "_law_counting", PySem.Str.ofString "_law_coding", PySem.Str.ofString "_law_does", PySem.Str.ofString "_law_through", PySem.Str.ofString "_law_events", PySem.Str.ofString "_law_run", PySem.Str.ofString "_law_answer", PySem.Str.ofString "_law_fed", PySem.Str.ofString "_law_call", PySem.Str.ofString "_law_shares", PySem.Str.ofString "characters_of", PySem.Str.ofString "behind", PySem.Str.ofString "machine", PySem.Str.ofString "common", PySem.Str.ofString "heads", PySem.Str.ofString "pushed", PySem.Str.ofString "parts_of", PySem.Str.ofString "normalized", PySem.Str.ofString "check_comparable", PySem.Str.ofString "living", PySem.Str.ofString "evened", PySem.Str.ofString "parts_here", PySem.Str.ofString "stepped", PySem.Str.ofString "least_parting", PySem.Str.ofString "parting_of", PySem.Str.ofString "parting", PySem.Str.ofString "alike", PySem.Str.ofString "_law_changed", PySem.Str.ofString "_law_two", PySem.Str.ofString "_law_refused", PySem.Str.ofString "_law_rank", PySem.Str.ofString "_law_all", PySem.Str.ofString "uncut", PySem.Str.ofString "cut_parting", PySem.Str.ofString "least_text", PySem.Str.ofString "as_pieces", PySem.Str.ofString "failing", PySem.Str.ofString "giving", PySem.Str.ofString "_law_go", PySem.Str.ofString "_law_numbered", PySem.Str.ofString "_law_apart", PySem.Str.ofString "chain_or_none", PySem.Str.ofString "needless", PySem.Str.ofString "modes", PySem.Str.ofString "_law_made", PySem.Str.ofString "_law_modes", PySem.Str.ofString "turned", PySem.Str.ofString "choices", PySem.Str.ofString "mends", PySem.Str.ofString "_law_choices", PySem.Str.ofString "_law_turn", PySem.Str.ofString "stage_line", PySem.Str.ofString "write", PySem.Str.ofString "number_of", PySem.Str.ofString "pair_of", PySem.Str.ofString "stage_of", PySem.Str.ofString "read", PySem.Str.ofString "_law_line", PySem.Str.ofString "_law_lines", PySem.Str.ofString "_law_spoil", PySem.Str.ofString "changed", PySem.Str.ofString "_law_deed", PySem.Str.ofString "_law_after", PySem.Str.ofString "_law_error", PySem.Str.ofString "_law_do", PySem.Str.ofString "_law_since", PySem.Str.ofString "_law_tried", PySem.Str.ofString "_law_trial_due", PySem.Str.ofString "_law_undo", PySem.Str.ofString "_law_first", PySem.Str.ofString "_law_second", PySem.Str.ofString "_law_kinds", PySem.Str.ofString "_law_copied", PySem.Str.ofString "_law_size", PySem.Str.ofString "_law_new", PySem.Str.ofString "_law_renamed", PySem.Str.ofString "_law_pair", PySem.Str.ofString "_law_right", PySem.Str.ofString "_law_turned"]
def clNs : List Str := [PySem.Str.ofString "CutError", PySem.Str.ofString "BadName", PySem.Str.ofString "BadCodes", PySem.Str.ofString "Encoding", PySem.Str.ofString "CannotDecode", PySem.Str.ofString "CannotEncode", PySem.Str.ofString "BadKind", PySem.Str.ofString "BadStage", PySem.Str.ofString "Chain", PySem.Str.ofString "BadPiece", PySem.Str.ofString "Flow", PySem.Str.ofString "Ended", PySem.Str.ofString "Failed", PySem.Str.ofString "Runner", PySem.Str.ofString "NotComparable", PySem.Str.ofString "Machine", PySem.Str.ofString "Pair", PySem.Str.ofString "BadLine", PySem.Str.ofString "NothingToUndo", PySem.Str.ofString "Desk"]
def fdNs : List Str := [PySem.Str.ofString "name", PySem.Str.ofString "table", PySem.Str.ofString "back", PySem.Str.ofString "place", PySem.Str.ofString "index", PySem.Str.ofString "takes", PySem.Str.ofString "gives", PySem.Str.ofString "stages", PySem.Str.ofString "states", PySem.Str.ofString "failed", PySem.Str.ofString "given", PySem.Str.ofString "subject", PySem.Str.ofString "flow", PySem.Str.ofString "fed", PySem.Str.ofString "over", PySem.Str.ofString "begin", PySem.Str.ofString "rows", PySem.Str.ofString "ends", PySem.Str.ofString "one", PySem.Str.ofString "other", PySem.Str.ofString "first", PySem.Str.ofString "second", PySem.Str.ofString "parted", PySem.Str.ofString "text", PySem.Str.ofString "line", PySem.Str.ofString "now", PySem.Str.ofString "past"]
def meNs : List Str := [PySem.Str.ofString "__init__", PySem.Str.ofString "codes", PySem.Str.ofString "__eq__", PySem.Str.ofString "letter_at", PySem.Str.ofString "is_begun", PySem.Str.ofString "parsed", PySem.Str.ofString "as_text", PySem.Str.ofString "code_of", PySem.Str.ofString "as_bytes", PySem.Str.ofString "__init__", PySem.Str.ofString "__init__", PySem.Str.ofString "__init__", PySem.Str.ofString "__init__", PySem.Str.ofString "__eq__", PySem.Str.ofString "__add__", PySem.Str.ofString "__len__", PySem.Str.ofString "__init__", PySem.Str.ofString "__init__", PySem.Str.ofString "send", PySem.Str.ofString "content", PySem.Str.ofString "__init__", PySem.Str.ofString "__init__", PySem.Str.ofString "gone", PySem.Str.ofString "check", PySem.Str.ofString "feed", PySem.Str.ofString "end", PySem.Str.ofString "__init__", PySem.Str.ofString "__len__", PySem.Str.ofString "__eq__", PySem.Str.ofString "step", PySem.Str.ofString "last", PySem.Str.ofString "answer", PySem.Str.ofString "normal", PySem.Str.ofString "__init__", PySem.Str.ofString "mark", PySem.Str.ofString "__init__", PySem.Str.ofString "__init__", PySem.Str.ofString "chain", PySem.Str.ofString "go_to", PySem.Str.ofString "put", PySem.Str.ofString "take", PySem.Str.ofString "undo", PySem.Str.ofString "since", PySem.Str.ofString "trial"]
def glNs : List Str := [PySem.Str.ofString "BYTES", PySem.Str.ofString "LETTERS", PySem.Str.ofString "SMALL", PySem.Str.ofString "MODES", PySem.Str.ofString "MOST", PySem.Str.ofString "KINDS", PySem.Str.ofString "BORDER", PySem.Str.ofString "END", PySem.Str.ofString "ORDER", PySem.Str.ofString "TURNED", PySem.Str.ofString "FIGURES"]
def kcs : List Bool := [false, false, false, true, false, false, false, false, false, false, false, false, false, false, false, false, false, false, false, false]
def tab (ct : Nat → Addr) : Tab := { fnN := fun i => fnNs.getD i (PySem.Str.ofString ""), clN := fun i => clNs.getD i (PySem.Str.ofString ""), fdN := fun i => fdNs.getD i (PySem.Str.ofString ""), meN := fun i => meNs.getD i (PySem.Str.ofString ""), glN := fun i => glNs.getD i (PySem.Str.ofString ""), ct := ct, pf := fun i => pfNs.getD i (PySem.Str.ofString ""), kc := fun i => kcs.getD i false, ec := fun i => (xps ++ xzs).contains i }
def s_is_of : Stmt := PySem.Challenge.pw_bytecuts_k02_whole_coding.main.body.getD 10 (.Pass ⟨0, 0, 0, 0⟩)
def N_is_of : List Str := [PySem.Str.ofString "value", PySem.Str.ofString "characters", PySem.Str.ofString "character"]
def p_is_of : List Str := [PySem.Str.ofString "value", PySem.Str.ofString "characters"]
def t_is_of : List (Str × List Nat) := []
theorem to_is_of : strC t_is_of = true := by decide +kernel
def a_is_of : Av := ⟨[], [], [], [], []⟩
theorem sc_is_of : FnScope N_is_of p_is_of (defScope s_is_of) := fns_of (by decide +kernel)
theorem nc_is_of : nmC N_is_of (defScope s_is_of) false [true, true, false] [true, true, false] [PySem.Str.ofString "isinstance", PySem.Str.ofString "str", PySem.Str.ofString "all"] = true := by decide +kernel
theorem bb_is_of {P : Program} {w : World} {K : PySem.W.Frag} {mg : Str → Option Value} {base : Heap} {ct : Nat → Addr} {Γ : Bc.Ctx} {k : Nat} {f : Addr} (cdv : Value) (A : Around) (outer : List Env) (s : Shared) (H : Hp) (E : XK)
    (ok : Ok (cxOf (L2.CX P w) P w K mg base N_is_of "is_of" (defScope s_is_of) f cdv A outer s H E) (tab ct) Γ (WXE E) k a_is_of) :
    PSs (cxOf (L2.CX P w) P w K mg base N_is_of "is_of" (defScope s_is_of) f cdv A outer s H E) (defBody s_is_of) (tB (tab ct) K Γ (WXE E) b_is_of) :=
  have st_ok := to_is_of
  have nm := nm_def nc_is_of
  (b_cons (s_ret (e_and (isS_ ok nm (j := 0) (j2 := 1) rfl rfl (v_ nm rfl rfl) rfl) (e_one (all_ ok nm (j := 2) rfl (a_cons (comp_ ok nm (vi' := [false, true, true]) (st' := [false, false, true]) (gl' := []) (own := [(PySem.Str.ofString "character", 2)]) (show nmC N_is_of _ true _ _ _ = true from by decide +kernel) (i_str (v_ nm rfl rfl)) (show blkC N_is_of (defScope s_is_of) _ _ = true from by decide +kernel) rfl (fun _ _ _ _ _ ok nm => (tg1_ ok nm rfl rfl)) (fun _ _ _ _ _ ok nm => p0_) (fun _ _ _ _ _ ok nm => (cmp_ ok (o := .in_) (v_ nm rfl rfl) (v_ nm rfl rfl) rfl)) (fun _ => rfl)) a_nil rfl) rfl rfl))))
  b_nil)

def s_is_name : Stmt := PySem.Challenge.pw_bytecuts_k02_whole_coding.main.body.getD 11 (.Pass ⟨0, 0, 0, 0⟩)
def N_is_name : List Str := [PySem.Str.ofString "value"]
def p_is_name : List Str := [PySem.Str.ofString "value"]
def t_is_name : List (Str × List Nat) := []
theorem to_is_name : strC t_is_name = true := by decide +kernel
def a_is_name : Av := ⟨[2], [1], [], [], []⟩
theorem sc_is_name : FnScope N_is_name p_is_name (defScope s_is_name) := fns_of (by decide +kernel)
theorem nc_is_name : nmC N_is_name (defScope s_is_name) false [true] [true] [PySem.Str.ofString "SMALL", PySem.Str.ofString "is_of", PySem.Str.ofString "len"] = true := by decide +kernel
theorem bb_is_name {P : Program} {w : World} {K : PySem.W.Frag} {mg : Str → Option Value} {base : Heap} {ct : Nat → Addr} {Γ : Bc.Ctx} {k : Nat} {f : Addr} (cdv : Value) (A : Around) (outer : List Env) (s : Shared) (H : Hp) (E : XK)
    (ok : Ok (cxOf (L2.CX P w) P w K mg base N_is_name "is_name" (defScope s_is_name) f cdv A outer s H E) (tab ct) Γ (WXE E) k a_is_name) :
    PSs (cxOf (L2.CX P w) P w K mg base N_is_name "is_name" (defScope s_is_name) f cdv A outer s H E) (defBody s_is_name) (tB (tab ct) K Γ (WXE E) b_is_name) :=
  have st_ok := to_is_name
  have nm := nm_def nc_is_name
  (b_cons (s_ret (e_and (call_ ok nm (f := 1) (j := 1) rfl rfl (a_cons (v_ nm rfl rfl) (a_cons (g_ ok nm (g := 2) (j := 0) rfl rfl) a_nil rfl) rfl) rfl rfl) (e_one (e_cmp2 (o := .le) (o2 := .le) ok.un k_int (len_ ok nm (j := 2) rfl (a_cons (v_ nm rfl rfl) a_nil rfl) rfl rfl) k_int rfl))))
  b_nil)

def s_are_codes : Stmt := PySem.Challenge.pw_bytecuts_k02_whole_coding.main.body.getD 12 (.Pass ⟨0, 0, 0, 0⟩)
def N_are_codes : List Str := [PySem.Str.ofString "value", PySem.Str.ofString "letter", PySem.Str.ofString "code", PySem.Str.ofString "codes", PySem.Str.ofString "at", PySem.Str.ofString "other"]
def p_are_codes : List Str := [PySem.Str.ofString "value"]
def t_are_codes : List (Str × List Nat) := []
theorem to_are_codes : strC t_are_codes = true := by decide +kernel
def a_are_codes : Av := ⟨[1, 0], [1], [], [], []⟩
theorem sc_are_codes : FnScope N_are_codes p_are_codes (defScope s_are_codes) := fns_of (by decide +kernel)
theorem nc_are_codes : nmC N_are_codes (defScope s_are_codes) false [true, true, true, true, true, true] [true, true, true, true, true, true] [PySem.Str.ofString "isinstance", PySem.Str.ofString "dict", PySem.Str.ofString "len", PySem.Str.ofString "LETTERS", PySem.Str.ofString "is_of", PySem.Str.ofString "BYTES", PySem.Str.ofString "enumerate"] = true := by decide +kernel
theorem bb_are_codes {P : Program} {w : World} {K : PySem.W.Frag} {mg : Str → Option Value} {base : Heap} {ct : Nat → Addr} {Γ : Bc.Ctx} {k : Nat} {f : Addr} (cdv : Value) (A : Around) (outer : List Env) (s : Shared) (H : Hp) (E : XK)
    (ok : Ok (cxOf (L2.CX P w) P w K mg base N_are_codes "are_codes" (defScope s_are_codes) f cdv A outer s H E) (tab ct) Γ (WXE E) k a_are_codes) :
    PSs (cxOf (L2.CX P w) P w K mg base N_are_codes "are_codes" (defScope s_are_codes) f cdv A outer s H E) (defBody s_are_codes) (tB (tab ct) K Γ (WXE E) b_are_codes) :=
  have st_ok := to_are_codes
  have nm := nm_def nc_are_codes
  (b_cons (s_ite ((w_or (t_not (t_tru (isD_ ok nm (j := 0) (j2 := 1) rfl rfl (v_ nm rfl rfl) rfl) fun _ => rfl)) (w_one_or (t_not (t_cmp2 (o := .le) (o2 := .le) ok.un k_int (len_ ok nm (j := 2) rfl (a_cons (v_ nm rfl rfl) a_nil rfl) rfl rfl) k_int rfl))))).pt (b_cons (s_ret k_bl)
  b_nil) b_nil)
  (b_cons (s_for ok (i_dct (v_ nm rfl rfl)) (tg1_ ok nm rfl rfl) (b_cons (set_ ok nm (n := 2) rfl rfl (sub_ ok (v_ nm rfl rfl) (v_ nm rfl rfl) fun _ _ => rfl) rfl)
  (b_cons (s_ite ((w_or (t_not (t_tru (call_ ok nm (f := 1) (j := 4) rfl rfl (a_cons (v_ nm rfl rfl) (a_cons (g_ ok nm (g := 1) (j := 3) rfl rfl) a_nil rfl) rfl) rfl rfl) fun _ => rfl)) (w_or (tcmp_ ok (o := .ne) (len_ ok nm (j := 2) rfl (a_cons (v_ nm rfl rfl) a_nil rfl) rfl rfl) k_int rfl) (w_or (t_not (t_tru (call_ ok nm (f := 1) (j := 4) rfl rfl (a_cons (v_ nm rfl rfl) (a_cons (g_ ok nm (g := 0) (j := 5) rfl rfl) a_nil rfl) rfl) rfl rfl) fun _ => rfl)) (w_one_or (t_not (t_cmp2 (o := .le) (o2 := .le) ok.un k_int (len_ ok nm (j := 2) rfl (a_cons (v_ nm rfl rfl) a_nil rfl) rfl rfl) k_int rfl))))))).pt (b_cons (s_ret k_bl)
  b_nil) b_nil)
  b_nil)) fun _ => rfl)
  (b_cons (setLc_ ok nm (n := 3) rfl rfl rfl rfl (vi' := [true, true, false, false, false, false]) (st' := [false, true, false, false, false, false]) (gl' := []) (own := [(PySem.Str.ofString "letter", 1)]) (show nmC N_are_codes _ true _ _ _ = true from by decide +kernel) (i_dct (v_ nm rfl rfl)) (show blkC N_are_codes (defScope s_are_codes) _ _ = true from by decide +kernel) rfl (fun _ _ _ _ _ ok nm => (tg1_ ok nm rfl rfl)) (fun _ _ _ _ _ ok nm => p0_) (fun _ _ _ _ _ ok nm => (sub_ ok (v_ nm rfl rfl) (v_ nm rfl rfl) fun _ _ => rfl)) (fun _ => rfl))
  (b_cons (s_for ok (enumL_ ok nm (j := 6) rfl (v_ nm rfl rfl) rfl) (tt_ ok nm (ts1_ ok nm rfl rfl (ts1_ ok nm rfl rfl (ts0_ ok nm) rfl) rfl) rfl rfl) (b_cons (s_for ok (i_lst (e_bin (o := .add) (e_slT (v_ nm rfl rfl) (v_ nm rfl rfl)) (e_slF (v_ nm rfl rfl) (e_bin (o := .add) (v_ nm rfl rfl) k_int)))) (tg1_ ok nm rfl rfl) (b_cons (s_ite (t_tru (starts_ ok (v_ nm rfl rfl) (a_cons (v_ nm rfl rfl) a_nil rfl) rfl rfl rfl rfl rfl) fun _ => rfl) (b_cons (s_ret k_bl)
  b_nil) b_nil)
  b_nil) fun _ => rfl)
  b_nil) fun _ => rfl)
  (b_cons (s_ret k_bl)
  b_nil)))))

def s_Encoding_init : Stmt := inClass (PySem.Challenge.pw_bytecuts_k02_whole_coding.main.body.getD 13 (.Pass ⟨0, 0, 0, 0⟩)) 0
def N_Encoding_init : List Str := [PySem.Str.ofString "self", PySem.Str.ofString "name", PySem.Str.ofString "codes", PySem.Str.ofString "letter"]
def p_Encoding_init : List Str := [PySem.Str.ofString "self", PySem.Str.ofString "name", PySem.Str.ofString "codes"]
def t_Encoding_init : List (Str × List Nat) := []
theorem to_Encoding_init : strC t_Encoding_init = true := by decide +kernel
def a_Encoding_init : Av := ⟨[1], [2, 3], [], [], [0, 1, 2]⟩
theorem sc_Encoding_init : FnScope N_Encoding_init p_Encoding_init (defScope s_Encoding_init) := fns_of (by decide +kernel)
theorem nc_Encoding_init : nmC N_Encoding_init (defScope s_Encoding_init) false [true, true, true, false] [true, true, true, false] [PySem.Str.ofString "is_name", PySem.Str.ofString "BadName", PySem.Str.ofString "are_codes", PySem.Str.ofString "BadCodes", PySem.Str.ofString "LETTERS"] = true := by decide +kernel
theorem bb_Encoding_init {P : Program} {w : World} {K : PySem.W.Frag} {mg : Str → Option Value} {base : Heap} {ct : Nat → Addr} {Γ : Bc.Ctx} {k : Nat} {f : Addr} (cdv : Value) (A : Around) (outer : List Env) (s : Shared) (H : Hp) (E : XK)
    (xf : XF P w K mg base (tab ct) Γ xps xzs xhs) (hk : 2 ≤ k)
    (ok : Ok (cxOf (L2.CX P w) P w K mg base N_Encoding_init "Encoding.__init__" (defScope s_Encoding_init) f cdv A outer s H E) (tab ct) Γ (WXE E) k a_Encoding_init) :
    PSs (cxOf (L2.CX P w) P w K mg base N_Encoding_init "Encoding.__init__" (defScope s_Encoding_init) f cdv A outer s H E) (defBody s_Encoding_init) (tB (tab ct) K Γ (WXE E) b_Encoding_init) :=
  have st_ok := to_Encoding_init
  have nm := nm_def nc_Encoding_init
  (b_cons (s_ite (t_not (t_tru (call_ ok nm (f := 2) (j := 0) rfl rfl (a_cons (v_ nm rfl rfl) a_nil rfl) rfl rfl) fun _ => rfl)) (b_cons (raise0_ ok nm (c := 1) (j := 1) (xf.z 1 (mB rfl)) rfl)
  b_nil) b_nil)
  (b_cons (s_ite (t_not (t_tru (call_ ok nm (f := 3) (j := 2) rfl rfl (a_cons (v_ nm rfl rfl) a_nil rfl) rfl rfl) fun _ => rfl)) (b_cons (raise0_ ok nm (c := 2) (j := 3) (xf.z 2 (mB rfl)) rfl)
  b_nil) b_nil)
  (b_cons (s_aset ok (f := 0) (mB rfl) (v_ nm rfl rfl) (v_ nm rfl rfl) rfl)
  (b_cons (s_aset ok (f := 1) (mB rfl) (v_ nm rfl rfl) (dcomp_ ok nm (vi' := [false, false, true, true]) (st' := [false, false, false, true]) (gl' := []) (own := [(PySem.Str.ofString "letter", 3)]) (show nmC N_Encoding_init _ true _ _ _ = true from by decide +kernel) (i_str (g_ ok nm (g := 1) (j := 4) rfl rfl)) (show blkC N_Encoding_init (defScope s_Encoding_init) _ _ = true from by decide +kernel) rfl (fun _ _ _ _ _ ok nm => (tg1_ ok nm rfl rfl)) (fun _ _ _ _ _ ok nm => (pts_one (tcmp_ ok (o := .in_) (v_ nm rfl rfl) (v_ nm rfl rfl) rfl))) (fun _ _ _ _ _ ok nm => (v_ nm rfl rfl)) (fun _ _ _ _ _ ok nm => (sub_ ok (v_ nm rfl rfl) (v_ nm rfl rfl) fun _ _ => rfl)) (fun _ => rfl)) rfl)
  (b_cons (s_aset ok (f := 2) (mB rfl) (v_ nm rfl rfl) (dcomp_ ok nm (vi' := [false, false, true, true]) (st' := [false, false, false, true]) (gl' := []) (own := [(PySem.Str.ofString "letter", 3)]) (show nmC N_Encoding_init _ true _ _ _ = true from by decide +kernel) (i_dct (v_ nm rfl rfl)) (show blkC N_Encoding_init (defScope s_Encoding_init) _ _ = true from by decide +kernel) rfl (fun _ _ _ _ _ ok nm => (tg1_ ok nm rfl rfl)) (fun _ _ _ _ _ ok nm => p0_) (fun _ _ _ _ _ ok nm => (sub_ ok (v_ nm rfl rfl) (v_ nm rfl rfl) fun _ _ => rfl)) (fun _ _ _ _ _ ok nm => (v_ nm rfl rfl)) (fun _ => rfl)) rfl)
  b_nil)))))

def s_Encoding_codes : Stmt := inClass (PySem.Challenge.pw_bytecuts_k02_whole_coding.main.body.getD 13 (.Pass ⟨0, 0, 0, 0⟩)) 1
def N_Encoding_codes : List Str := [PySem.Str.ofString "self"]
def p_Encoding_codes : List Str := [PySem.Str.ofString "self"]
def t_Encoding_codes : List (Str × List Nat) := []
theorem to_Encoding_codes : strC t_Encoding_codes = true := by decide +kernel
def a_Encoding_codes : Av := ⟨[], [], [], [], [1]⟩
theorem sc_Encoding_codes : FnScope N_Encoding_codes p_Encoding_codes (defScope s_Encoding_codes) := fns_of (by decide +kernel)
theorem nc_Encoding_codes : nmC N_Encoding_codes (defScope s_Encoding_codes) false [true] [true] [PySem.Str.ofString "dict"] = true := by decide +kernel
theorem bb_Encoding_codes {P : Program} {w : World} {K : PySem.W.Frag} {mg : Str → Option Value} {base : Heap} {ct : Nat → Addr} {Γ : Bc.Ctx} {k : Nat} {f : Addr} (cdv : Value) (A : Around) (outer : List Env) (s : Shared) (H : Hp) (E : XK)
    (ok : Ok (cxOf (L2.CX P w) P w K mg base N_Encoding_codes "Encoding.codes" (defScope s_Encoding_codes) f cdv A outer s H E) (tab ct) Γ (WXE E) k a_Encoding_codes) :
    PSs (cxOf (L2.CX P w) P w K mg base N_Encoding_codes "Encoding.codes" (defScope s_Encoding_codes) f cdv A outer s H E) (defBody s_Encoding_codes) (tB (tab ct) K Γ (WXE E) b_Encoding_codes) :=
  have st_ok := to_Encoding_codes
  have nm := nm_def nc_Encoding_codes
  (b_cons (s_ret (dict_ ok nm (j := 0) rfl (a_cons (e_attr ok (f := 1) (mB rfl) (v_ nm rfl rfl) rfl) a_nil rfl) rfl rfl))
  b_nil)

def s_Encoding_eq : Stmt := inClass (PySem.Challenge.pw_bytecuts_k02_whole_coding.main.body.getD 13 (.Pass ⟨0, 0, 0, 0⟩)) 2
def N_Encoding_eq : List Str := [PySem.Str.ofString "self", PySem.Str.ofString "other"]
def p_Encoding_eq : List Str := [PySem.Str.ofString "self", PySem.Str.ofString "other"]
def t_Encoding_eq : List (Str × List Nat) := []
theorem to_Encoding_eq : strC t_Encoding_eq = true := by decide +kernel
def a_Encoding_eq : Av := ⟨[], [], [], [], [0, 1]⟩
theorem sc_Encoding_eq : FnScope N_Encoding_eq p_Encoding_eq (defScope s_Encoding_eq) := fns_of (by decide +kernel)
theorem nc_Encoding_eq : nmC N_Encoding_eq (defScope s_Encoding_eq) false [true, true] [true, true] [PySem.Str.ofString "isinstance", PySem.Str.ofString "Encoding"] = true := by decide +kernel
theorem bb_Encoding_eq {P : Program} {w : World} {K : PySem.W.Frag} {mg : Str → Option Value} {base : Heap} {ct : Nat → Addr} {Γ : Bc.Ctx} {k : Nat} {f : Addr} (cdv : Value) (A : Around) (outer : List Env) (s : Shared) (H : Hp) (E : XK)
    (ok : Ok (cxOf (L2.CX P w) P w K mg base N_Encoding_eq "Encoding.__eq__" (defScope s_Encoding_eq) f cdv A outer s H E) (tab ct) Γ (WXE E) k a_Encoding_eq) :
    PSs (cxOf (L2.CX P w) P w K mg base N_Encoding_eq "Encoding.__eq__" (defScope s_Encoding_eq) f cdv A outer s H E) (defBody s_Encoding_eq) (tB (tab ct) K Γ (WXE E) b_Encoding_eq) :=
  have st_ok := to_Encoding_eq
  have nm := nm_def nc_Encoding_eq
  (b_cons (s_ret (e_and (isO_ ok nm (j := 0) (j2 := 1) (c := 3) rfl rfl rfl (v_ nm rfl rfl) rfl) (e_and (cmp_ ok (o := .eq) (e_attr ok (f := 0) (mB rfl) (v_ nm rfl rfl) rfl) (e_attr ok (f := 0) (mB rfl) (v_ nm rfl rfl) rfl) rfl) (e_one (cmp_ ok (o := .eq) (e_attr ok (f := 1) (mB rfl) (v_ nm rfl rfl) rfl) (e_attr ok (f := 1) (mB rfl) (v_ nm rfl rfl) rfl) rfl)))))
  b_nil)

def s_Encoding_letter_at : Stmt := inClass (PySem.Challenge.pw_bytecuts_k02_whole_coding.main.body.getD 13 (.Pass ⟨0, 0, 0, 0⟩)) 3
def N_Encoding_letter_at : List Str := [PySem.Str.ofString "self", PySem.Str.ofString "rest", PySem.Str.ofString "size"]
def p_Encoding_letter_at : List Str := [PySem.Str.ofString "self", PySem.Str.ofString "rest"]
def t_Encoding_letter_at : List (Str × List Nat) := []
theorem to_Encoding_letter_at : strC t_Encoding_letter_at = true := by decide +kernel
def a_Encoding_letter_at : Av := ⟨[], [], [], [], [2]⟩
theorem sc_Encoding_letter_at : FnScope N_Encoding_letter_at p_Encoding_letter_at (defScope s_Encoding_letter_at) := fns_of (by decide +kernel)
theorem nc_Encoding_letter_at : nmC N_Encoding_letter_at (defScope s_Encoding_letter_at) false [true, true, true] [true, true, true] [PySem.Str.ofString "range"] = true := by decide +kernel
theorem bb_Encoding_letter_at {P : Program} {w : World} {K : PySem.W.Frag} {mg : Str → Option Value} {base : Heap} {ct : Nat → Addr} {Γ : Bc.Ctx} {k : Nat} {f : Addr} (cdv : Value) (A : Around) (outer : List Env) (s : Shared) (H : Hp) (E : XK)
    (ok : Ok (cxOf (L2.CX P w) P w K mg base N_Encoding_letter_at "Encoding.letter_at" (defScope s_Encoding_letter_at) f cdv A outer s H E) (tab ct) Γ (WXE E) k a_Encoding_letter_at) :
    PSs (cxOf (L2.CX P w) P w K mg base N_Encoding_letter_at "Encoding.letter_at" (defScope s_Encoding_letter_at) f cdv A outer s H E) (defBody s_Encoding_letter_at) (tB (tab ct) K Γ (WXE E) b_Encoding_letter_at) :=
  have st_ok := to_Encoding_letter_at
  have nm := nm_def nc_Encoding_letter_at
  (b_cons (s_for ok (rng2_ ok nm (j := 0) rfl k_int k_int rfl rfl) (tg1_ ok nm rfl rfl) (b_cons (s_ite (tcmp_ ok (o := .in_) (e_slT (v_ nm rfl rfl) (v_ nm rfl rfl)) (e_attr ok (f := 2) (mB rfl) (v_ nm rfl rfl) rfl) rfl) (b_cons (s_ret (sub_ ok (e_attr ok (f := 2) (mB rfl) (v_ nm rfl rfl) rfl) (e_slT (v_ nm rfl rfl) (v_ nm rfl rfl)) fun _ _ => rfl))
  b_nil) b_nil)
  b_nil) fun _ => rfl)
  (b_cons (s_ret k_non)
  b_nil))

def s_Encoding_is_begun : Stmt := inClass (PySem.Challenge.pw_bytecuts_k02_whole_coding.main.body.getD 13 (.Pass ⟨0, 0, 0, 0⟩)) 4
def N_Encoding_is_begun : List Str := [PySem.Str.ofString "self", PySem.Str.ofString "rest", PySem.Str.ofString "code"]
def p_Encoding_is_begun : List Str := [PySem.Str.ofString "self", PySem.Str.ofString "rest"]
def t_Encoding_is_begun : List (Str × List Nat) := []
theorem to_Encoding_is_begun : strC t_Encoding_is_begun = true := by decide +kernel
def a_Encoding_is_begun : Av := ⟨[], [], [], [], [2]⟩
theorem sc_Encoding_is_begun : FnScope N_Encoding_is_begun p_Encoding_is_begun (defScope s_Encoding_is_begun) := fns_of (by decide +kernel)
theorem nc_Encoding_is_begun : nmC N_Encoding_is_begun (defScope s_Encoding_is_begun) false [true, true, false] [true, true, false] [PySem.Str.ofString "any"] = true := by decide +kernel
theorem bb_Encoding_is_begun {P : Program} {w : World} {K : PySem.W.Frag} {mg : Str → Option Value} {base : Heap} {ct : Nat → Addr} {Γ : Bc.Ctx} {k : Nat} {f : Addr} (cdv : Value) (A : Around) (outer : List Env) (s : Shared) (H : Hp) (E : XK)
    (ok : Ok (cxOf (L2.CX P w) P w K mg base N_Encoding_is_begun "Encoding.is_begun" (defScope s_Encoding_is_begun) f cdv A outer s H E) (tab ct) Γ (WXE E) k a_Encoding_is_begun) :
    PSs (cxOf (L2.CX P w) P w K mg base N_Encoding_is_begun "Encoding.is_begun" (defScope s_Encoding_is_begun) f cdv A outer s H E) (defBody s_Encoding_is_begun) (tB (tab ct) K Γ (WXE E) b_Encoding_is_begun) :=
  have st_ok := to_Encoding_is_begun
  have nm := nm_def nc_Encoding_is_begun
  (b_cons (s_ret (any_ ok nm (j := 0) rfl (a_cons (comp_ ok nm (vi' := [false, true, true]) (st' := [false, false, true]) (gl' := []) (own := [(PySem.Str.ofString "code", 2)]) (show nmC N_Encoding_is_begun _ true _ _ _ = true from by decide +kernel) (i_dct (e_attr ok (f := 2) (mB rfl) (v_ nm rfl rfl) rfl)) (show blkC N_Encoding_is_begun (defScope s_Encoding_is_begun) _ _ = true from by decide +kernel) rfl (fun _ _ _ _ _ ok nm => (tg1_ ok nm rfl rfl)) (fun _ _ _ _ _ ok nm => p0_) (fun _ _ _ _ _ ok nm => (starts_ ok (v_ nm rfl rfl) (a_cons (v_ nm rfl rfl) a_nil rfl) rfl rfl rfl rfl rfl)) (fun _ => rfl)) a_nil rfl) rfl rfl))
  b_nil)

def s_Encoding_parsed : Stmt := inClass (PySem.Challenge.pw_bytecuts_k02_whole_coding.main.body.getD 13 (.Pass ⟨0, 0, 0, 0⟩)) 5
def N_Encoding_parsed : List Str := [PySem.Str.ofString "self", PySem.Str.ofString "rest", PySem.Str.ofString "final", PySem.Str.ofString "found", PySem.Str.ofString "letter"]
def p_Encoding_parsed : List Str := [PySem.Str.ofString "self", PySem.Str.ofString "rest", PySem.Str.ofString "final"]
def t_Encoding_parsed : List (Str × List Nat) := [(PySem.Str.ofString "", [])]
theorem to_Encoding_parsed : strC t_Encoding_parsed = true := by decide +kernel
def a_Encoding_parsed : Av := ⟨[], [], [], [3, 4], [1]⟩
theorem sc_Encoding_parsed : FnScope N_Encoding_parsed p_Encoding_parsed (defScope s_Encoding_parsed) := fns_of (by decide +kernel)
theorem nc_Encoding_parsed : nmC N_Encoding_parsed (defScope s_Encoding_parsed) false [true, true, true, true, true] [true, true, true, true, true] [PySem.Str.ofString "len"] = true := by decide +kernel
theorem bb_Encoding_parsed {P : Program} {w : World} {K : PySem.W.Frag} {mg : Str → Option Value} {base : Heap} {ct : Nat → Addr} {Γ : Bc.Ctx} {k : Nat} {f : Addr} (cdv : Value) (A : Around) (outer : List Env) (s : Shared) (H : Hp) (E : XK)
    (ok : Ok (cxOf (L2.CX P w) P w K mg base N_Encoding_parsed "Encoding.parsed" (defScope s_Encoding_parsed) f cdv A outer s H E) (tab ct) Γ (WXE E) k a_Encoding_parsed) :
    PSs (cxOf (L2.CX P w) P w K mg base N_Encoding_parsed "Encoding.parsed" (defScope s_Encoding_parsed) f cdv A outer s H E) (defBody s_Encoding_parsed) (tB (tab ct) K Γ (WXE E) b_Encoding_parsed) :=
  have st_ok := to_Encoding_parsed
  have nm := nm_def nc_Encoding_parsed
  (b_cons (set_ ok nm (n := 3) rfl rfl (e_lst a_nil (by decide)) rfl)
  (b_cons (s_while ok (tcmp_ ok (o := .ne) (v_ nm rfl rfl) (k_str st_ok (n := 0) rfl) rfl) (b_cons (set_ ok nm (n := 4) rfl rfl (e_meth ok (m := 3) (mB rfl) (v_ nm rfl rfl) (a_cons (v_ nm rfl rfl) a_nil rfl) rfl rfl rfl) rfl)
  (b_cons (s_ite (tcmp_ ok (o := .isnot) (v_ nm rfl rfl) k_non rfl) (b_cons (s_exp (append_ ok (v_ nm rfl rfl) (a_cons (v_ nm rfl rfl) a_nil rfl) rfl rfl rfl rfl rfl) rfl)
  (b_cons (set_ ok nm (n := 1) rfl rfl (e_slF (v_ nm rfl rfl) (len_ ok nm (j := 0) rfl (a_cons (sub_ ok (e_attr ok (f := 1) (mB rfl) (v_ nm rfl rfl) rfl) (v_ nm rfl rfl) fun _ _ => rfl) a_nil rfl) rfl rfl)) rfl)
  b_nil)) (b_cons (s_ite ((w_and (t_not (t_tru (v_ nm rfl rfl) fun _ => rfl)) (w_one_and (t_tru (e_meth ok (m := 4) (mB rfl) (v_ nm rfl rfl) (a_cons (v_ nm rfl rfl) a_nil rfl) rfl rfl rfl) fun _ => rfl)))).pt (b_cons s_brk
  b_nil) (b_cons (s_exp (append_ ok (v_ nm rfl rfl) (a_cons k_non a_nil rfl) rfl rfl rfl rfl rfl) rfl)
  (b_cons (set_ ok nm (n := 1) rfl rfl (e_slF (v_ nm rfl rfl) k_int) rfl)
  b_nil)))
  b_nil))
  b_nil)))
  (b_cons (s_ret (e_tup (a_cons (v_ nm rfl rfl) (a_cons (v_ nm rfl rfl) a_nil rfl) rfl) (by decide)))
  b_nil)))

def s_Encoding_as_text : Stmt := inClass (PySem.Challenge.pw_bytecuts_k02_whole_coding.main.body.getD 13 (.Pass ⟨0, 0, 0, 0⟩)) 6
def N_Encoding_as_text : List Str := [PySem.Str.ofString "self", PySem.Str.ofString "given", PySem.Str.ofString "mode", PySem.Str.ofString "found", PySem.Str.ofString "place", PySem.Str.ofString "letter"]
def p_Encoding_as_text : List Str := [PySem.Str.ofString "self", PySem.Str.ofString "given", PySem.Str.ofString "mode"]
def t_Encoding_as_text : List (Str × List Nat) := [(PySem.Str.ofString "strict", [115, 116, 114, 105, 99, 116]), (PySem.Str.ofString "replace", [114, 101, 112, 108, 97, 99, 101]), (PySem.Str.ofString "?", [63]), (PySem.Str.ofString "", [])]
theorem to_Encoding_as_text : strC t_Encoding_as_text = true := by decide +kernel
def a_Encoding_as_text : Av := ⟨[], [], [], [5], [1]⟩
theorem sc_Encoding_as_text : FnScope N_Encoding_as_text p_Encoding_as_text (defScope s_Encoding_as_text) := fns_of (by decide +kernel)
theorem nc_Encoding_as_text : nmC N_Encoding_as_text (defScope s_Encoding_as_text) false [true, true, true, true, true, true] [true, true, true, true, true, true] [PySem.Str.ofString "CannotDecode", PySem.Str.ofString "len"] = true := by decide +kernel
theorem bb_Encoding_as_text {P : Program} {w : World} {K : PySem.W.Frag} {mg : Str → Option Value} {base : Heap} {ct : Nat → Addr} {Γ : Bc.Ctx} {k : Nat} {f : Addr} (cdv : Value) (A : Around) (outer : List Env) (s : Shared) (H : Hp) (E : XK)
    (xf : XF P w K mg base (tab ct) Γ xps xzs xhs) (hk : 2 ≤ k)
    (ok : Ok (cxOf (L2.CX P w) P w K mg base N_Encoding_as_text "Encoding.as_text" (defScope s_Encoding_as_text) f cdv A outer s H E) (tab ct) Γ (WXE E) k a_Encoding_as_text) :
    PSs (cxOf (L2.CX P w) P w K mg base N_Encoding_as_text "Encoding.as_text" (defScope s_Encoding_as_text) f cdv A outer s H E) (defBody s_Encoding_as_text) (tB (tab ct) K Γ (WXE E) b_Encoding_as_text) :=
  have st_ok := to_Encoding_as_text
  have nm := nm_def nc_Encoding_as_text
  (b_cons (set_ ok nm (n := 3) rfl rfl (e_lst a_nil (by decide)) rfl)
  (b_cons (set_ ok nm (n := 4) rfl rfl k_int rfl)
  (b_cons (s_for ok (i_lst (sub_ ok (e_meth ok (m := 5) (mB rfl) (v_ nm rfl rfl) (a_cons (v_ nm rfl rfl) (a_cons k_bl a_nil rfl) rfl) rfl rfl rfl) k_int fun _ _ => rfl)) (tg1_ ok nm rfl rfl) (b_cons (s_ite (tcmp_ ok (o := .is_) (v_ nm rfl rfl) k_non rfl) (b_cons (s_ite (tcmp_ ok (o := .eq) (v_ nm rfl rfl) (k_str st_ok (n := 0) rfl) rfl) (b_cons (raise1_ ok nm (c := 4) (j := 0) (xf.p 4 (mB rfl)) rfl hk (a_cons (v_ nm rfl rfl) a_nil rfl) rfl rfl rfl)
  b_nil) b_nil)
  (b_cons (aug_ ok nm (n := 4) rfl rfl k_int)
  (b_cons (s_ite (tcmp_ ok (o := .eq) (v_ nm rfl rfl) (k_str st_ok (n := 1) rfl) rfl) (b_cons (s_exp (append_ ok (v_ nm rfl rfl) (a_cons (k_str st_ok (n := 2) rfl) a_nil rfl) rfl rfl rfl rfl rfl) rfl)
  b_nil) b_nil)
  b_nil))) (b_cons (s_exp (append_ ok (v_ nm rfl rfl) (a_cons (v_ nm rfl rfl) a_nil rfl) rfl rfl rfl rfl rfl) rfl)
  (b_cons (aug_ ok nm (n := 4) rfl rfl (len_ ok nm (j := 1) rfl (a_cons (sub_ ok (e_attr ok (f := 1) (mB rfl) (v_ nm rfl rfl) rfl) (v_ nm rfl rfl) fun _ _ => rfl) a_nil rfl) rfl rfl))
  b_nil)))
  b_nil) fun _ => rfl)
  (b_cons (s_ret (join_ ok (k_str st_ok (n := 3) rfl) (a_cons (v_ nm rfl rfl) a_nil rfl) rfl rfl rfl rfl rfl))
  b_nil))))

def s_Encoding_code_of : Stmt := inClass (PySem.Challenge.pw_bytecuts_k02_whole_coding.main.body.getD 13 (.Pass ⟨0, 0, 0, 0⟩)) 7
def N_Encoding_code_of : List Str := [PySem.Str.ofString "self", PySem.Str.ofString "letter", PySem.Str.ofString "mode"]
def p_Encoding_code_of : List Str := [PySem.Str.ofString "self", PySem.Str.ofString "letter", PySem.Str.ofString "mode"]
def t_Encoding_code_of : List (Str × List Nat) := [(PySem.Str.ofString "ignore", [105, 103, 110, 111, 114, 101]), (PySem.Str.ofString "", []), (PySem.Str.ofString "replace", [114, 101, 112, 108, 97, 99, 101]), (PySem.Str.ofString "?", [63])]
theorem to_Encoding_code_of : strC t_Encoding_code_of = true := by decide +kernel
def a_Encoding_code_of : Av := ⟨[], [], [], [], [1]⟩
theorem sc_Encoding_code_of : FnScope N_Encoding_code_of p_Encoding_code_of (defScope s_Encoding_code_of) := fns_of (by decide +kernel)
theorem nc_Encoding_code_of : nmC N_Encoding_code_of (defScope s_Encoding_code_of) false [true, true, true] [true, true, true] [] = true := by decide +kernel
theorem bb_Encoding_code_of {P : Program} {w : World} {K : PySem.W.Frag} {mg : Str → Option Value} {base : Heap} {ct : Nat → Addr} {Γ : Bc.Ctx} {k : Nat} {f : Addr} (cdv : Value) (A : Around) (outer : List Env) (s : Shared) (H : Hp) (E : XK)
    (ok : Ok (cxOf (L2.CX P w) P w K mg base N_Encoding_code_of "Encoding.code_of" (defScope s_Encoding_code_of) f cdv A outer s H E) (tab ct) Γ (WXE E) k a_Encoding_code_of) :
    PSs (cxOf (L2.CX P w) P w K mg base N_Encoding_code_of "Encoding.code_of" (defScope s_Encoding_code_of) f cdv A outer s H E) (defBody s_Encoding_code_of) (tB (tab ct) K Γ (WXE E) b_Encoding_code_of) :=
  have st_ok := to_Encoding_code_of
  have nm := nm_def nc_Encoding_code_of
  (b_cons (s_ite (tcmp_ ok (o := .in_) (v_ nm rfl rfl) (e_attr ok (f := 1) (mB rfl) (v_ nm rfl rfl) rfl) rfl) (b_cons (s_ret (sub_ ok (e_attr ok (f := 1) (mB rfl) (v_ nm rfl rfl) rfl) (v_ nm rfl rfl) fun _ _ => rfl))
  b_nil) b_nil)
  (b_cons (s_ite (tcmp_ ok (o := .eq) (v_ nm rfl rfl) (k_str st_ok (n := 0) rfl) rfl) (b_cons (s_ret (k_str st_ok (n := 1) rfl))
  b_nil) b_nil)
  (b_cons (s_ite (tcmp_ ok (o := .eq) (v_ nm rfl rfl) (k_str st_ok (n := 2) rfl) rfl) (b_cons (s_ret (get_ ok (e_attr ok (f := 1) (mB rfl) (v_ nm rfl rfl) rfl) (k_str st_ok (n := 3) rfl) rfl rfl rfl rfl))
  b_nil) b_nil)
  (b_cons (s_ret k_non)
  b_nil))))

def s_Encoding_as_bytes : Stmt := inClass (PySem.Challenge.pw_bytecuts_k02_whole_coding.main.body.getD 13 (.Pass ⟨0, 0, 0, 0⟩)) 8
def N_Encoding_as_bytes : List Str := [PySem.Str.ofString "self", PySem.Str.ofString "text", PySem.Str.ofString "mode", PySem.Str.ofString "found", PySem.Str.ofString "place", PySem.Str.ofString "letter", PySem.Str.ofString "code"]
def p_Encoding_as_bytes : List Str := [PySem.Str.ofString "self", PySem.Str.ofString "text", PySem.Str.ofString "mode"]
def t_Encoding_as_bytes : List (Str × List Nat) := [(PySem.Str.ofString "", [])]
theorem to_Encoding_as_bytes : strC t_Encoding_as_bytes = true := by decide +kernel
def a_Encoding_as_bytes : Av := ⟨[], [], [], [7], []⟩
theorem sc_Encoding_as_bytes : FnScope N_Encoding_as_bytes p_Encoding_as_bytes (defScope s_Encoding_as_bytes) := fns_of (by decide +kernel)
theorem nc_Encoding_as_bytes : nmC N_Encoding_as_bytes (defScope s_Encoding_as_bytes) false [true, true, true, true, true, true, true] [true, true, true, true, true, true, true] [PySem.Str.ofString "enumerate", PySem.Str.ofString "CannotEncode"] = true := by decide +kernel
theorem bb_Encoding_as_bytes {P : Program} {w : World} {K : PySem.W.Frag} {mg : Str → Option Value} {base : Heap} {ct : Nat → Addr} {Γ : Bc.Ctx} {k : Nat} {f : Addr} (cdv : Value) (A : Around) (outer : List Env) (s : Shared) (H : Hp) (E : XK)
    (xf : XF P w K mg base (tab ct) Γ xps xzs xhs) (hk : 2 ≤ k)
    (ok : Ok (cxOf (L2.CX P w) P w K mg base N_Encoding_as_bytes "Encoding.as_bytes" (defScope s_Encoding_as_bytes) f cdv A outer s H E) (tab ct) Γ (WXE E) k a_Encoding_as_bytes) :
    PSs (cxOf (L2.CX P w) P w K mg base N_Encoding_as_bytes "Encoding.as_bytes" (defScope s_Encoding_as_bytes) f cdv A outer s H E) (defBody s_Encoding_as_bytes) (tB (tab ct) K Γ (WXE E) b_Encoding_as_bytes) :=
  have st_ok := to_Encoding_as_bytes
  have nm := nm_def nc_Encoding_as_bytes
  (b_cons (set_ ok nm (n := 3) rfl rfl (e_lst a_nil (by decide)) rfl)
  (b_cons (s_for ok (enumS_ ok nm (j := 0) rfl (v_ nm rfl rfl) rfl) (tt_ ok nm (ts1_ ok nm rfl rfl (ts1_ ok nm rfl rfl (ts0_ ok nm) rfl) rfl) rfl rfl) (b_cons (set_ ok nm (n := 6) rfl rfl (e_meth ok (m := 7) (mB rfl) (v_ nm rfl rfl) (a_cons (v_ nm rfl rfl) (a_cons (v_ nm rfl rfl) a_nil rfl) rfl) rfl rfl rfl) rfl)
  (b_cons (s_ite (tcmp_ ok (o := .is_) (v_ nm rfl rfl) k_non rfl) (b_cons (raise1_ ok nm (c := 5) (j := 1) (xf.p 5 (mB rfl)) rfl hk (a_cons (v_ nm rfl rfl) a_nil rfl) rfl rfl rfl)
  b_nil) b_nil)
  (b_cons (s_exp (append_ ok (v_ nm rfl rfl) (a_cons (v_ nm rfl rfl) a_nil rfl) rfl rfl rfl rfl rfl) rfl)
  b_nil))) fun _ => rfl)
  (b_cons (s_ret (join_ ok (k_str st_ok (n := 0) rfl) (a_cons (v_ nm rfl rfl) a_nil rfl) rfl rfl rfl rfl rfl))
  b_nil)))

def s__law_begin : Stmt := PySem.Challenge.pw_bytecuts_k02_whole_coding.main.body.getD 15 (.Pass ⟨0, 0, 0, 0⟩)
def N__law_begin : List Str := [PySem.Str.ofString "_law_script"]
def p__law_begin : List Str := [PySem.Str.ofString "_law_script"]
def t__law_begin : List (Str × List Nat) := []
theorem to__law_begin : strC t__law_begin = true := by decide +kernel
def a__law_begin : Av := ⟨[], [], [], [], []⟩
theorem sc__law_begin : FnScope N__law_begin p__law_begin (defScope s__law_begin) := fns_of (by decide +kernel)
theorem nc__law_begin : nmC N__law_begin (defScope s__law_begin) false [true] [true] [PySem.Str.ofString "list"] = true := by decide +kernel
theorem bb__law_begin {P : Program} {w : World} {K : PySem.W.Frag} {mg : Str → Option Value} {base : Heap} {ct : Nat → Addr} {Γ : Bc.Ctx} {k : Nat} {f : Addr} (cdv : Value) (A : Around) (outer : List Env) (s : Shared) (H : Hp) (E : XK)
    (ok : Ok (cxOf (L2.CX P w) P w K mg base N__law_begin "_law_begin" (defScope s__law_begin) f cdv A outer s H E) (tab ct) Γ (WXE E) k a__law_begin) :
    PSs (cxOf (L2.CX P w) P w K mg base N__law_begin "_law_begin" (defScope s__law_begin) f cdv A outer s H E) (defBody s__law_begin) (tB (tab ct) K Γ (WXE E) b__law_begin) :=
  have st_ok := to__law_begin
  have nm := nm_def nc__law_begin
  (b_cons (s_ret (e_lst (a_cons (list_ ok nm (j := 0) rfl (a_cons (v_ nm rfl rfl) a_nil rfl) rfl rfl) (a_cons k_int (a_cons k_int (a_cons k_int a_nil rfl) rfl) rfl) rfl) (by decide)))
  b_nil)

def s__law_draw : Stmt := PySem.Challenge.pw_bytecuts_k02_whole_coding.main.body.getD 16 (.Pass ⟨0, 0, 0, 0⟩)
def N__law_draw : List Str := [PySem.Str.ofString "_law_draws", PySem.Str.ofString "_law_many", PySem.Str.ofString "_law_cell", PySem.Str.ofString "_law_found"]
def p__law_draw : List Str := [PySem.Str.ofString "_law_draws", PySem.Str.ofString "_law_many"]
def t__law_draw : List (Str × List Nat) := []
theorem to__law_draw : strC t__law_draw = true := by decide +kernel
def a__law_draw : Av := ⟨[], [], [], [], []⟩
theorem sc__law_draw : FnScope N__law_draw p__law_draw (defScope s__law_draw) := fns_of (by decide +kernel)
theorem nc__law_draw : nmC N__law_draw (defScope s__law_draw) false [true, true, true, true] [true, true, true, true] [PySem.Str.ofString "len", PySem.Str.ofString "int"] = true := by decide +kernel
theorem bb__law_draw {P : Program} {w : World} {K : PySem.W.Frag} {mg : Str → Option Value} {base : Heap} {ct : Nat → Addr} {Γ : Bc.Ctx} {k : Nat} {f : Addr} (cdv : Value) (A : Around) (outer : List Env) (s : Shared) (H : Hp) (E : XK)
    (ok : Ok (cxOf (L2.CX P w) P w K mg base N__law_draw "_law_draw" (defScope s__law_draw) f cdv A outer s H E) (tab ct) Γ (WXE E) k a__law_draw) :
    PSs (cxOf (L2.CX P w) P w K mg base N__law_draw "_law_draw" (defScope s__law_draw) f cdv A outer s H E) (defBody s__law_draw) (tB (tab ct) K Γ (WXE E) b__law_draw) :=
  have st_ok := to__law_draw
  have nm := nm_def nc__law_draw
  (b_cons (s_ite (tcmp_ ok (o := .eq) (sub_ ok (v_ nm rfl rfl) k_int fun _ _ => rfl) k_int rfl) (b_cons (s_ite (tcmp_ ok (o := .lt) (sub_ ok (v_ nm rfl rfl) k_int fun _ _ => rfl) (len_ ok nm (j := 0) rfl (a_cons (sub_ ok (v_ nm rfl rfl) k_int fun _ _ => rfl) a_nil rfl) rfl rfl) rfl) (b_cons (set_ ok nm (n := 2) rfl rfl (sub_ ok (sub_ ok (v_ nm rfl rfl) k_int fun _ _ => rfl) (sub_ ok (v_ nm rfl rfl) k_int fun _ _ => rfl) fun _ _ => rfl) rfl)
  (b_cons (sset_ ok nm (v_ nm rfl rfl) k_int (e_bin (o := .add) (sub_ ok (v_ nm rfl rfl) k_int fun _ _ => rfl) k_int) (fun _ => rfl) rfl rfl)
  (b_cons (s_ite (tcmp_ ok (o := .ge) (v_ nm rfl rfl) (e_bin (o := .pow) k_int k_int) rfl) (b_cons (sset_ ok nm (v_ nm rfl rfl) k_int (v_ nm rfl rfl) (fun _ => rfl) rfl rfl)
  b_nil) (b_cons (sset_ ok nm (v_ nm rfl rfl) k_int (e_bin (o := .mod) (int_ ok nm (j := 1) rfl (a_cons (e_bin (o := .add) (e_bin (o := .add) (e_bin (o := .mul) (sub_ ok (v_ nm rfl rfl) k_int fun _ _ => rfl) k_int) (e_bin (o := .mul) (v_ nm rfl rfl) k_int)) k_int) a_nil rfl) rfl rfl) k_int) (fun _ => rfl) rfl rfl)
  b_nil))
  b_nil))) (b_cons (sset_ ok nm (v_ nm rfl rfl) k_int (e_bin (o := .mod) (int_ ok nm (j := 1) rfl (a_cons (e_bin (o := .add) (e_bin (o := .mul) (sub_ ok (v_ nm rfl rfl) k_int fun _ _ => rfl) k_int) k_int) a_nil rfl) rfl rfl) k_int) (fun _ => rfl) rfl rfl)
  b_nil))
  b_nil) b_nil)
  (b_cons (s_ite (tcmp_ ok (o := .gt) (sub_ ok (v_ nm rfl rfl) k_int fun _ _ => rfl) k_int rfl) (b_cons (set_ ok nm (n := 3) rfl rfl (e_bin (o := .mod) (int_ ok nm (j := 1) rfl (a_cons (sub_ ok (v_ nm rfl rfl) k_int fun _ _ => rfl) a_nil rfl) rfl rfl) (v_ nm rfl rfl)) rfl)
  (b_cons (sset_ ok nm (v_ nm rfl rfl) k_int (e_bin (o := .fdiv) (sub_ ok (v_ nm rfl rfl) k_int fun _ _ => rfl) (v_ nm rfl rfl)) (fun _ => rfl) rfl rfl)
  (b_cons (s_ret (v_ nm rfl rfl))
  b_nil))) b_nil)
  (b_cons (s_ret (e_bin (o := .mod) (e_bin (o := .mod) (int_ ok nm (j := 1) rfl (a_cons (e_bin (o := .mul) (sub_ ok (v_ nm rfl rfl) k_int fun _ _ => rfl) k_int) a_nil rfl) rfl rfl) k_int) (v_ nm rfl rfl)))
  b_nil)))

def s__law_codes : Stmt := PySem.Challenge.pw_bytecuts_k02_whole_coding.main.body.getD 17 (.Pass ⟨0, 0, 0, 0⟩)
def N__law_codes : List Str := [PySem.Str.ofString "_law_draws", PySem.Str.ofString "_law_leaves", PySem.Str.ofString "_law_k", PySem.Str.ofString "_law_at", PySem.Str.ofString "_law_leaf", PySem.Str.ofString "_law_letters", PySem.Str.ofString "_law_codes_here", PySem.Str.ofString "_law_letter"]
def p__law_codes : List Str := [PySem.Str.ofString "_law_draws"]
def t__law_codes : List (Str × List Nat) := [(PySem.Str.ofString "0", [48]), (PySem.Str.ofString "1", [49]), (PySem.Str.ofString "2", [50]), (PySem.Str.ofString "3", [51]), (PySem.Str.ofString "a", [97]), (PySem.Str.ofString "b", [98]), (PySem.Str.ofString "c", [99]), (PySem.Str.ofString "d", [100]), (PySem.Str.ofString "e", [101]), (PySem.Str.ofString "?", [63])]
theorem to__law_codes : strC t__law_codes = true := by decide +kernel
def a__law_codes : Av := ⟨[], [5], [], [], []⟩
theorem sc__law_codes : FnScope N__law_codes p__law_codes (defScope s__law_codes) := fns_of (by decide +kernel)
theorem nc__law_codes : nmC N__law_codes (defScope s__law_codes) false [true, true, true, true, true, true, true, true] [true, true, true, true, true, true, true, true] [PySem.Str.ofString "range", PySem.Str.ofString "_law_draw", PySem.Str.ofString "len", PySem.Str.ofString "min"] = true := by decide +kernel
theorem bb__law_codes {P : Program} {w : World} {K : PySem.W.Frag} {mg : Str → Option Value} {base : Heap} {ct : Nat → Addr} {Γ : Bc.Ctx} {k : Nat} {f : Addr} (cdv : Value) (A : Around) (outer : List Env) (s : Shared) (H : Hp) (E : XK)
    (ok : Ok (cxOf (L2.CX P w) P w K mg base N__law_codes "_law_codes" (defScope s__law_codes) f cdv A outer s H E) (tab ct) Γ (WXE E) k a__law_codes) :
    PSs (cxOf (L2.CX P w) P w K mg base N__law_codes "_law_codes" (defScope s__law_codes) f cdv A outer s H E) (defBody s__law_codes) (tB (tab ct) K Γ (WXE E) b__law_codes) :=
  have st_ok := to__law_codes
  have nm := nm_def nc__law_codes
  (b_cons (set_ ok nm (n := 1) rfl rfl (e_lst (a_cons (k_str st_ok (n := 0) rfl) (a_cons (k_str st_ok (n := 1) rfl) (a_cons (k_str st_ok (n := 2) rfl) (a_cons (k_str st_ok (n := 3) rfl) a_nil rfl) rfl) rfl) rfl) (by decide)) rfl)
  (b_cons (s_for ok (rng1_ ok nm (j := 0) rfl (call_ ok nm (f := 5) (j := 1) rfl rfl (a_cons (v_ nm rfl rfl) (a_cons k_int a_nil rfl) rfl) rfl rfl) rfl) (tg1_ ok nm rfl rfl) (b_cons (set_ ok nm (n := 3) rfl rfl (call_ ok nm (f := 5) (j := 1) rfl rfl (a_cons (v_ nm rfl rfl) (a_cons (len_ ok nm (j := 2) rfl (a_cons (v_ nm rfl rfl) a_nil rfl) rfl rfl) a_nil rfl) rfl) rfl rfl) rfl)
  (b_cons (s_ite (tcmp_ ok (o := .lt) (len_ ok nm (j := 2) rfl (a_cons (sub_ ok (v_ nm rfl rfl) (v_ nm rfl rfl) fun _ _ => rfl) a_nil rfl) rfl rfl) k_int rfl) (b_cons (set_ ok nm (n := 4) rfl rfl (popAt_ ok (v_ nm rfl rfl) (a_cons (v_ nm rfl rfl) a_nil rfl) rfl rfl rfl rfl rfl) rfl)
  (b_cons (set_ ok nm (n := 1) rfl rfl (e_bin (o := .add) (v_ nm rfl rfl) (e_slT (e_lst (a_cons (e_bin (o := .add) (v_ nm rfl rfl) (k_str st_ok (n := 0) rfl)) (a_cons (e_bin (o := .add) (v_ nm rfl rfl) (k_str st_ok (n := 1) rfl)) (a_cons (e_bin (o := .add) (v_ nm rfl rfl) (k_str st_ok (n := 2) rfl)) a_nil rfl) rfl) rfl) (by decide)) (e_bin (o := .add) k_int (call_ ok nm (f := 5) (j := 1) rfl rfl (a_cons (v_ nm rfl rfl) (a_cons k_int a_nil rfl) rfl) rfl rfl)))) rfl)
  b_nil)) b_nil)
  b_nil)) fun _ => rfl)
  (b_cons (set_ ok nm (n := 5) rfl rfl (e_lst (a_cons (k_str st_ok (n := 4) rfl) (a_cons (k_str st_ok (n := 5) rfl) (a_cons (k_str st_ok (n := 6) rfl) (a_cons (k_str st_ok (n := 7) rfl) (a_cons (k_str st_ok (n := 8) rfl) (a_cons (k_str st_ok (n := 9) rfl) a_nil rfl) rfl) rfl) rfl) rfl) rfl) (by decide)) rfl)
  (b_cons (set_ ok nm (n := 6) rfl rfl e_dct rfl)
  (b_cons (s_for ok (rng1_ ok nm (j := 0) rfl (e_bin (o := .add) k_int (call_ ok nm (f := 5) (j := 1) rfl rfl (a_cons (v_ nm rfl rfl) (a_cons (min_ ok nm (j := 3) rfl (a_cons k_int (a_cons (len_ ok nm (j := 2) rfl (a_cons (v_ nm rfl rfl) a_nil rfl) rfl rfl) a_nil rfl) rfl) rfl rfl) a_nil rfl) rfl) rfl rfl)) rfl) (tg1_ ok nm rfl rfl) (b_cons (set_ ok nm (n := 7) rfl rfl (popAt_ ok (v_ nm rfl rfl) (a_cons (call_ ok nm (f := 5) (j := 1) rfl rfl (a_cons (v_ nm rfl rfl) (a_cons (len_ ok nm (j := 2) rfl (a_cons (v_ nm rfl rfl) a_nil rfl) rfl rfl) a_nil rfl) rfl) rfl rfl) a_nil rfl) rfl rfl rfl rfl rfl) rfl)
  (b_cons (sset_ ok nm (v_ nm rfl rfl) (v_ nm rfl rfl) (popAt_ ok (v_ nm rfl rfl) (a_cons (call_ ok nm (f := 5) (j := 1) rfl rfl (a_cons (v_ nm rfl rfl) (a_cons (len_ ok nm (j := 2) rfl (a_cons (v_ nm rfl rfl) a_nil rfl) rfl rfl) a_nil rfl) rfl) rfl rfl) a_nil rfl) rfl rfl rfl rfl rfl) (fun _ => rfl) rfl rfl)
  b_nil)) fun _ => rfl)
  (b_cons (s_ret (v_ nm rfl rfl))
  b_nil))))))

def s__law_tables : Stmt := PySem.Challenge.pw_bytecuts_k02_whole_coding.main.body.getD 18 (.Pass ⟨0, 0, 0, 0⟩)
def N__law_tables : List Str := [PySem.Str.ofString "_law_draws"]
def p__law_tables : List Str := [PySem.Str.ofString "_law_draws"]
def t__law_tables : List (Str × List Nat) := [(PySem.Str.ofString "one", [111, 110, 101]), (PySem.Str.ofString "two", [116, 119, 111])]
theorem to__law_tables : strC t__law_tables = true := by decide +kernel
def a__law_tables : Av := ⟨[], [6], [], [], []⟩
theorem sc__law_tables : FnScope N__law_tables p__law_tables (defScope s__law_tables) := fns_of (by decide +kernel)
theorem nc__law_tables : nmC N__law_tables (defScope s__law_tables) false [true] [true] [PySem.Str.ofString "_law_codes"] = true := by decide +kernel
theorem bb__law_tables {P : Program} {w : World} {K : PySem.W.Frag} {mg : Str → Option Value} {base : Heap} {ct : Nat → Addr} {Γ : Bc.Ctx} {k : Nat} {f : Addr} (cdv : Value) (A : Around) (outer : List Env) (s : Shared) (H : Hp) (E : XK)
    (ok : Ok (cxOf (L2.CX P w) P w K mg base N__law_tables "_law_tables" (defScope s__law_tables) f cdv A outer s H E) (tab ct) Γ (WXE E) k a__law_tables) :
    PSs (cxOf (L2.CX P w) P w K mg base N__law_tables "_law_tables" (defScope s__law_tables) f cdv A outer s H E) (defBody s__law_tables) (tB (tab ct) K Γ (WXE E) b__law_tables) :=
  have st_ok := to__law_tables
  have nm := nm_def nc__law_tables
  (b_cons (s_ret (e_lst (a_cons (e_lst (a_cons (k_str st_ok (n := 0) rfl) (a_cons (call_ ok nm (f := 6) (j := 0) rfl rfl (a_cons (v_ nm rfl rfl) a_nil rfl) rfl rfl) a_nil rfl) rfl) (by decide)) (a_cons (e_lst (a_cons (k_str st_ok (n := 1) rfl) (a_cons (call_ ok nm (f := 6) (j := 0) rfl rfl (a_cons (v_ nm rfl rfl) a_nil rfl) rfl rfl) a_nil rfl) rfl) (by decide)) a_nil rfl) rfl) (by decide)))
  b_nil)

def s__law_like : Stmt := PySem.Challenge.pw_bytecuts_k02_whole_coding.main.body.getD 19 (.Pass ⟨0, 0, 0, 0⟩)
def N__law_like : List Str := [PySem.Str.ofString "_law_actual", PySem.Str.ofString "_law_due", PySem.Str.ofString "_law_k"]
def p__law_like : List Str := [PySem.Str.ofString "_law_actual", PySem.Str.ofString "_law_due"]
def t__law_like : List (Str × List Nat) := []
theorem to__law_like : strC t__law_like = true := by decide +kernel
def a__law_like : Av := ⟨[], [8], [], [], []⟩
theorem sc__law_like : FnScope N__law_like p__law_like (defScope s__law_like) := fns_of (by decide +kernel)
theorem nc__law_like : nmC N__law_like (defScope s__law_like) false [true, true, true] [true, true, true] [PySem.Str.ofString "isinstance", PySem.Str.ofString "bool", PySem.Str.ofString "int", PySem.Str.ofString "str", PySem.Str.ofString "tuple", PySem.Str.ofString "len", PySem.Str.ofString "list", PySem.Str.ofString "range", PySem.Str.ofString "_law_like"] = true := by decide +kernel
theorem bb__law_like {P : Program} {w : World} {K : PySem.W.Frag} {mg : Str → Option Value} {base : Heap} {ct : Nat → Addr} {Γ : Bc.Ctx} {k : Nat} {f : Addr} (cdv : Value) (A : Around) (outer : List Env) (s : Shared) (H : Hp) (E : XK)
    (ok : Ok (cxOf (L2.CX P w) P w K mg base N__law_like "_law_like" (defScope s__law_like) f cdv A outer s H E) (tab ct) Γ (WXE E) k a__law_like) :
    PSs (cxOf (L2.CX P w) P w K mg base N__law_like "_law_like" (defScope s__law_like) f cdv A outer s H E) (defBody s__law_like) (tB (tab ct) K Γ (WXE E) b__law_like) :=
  have st_ok := to__law_like
  have nm := nm_def nc__law_like
  (b_cons (s_ite (tcmp_ ok (o := .is_) (v_ nm rfl rfl) k_non rfl) (b_cons (s_ret (cmp_ ok (o := .is_) (v_ nm rfl rfl) k_non rfl))
  b_nil) b_nil)
  (b_cons (s_ite (t_tru (isBl_ ok nm (j := 0) (j2 := 1) rfl rfl (v_ nm rfl rfl) rfl) fun _ => rfl) (b_cons (s_ret (e_and (isBl_ ok nm (j := 0) (j2 := 1) rfl rfl (v_ nm rfl rfl) rfl) (e_one (cmp_ ok (o := .eq) (v_ nm rfl rfl) (v_ nm rfl rfl) rfl))))
  b_nil) b_nil)
  (b_cons (s_ite (t_tru (isI_ ok nm (j := 0) (j2 := 2) rfl rfl (v_ nm rfl rfl) rfl) fun _ => rfl) (b_cons (s_ret (e_and (isI_ ok nm (j := 0) (j2 := 2) rfl rfl (v_ nm rfl rfl) rfl) (e_and (e_not (isBl_ ok nm (j := 0) (j2 := 1) rfl rfl (v_ nm rfl rfl) rfl)) (e_one (cmp_ ok (o := .eq) (v_ nm rfl rfl) (v_ nm rfl rfl) rfl)))))
  b_nil) b_nil)
  (b_cons (s_ite (t_tru (isS_ ok nm (j := 0) (j2 := 3) rfl rfl (v_ nm rfl rfl) rfl) fun _ => rfl) (b_cons (s_ret (e_and (isS_ ok nm (j := 0) (j2 := 3) rfl rfl (v_ nm rfl rfl) rfl) (e_one (cmp_ ok (o := .eq) (v_ nm rfl rfl) (v_ nm rfl rfl) rfl))))
  b_nil) b_nil)
  (b_cons (s_ite (t_tru (isT_ ok nm (j := 0) (j2 := 4) rfl rfl (v_ nm rfl rfl) rfl) fun _ => rfl) (b_cons (s_ite ((w_or (t_not (t_tru (isT_ ok nm (j := 0) (j2 := 4) rfl rfl (v_ nm rfl rfl) rfl) fun _ => rfl)) (w_one_or (tcmp_ ok (o := .ne) (len_ ok nm (j := 5) rfl (a_cons (v_ nm rfl rfl) a_nil rfl) rfl rfl) (len_ ok nm (j := 5) rfl (a_cons (v_ nm rfl rfl) a_nil rfl) rfl rfl) rfl)))).pt (b_cons (s_ret k_bl)
  b_nil) b_nil)
  b_nil) (b_cons (s_ite ((w_or (t_not (t_tru (isL_ ok nm (j := 0) (j2 := 6) rfl rfl (v_ nm rfl rfl) rfl) fun _ => rfl)) (w_one_or (tcmp_ ok (o := .ne) (len_ ok nm (j := 5) rfl (a_cons (v_ nm rfl rfl) a_nil rfl) rfl rfl) (len_ ok nm (j := 5) rfl (a_cons (v_ nm rfl rfl) a_nil rfl) rfl rfl) rfl)))).pt (b_cons (s_ret k_bl)
  b_nil) b_nil)
  b_nil))
  (b_cons (s_for ok (rng1_ ok nm (j := 7) rfl (len_ ok nm (j := 5) rfl (a_cons (v_ nm rfl rfl) a_nil rfl) rfl rfl) rfl) (tg1_ ok nm rfl rfl) (b_cons (s_ite (t_not (t_tru (call_ ok nm (f := 8) (j := 8) rfl rfl (a_cons (sub_ ok (v_ nm rfl rfl) (v_ nm rfl rfl) fun _ _ => rfl) (a_cons (sub_ ok (v_ nm rfl rfl) (v_ nm rfl rfl) fun _ _ => rfl) a_nil rfl) rfl) rfl rfl) fun _ => rfl)) (b_cons (s_ret k_bl)
  b_nil) b_nil)
  b_nil) fun _ => rfl)
  (b_cons (s_ret k_bl)
  b_nil)))))))

def s__law_text : Stmt := PySem.Challenge.pw_bytecuts_k02_whole_coding.main.body.getD 20 (.Pass ⟨0, 0, 0, 0⟩)
def N__law_text : List Str := [PySem.Str.ofString "_law_codes_here", PySem.Str.ofString "_law_given", PySem.Str.ofString "_law_mode", PySem.Str.ofString "_law_found", PySem.Str.ofString "_law_at", PySem.Str.ofString "_law_letter", PySem.Str.ofString "_law_one"]
def p__law_text : List Str := [PySem.Str.ofString "_law_codes_here", PySem.Str.ofString "_law_given", PySem.Str.ofString "_law_mode"]
def t__law_text : List (Str × List Nat) := [(PySem.Str.ofString "", []), (PySem.Str.ofString "strict", [115, 116, 114, 105, 99, 116]), (PySem.Str.ofString "wrong", [119, 114, 111, 110, 103]), (PySem.Str.ofString "replace", [114, 101, 112, 108, 97, 99, 101]), (PySem.Str.ofString "?", [63])]
theorem to__law_text : strC t__law_text = true := by decide +kernel
def a__law_text : Av := ⟨[], [], [], [], []⟩
theorem sc__law_text : FnScope N__law_text p__law_text (defScope s__law_text) := fns_of (by decide +kernel)
theorem nc__law_text : nmC N__law_text (defScope s__law_text) false [true, true, true, true, true, true, true] [true, true, true, true, true, true, true] [PySem.Str.ofString "len"] = true := by decide +kernel
theorem bb__law_text {P : Program} {w : World} {K : PySem.W.Frag} {mg : Str → Option Value} {base : Heap} {ct : Nat → Addr} {Γ : Bc.Ctx} {k : Nat} {f : Addr} (cdv : Value) (A : Around) (outer : List Env) (s : Shared) (H : Hp) (E : XK)
    (ok : Ok (cxOf (L2.CX P w) P w K mg base N__law_text "_law_text" (defScope s__law_text) f cdv A outer s H E) (tab ct) Γ (WXE E) k a__law_text) :
    PSs (cxOf (L2.CX P w) P w K mg base N__law_text "_law_text" (defScope s__law_text) f cdv A outer s H E) (defBody s__law_text) (tB (tab ct) K Γ (WXE E) b__law_text) :=
  have st_ok := to__law_text
  have nm := nm_def nc__law_text
  (b_cons (set_ ok nm (n := 3) rfl rfl (k_str st_ok (n := 0) rfl) rfl)
  (b_cons (set_ ok nm (n := 4) rfl rfl k_int rfl)
  (b_cons (s_while ok (tcmp_ ok (o := .lt) (v_ nm rfl rfl) (len_ ok nm (j := 0) rfl (a_cons (v_ nm rfl rfl) a_nil rfl) rfl rfl) rfl) (b_cons (set_ ok nm (n := 5) rfl rfl (k_str st_ok (n := 0) rfl) rfl)
  (b_cons (s_for ok (i_dct (v_ nm rfl rfl)) (tg1_ ok nm rfl rfl) (b_cons (s_ite (tcmp_ ok (o := .eq) (e_slB (v_ nm rfl rfl) (v_ nm rfl rfl) (e_bin (o := .add) (v_ nm rfl rfl) (len_ ok nm (j := 0) rfl (a_cons (sub_ ok (v_ nm rfl rfl) (v_ nm rfl rfl) fun _ _ => rfl) a_nil rfl) rfl rfl))) (sub_ ok (v_ nm rfl rfl) (v_ nm rfl rfl) fun _ _ => rfl) rfl) (b_cons (set_ ok nm (n := 5) rfl rfl (v_ nm rfl rfl) rfl)
  b_nil) b_nil)
  b_nil) fun _ => rfl)
  (b_cons (s_ite (tcmp_ ok (o := .ne) (v_ nm rfl rfl) (k_str st_ok (n := 0) rfl) rfl) (b_cons (set_ ok nm (n := 3) rfl rfl (e_bin (o := .add) (v_ nm rfl rfl) (v_ nm rfl rfl)) rfl)
  (b_cons (set_ ok nm (n := 4) rfl rfl (e_bin (o := .add) (v_ nm rfl rfl) (len_ ok nm (j := 0) rfl (a_cons (sub_ ok (v_ nm rfl rfl) (v_ nm rfl rfl) fun _ _ => rfl) a_nil rfl) rfl rfl)) rfl)
  b_nil)) (b_cons (s_ite (tcmp_ ok (o := .eq) (v_ nm rfl rfl) (k_str st_ok (n := 1) rfl) rfl) (b_cons (s_ret (e_tup (a_cons (k_str st_ok (n := 2) rfl) (a_cons (v_ nm rfl rfl) a_nil rfl) rfl) (by decide)))
  b_nil) b_nil)
  (b_cons (s_ite (tcmp_ ok (o := .eq) (v_ nm rfl rfl) (k_str st_ok (n := 3) rfl) rfl) (b_cons (set_ ok nm (n := 3) rfl rfl (e_bin (o := .add) (v_ nm rfl rfl) (k_str st_ok (n := 4) rfl)) rfl)
  b_nil) b_nil)
  (b_cons (set_ ok nm (n := 4) rfl rfl (e_bin (o := .add) (v_ nm rfl rfl) k_int) rfl)
  b_nil))))
  b_nil))))
  (b_cons (s_ret (v_ nm rfl rfl))
  b_nil))))

def s__law_bytes : Stmt := PySem.Challenge.pw_bytecuts_k02_whole_coding.main.body.getD 21 (.Pass ⟨0, 0, 0, 0⟩)
def N__law_bytes : List Str := [PySem.Str.ofString "_law_codes_here", PySem.Str.ofString "_law_text_here", PySem.Str.ofString "_law_mode", PySem.Str.ofString "_law_found", PySem.Str.ofString "_law_at"]
def p__law_bytes : List Str := [PySem.Str.ofString "_law_codes_here", PySem.Str.ofString "_law_text_here", PySem.Str.ofString "_law_mode"]
def t__law_bytes : List (Str × List Nat) := [(PySem.Str.ofString "", []), (PySem.Str.ofString "replace", [114, 101, 112, 108, 97, 99, 101]), (PySem.Str.ofString "?", [63]), (PySem.Str.ofString "ignore", [105, 103, 110, 111, 114, 101]), (PySem.Str.ofString "wrong", [119, 114, 111, 110, 103])]
theorem to__law_bytes : strC t__law_bytes = true := by decide +kernel
def a__law_bytes : Av := ⟨[], [], [], [], []⟩
theorem sc__law_bytes : FnScope N__law_bytes p__law_bytes (defScope s__law_bytes) := fns_of (by decide +kernel)
theorem nc__law_bytes : nmC N__law_bytes (defScope s__law_bytes) false [true, true, true, true, true] [true, true, true, true, true] [PySem.Str.ofString "range", PySem.Str.ofString "len"] = true := by decide +kernel
theorem bb__law_bytes {P : Program} {w : World} {K : PySem.W.Frag} {mg : Str → Option Value} {base : Heap} {ct : Nat → Addr} {Γ : Bc.Ctx} {k : Nat} {f : Addr} (cdv : Value) (A : Around) (outer : List Env) (s : Shared) (H : Hp) (E : XK)
    (ok : Ok (cxOf (L2.CX P w) P w K mg base N__law_bytes "_law_bytes" (defScope s__law_bytes) f cdv A outer s H E) (tab ct) Γ (WXE E) k a__law_bytes) :
    PSs (cxOf (L2.CX P w) P w K mg base N__law_bytes "_law_bytes" (defScope s__law_bytes) f cdv A outer s H E) (defBody s__law_bytes) (tB (tab ct) K Γ (WXE E) b__law_bytes) :=
  have st_ok := to__law_bytes
  have nm := nm_def nc__law_bytes
  (b_cons (set_ ok nm (n := 3) rfl rfl (k_str st_ok (n := 0) rfl) rfl)
  (b_cons (s_for ok (rng1_ ok nm (j := 0) rfl (len_ ok nm (j := 1) rfl (a_cons (v_ nm rfl rfl) a_nil rfl) rfl rfl) rfl) (tg1_ ok nm rfl rfl) (b_cons (s_ite (tcmp_ ok (o := .in_) (sub_ ok (v_ nm rfl rfl) (v_ nm rfl rfl) fun _ _ => rfl) (v_ nm rfl rfl) rfl) (b_cons (set_ ok nm (n := 3) rfl rfl (e_bin (o := .add) (v_ nm rfl rfl) (sub_ ok (v_ nm rfl rfl) (sub_ ok (v_ nm rfl rfl) (v_ nm rfl rfl) fun _ _ => rfl) fun _ _ => rfl)) rfl)
  b_nil) (b_cons (s_ite ((w_and (tcmp_ ok (o := .eq) (v_ nm rfl rfl) (k_str st_ok (n := 1) rfl) rfl) (w_one_and (tcmp_ ok (o := .in_) (k_str st_ok (n := 2) rfl) (v_ nm rfl rfl) rfl)))).pt (b_cons (set_ ok nm (n := 3) rfl rfl (e_bin (o := .add) (v_ nm rfl rfl) (sub_ ok (v_ nm rfl rfl) (k_str st_ok (n := 2) rfl) fun _ _ => rfl)) rfl)
  b_nil) (b_cons (s_ite (tcmp_ ok (o := .ne) (v_ nm rfl rfl) (k_str st_ok (n := 3) rfl) rfl) (b_cons (s_ret (e_tup (a_cons (k_str st_ok (n := 4) rfl) (a_cons (v_ nm rfl rfl) a_nil rfl) rfl) (by decide)))
  b_nil) b_nil)
  b_nil))
  b_nil))
  b_nil) fun _ => rfl)
  (b_cons (s_ret (v_ nm rfl rfl))
  b_nil)))

def s__law_told : Stmt := PySem.Challenge.pw_bytecuts_k02_whole_coding.main.body.getD 22 (.Pass ⟨0, 0, 0, 0⟩)
def N__law_told : List Str := [PySem.Str.ofString "_law_encoding", PySem.Str.ofString "_law_given", PySem.Str.ofString "_law_mode", PySem.Str.ofString "_law_way", PySem.Str.ofString "_law_told_here", PySem.Str.ofString "e"]
def p__law_told : List Str := [PySem.Str.ofString "_law_encoding", PySem.Str.ofString "_law_given", PySem.Str.ofString "_law_mode", PySem.Str.ofString "_law_way"]
def t__law_told : List (Str × List Nat) := [(PySem.Str.ofString "wrong", [119, 114, 111, 110, 103])]
theorem to__law_told : strC t__law_told = true := by decide +kernel
def a__law_told : Av := ⟨[], [], [], [6, 8], []⟩
theorem sc__law_told : FnScope N__law_told p__law_told (defScope s__law_told) := fns_of (by decide +kernel)
theorem nc__law_told : nmC N__law_told (defScope s__law_told) false [true, true, true, true, true, true] [true, true, true, true, true, true] [PySem.Str.ofString "CannotEncode", PySem.Str.ofString "CannotDecode"] = true := by decide +kernel
theorem bb__law_told {P : Program} {w : World} {K : PySem.W.Frag} {mg : Str → Option Value} {base : Heap} {ct : Nat → Addr} {Γ : Bc.Ctx} {k : Nat} {f : Addr} (cdv : Value) (A : Around) (outer : List Env) (s : Shared) (H : Hp) (E : XK)
    (xf : XF P w K mg base (tab ct) Γ xps xzs xhs) (hk : 2 ≤ k)
    (ok : Ok (cxOf (L2.CX P w) P w K mg base N__law_told "_law_told" (defScope s__law_told) f cdv A outer s H E) (tab ct) Γ (WXE E) k a__law_told) :
    PSs (cxOf (L2.CX P w) P w K mg base N__law_told "_law_told" (defScope s__law_told) f cdv A outer s H E) (defBody s__law_told) (tB (tab ct) K Γ (WXE E) b__law_told) :=
  have st_ok := to__law_told
  have nm := nm_def nc__law_told
  (b_cons (set_ ok nm (n := 4) rfl rfl k_non rfl)
  (b_cons (try_ ok nm rfl rfl (fun _ _ _ ok nm => (b_cons (s_ite (tcmp_ ok (o := .eq) (v_ nm rfl rfl) k_int rfl) (b_cons (set_ ok nm (n := 4) rfl rfl (e_meth ok (m := 6) (mB rfl) (v_ nm rfl rfl) (a_cons (v_ nm rfl rfl) (a_cons (v_ nm rfl rfl) a_nil rfl) rfl) rfl rfl rfl) rfl)
  b_nil) (b_cons (set_ ok nm (n := 4) rfl rfl (e_meth ok (m := 8) (mB rfl) (v_ nm rfl rfl) (a_cons (v_ nm rfl rfl) (a_cons (v_ nm rfl rfl) a_nil rfl) rfl) rfl rfl rfl) rfl)
  b_nil))
  b_nil)) (hd_named (j := 1) nm xf rfl rfl rfl rfl (su_tup2 ok nm (t := 4) rfl rfl (sa_str st_ok (n := 0) rfl) (sa_pay (n := 5) nm rfl rfl (xf.p 4 (mB rfl)) (xf.only 4 (mB rfl)) rfl) rfl rfl rfl) (hd_named (j := 0) nm xf rfl rfl rfl rfl (su_tup2 ok nm (t := 4) rfl rfl (sa_str st_ok (n := 0) rfl) (sa_pay (n := 5) nm rfl rfl (xf.p 5 (mB rfl)) (xf.only 5 (mB rfl)) rfl) rfl rfl rfl) .nil)))
  (b_cons (s_ret (v_ nm rfl rfl))
  b_nil)))

def s_law : Stmt := PySem.Challenge.pw_bytecuts_k02_whole_coding.main.body.getD 23 (.Pass ⟨0, 0, 0, 0⟩)
def N_law : List Str := [PySem.Str.ofString "_law_script", PySem.Str.ofString "_law_draws", PySem.Str.ofString "_law_codes_here", PySem.Str.ofString "_law_encoding", PySem.Str.ofString "_law_mode", PySem.Str.ofString "_law_given", PySem.Str.ofString "_law_text_here", PySem.Str.ofString "_law_known", PySem.Str.ofString "_law_k", PySem.Str.ofString "_law_letter"]
def p_law : List Str := [PySem.Str.ofString "_law_script"]
def t_law : List (Str × List Nat) := [(PySem.Str.ofString "one", [111, 110, 101]), (PySem.Str.ofString "strict", [115, 116, 114, 105, 99, 116]), (PySem.Str.ofString "replace", [114, 101, 112, 108, 97, 99, 101]), (PySem.Str.ofString "ignore", [105, 103, 110, 111, 114, 101]), (PySem.Str.ofString "", []), (PySem.Str.ofString "0123", [48, 49, 50, 51]), (PySem.Str.ofString "abcde?", [97, 98, 99, 100, 101, 63])]
theorem to_law : strC t_law = true := by decide +kernel
def a_law : Av := ⟨[], [4, 6, 5, 10, 12, 8, 13], [3], [8, 6], []⟩
theorem sc_law : FnScope N_law p_law (defScope s_law) := fns_of (by decide +kernel)
theorem nc_law : nmC N_law (defScope s_law) false [true, true, true, true, true, true, true, true, false, false] [true, true, true, true, true, true, true, true, false, false] [PySem.Str.ofString "_law_begin", PySem.Str.ofString "_law_codes", PySem.Str.ofString "Encoding", PySem.Str.ofString "range", PySem.Str.ofString "_law_draw", PySem.Str.ofString "_law_told", PySem.Str.ofString "_law_text", PySem.Str.ofString "_law_like", PySem.Str.ofString "_law_bytes"] = true := by decide +kernel
theorem bb_law {P : Program} {w : World} {K : PySem.W.Frag} {mg : Str → Option Value} {base : Heap} {ct : Nat → Addr} {Γ : Bc.Ctx} {k : Nat} {f : Addr} (cdv : Value) (A : Around) (outer : List Env) (s : Shared) (H : Hp) (E : XK)
    (ok : Ok (cxOf (L2.CX P w) P w K mg base N_law "law" (defScope s_law) f cdv A outer s H E) (tab ct) Γ (WXE E) k a_law) :
    PSs (cxOf (L2.CX P w) P w K mg base N_law "law" (defScope s_law) f cdv A outer s H E) (defBody s_law).tail (tB (tab ct) K Γ (WXE E) br_law) :=
  have st_ok := to_law
  have nm := nm_def nc_law
  (b_cons (set_ ok nm (n := 2) rfl rfl (call_ ok nm (f := 6) (j := 1) rfl rfl (a_cons (v_ nm rfl rfl) a_nil rfl) rfl rfl) rfl)
  (b_cons (set_ ok nm (n := 3) rfl rfl (new_ ok nm (f := 3) (j := 2) rfl rfl (a_cons (k_str st_ok (n := 0) rfl) (a_cons (v_ nm rfl rfl) a_nil rfl) rfl) rfl rfl) rfl)
  (b_cons (s_for ok (i_lst (e_lst (a_cons (k_str st_ok (n := 1) rfl) (a_cons (k_str st_ok (n := 2) rfl) (a_cons (k_str st_ok (n := 3) rfl) a_nil rfl) rfl) rfl) (by decide))) (tg1_ ok nm rfl rfl) (b_cons (set_ ok nm (n := 5) rfl rfl (join_ ok (k_str st_ok (n := 4) rfl) (a_cons (comp_ ok nm (vi' := [false, true, false, false, false, false, false, false, true, false]) (st' := [false, false, false, false, false, false, false, false, true, false]) (gl' := [PySem.Str.ofString "_law_draw"]) (own := [(PySem.Str.ofString "_law_k", 8)]) (show nmC N_law _ true _ _ _ = true from by decide +kernel) (rng1_ ok nm (j := 3) rfl (call_ ok nm (f := 5) (j := 4) rfl rfl (a_cons (v_ nm rfl rfl) (a_cons k_int a_nil rfl) rfl) rfl rfl) rfl) (show blkC N_law (defScope s_law) _ _ = true from by decide +kernel) rfl (fun _ _ _ _ _ ok nm => (tg1_ ok nm rfl rfl)) (fun _ _ _ _ _ ok nm => p0_) (fun _ _ _ _ _ ok nm => (sub_ ok (k_str st_ok (n := 5) rfl) (call_ ok nm (f := 5) (j := 0) rfl rfl (a_cons (v_ nm rfl rfl) (a_cons k_int a_nil rfl) rfl) rfl rfl) fun _ _ => rfl)) (fun _ => rfl)) a_nil rfl) rfl rfl rfl rfl rfl) rfl)
  (b_cons (s_ite (t_not (t_tru (call_ ok nm (f := 8) (j := 7) rfl rfl (a_cons (call_ ok nm (f := 10) (j := 5) rfl rfl (a_cons (v_ nm rfl rfl) (a_cons (v_ nm rfl rfl) (a_cons (v_ nm rfl rfl) (a_cons k_int a_nil rfl) rfl) rfl) rfl) rfl rfl) (a_cons (call_ ok nm (f := 12) (j := 6) rfl rfl (a_cons (v_ nm rfl rfl) (a_cons (v_ nm rfl rfl) (a_cons (v_ nm rfl rfl) a_nil rfl) rfl) rfl) rfl rfl) a_nil rfl) rfl) rfl rfl) fun _ => rfl)) (b_cons (s_ret k_bl)
  b_nil) b_nil)
  (b_cons (set_ ok nm (n := 6) rfl rfl (join_ ok (k_str st_ok (n := 4) rfl) (a_cons (comp_ ok nm (vi' := [false, true, false, false, false, false, false, false, true, false]) (st' := [false, false, false, false, false, false, false, false, true, false]) (gl' := [PySem.Str.ofString "_law_draw"]) (own := [(PySem.Str.ofString "_law_k", 8)]) (show nmC N_law _ true _ _ _ = true from by decide +kernel) (rng1_ ok nm (j := 3) rfl (call_ ok nm (f := 5) (j := 4) rfl rfl (a_cons (v_ nm rfl rfl) (a_cons k_int a_nil rfl) rfl) rfl rfl) rfl) (show blkC N_law (defScope s_law) _ _ = true from by decide +kernel) rfl (fun _ _ _ _ _ ok nm => (tg1_ ok nm rfl rfl)) (fun _ _ _ _ _ ok nm => p0_) (fun _ _ _ _ _ ok nm => (sub_ ok (k_str st_ok (n := 6) rfl) (call_ ok nm (f := 5) (j := 0) rfl rfl (a_cons (v_ nm rfl rfl) (a_cons k_int a_nil rfl) rfl) rfl rfl) fun _ _ => rfl)) (fun _ => rfl)) a_nil rfl) rfl rfl rfl rfl rfl) rfl)
  (b_cons (s_ite (t_not (t_tru (call_ ok nm (f := 8) (j := 7) rfl rfl (a_cons (call_ ok nm (f := 10) (j := 5) rfl rfl (a_cons (v_ nm rfl rfl) (a_cons (v_ nm rfl rfl) (a_cons (v_ nm rfl rfl) (a_cons k_int a_nil rfl) rfl) rfl) rfl) rfl rfl) (a_cons (call_ ok nm (f := 13) (j := 8) rfl rfl (a_cons (v_ nm rfl rfl) (a_cons (v_ nm rfl rfl) (a_cons (v_ nm rfl rfl) a_nil rfl) rfl) rfl) rfl rfl) a_nil rfl) rfl) rfl rfl) fun _ => rfl)) (b_cons (s_ret k_bl)
  b_nil) b_nil)
  (b_cons (set_ ok nm (n := 7) rfl rfl (join_ ok (k_str st_ok (n := 4) rfl) (a_cons (comp_ ok nm (vi' := [false, false, true, false, false, false, false, false, false, true]) (st' := [false, false, false, false, false, false, false, false, false, true]) (gl' := []) (own := [(PySem.Str.ofString "_law_letter", 9)]) (show nmC N_law _ true _ _ _ = true from by decide +kernel) (i_str (v_ nm rfl rfl)) (show blkC N_law (defScope s_law) _ _ = true from by decide +kernel) rfl (fun _ _ _ _ _ ok nm => (tg1_ ok nm rfl rfl)) (fun _ _ _ _ _ ok nm => (pts_one (tcmp_ ok (o := .in_) (v_ nm rfl rfl) (v_ nm rfl rfl) rfl))) (fun _ _ _ _ _ ok nm => (v_ nm rfl rfl)) (fun _ => rfl)) a_nil rfl) rfl rfl rfl rfl rfl) rfl)
  (b_cons (s_ite (tcmp_ ok (o := .ne) (e_meth ok (m := 6) (mB rfl) (v_ nm rfl rfl) (a_cons (e_meth ok (m := 8) (mB rfl) (v_ nm rfl rfl) (a_cons (v_ nm rfl rfl) (a_cons (k_str st_ok (n := 1) rfl) a_nil rfl) rfl) rfl rfl rfl) (a_cons (v_ nm rfl rfl) a_nil rfl) rfl) rfl rfl rfl) (v_ nm rfl rfl) rfl) (b_cons (s_ret k_bl)
  b_nil) b_nil)
  b_nil)))))) fun _ => rfl)
  (b_cons (s_ret k_bl)
  b_nil))))
end Bk
set_option Elab.async false
set_option linter.all false
set_option maxRecDepth 100000
set_option maxHeartbeats 4000000
namespace Bc
abbrev kF (Q : Post) (E : XPost) : Kont := { nx := fun _ h => Q .non h, rt := Q, bk := fun _ _ => False, ex := fun x _ h => E x h }
theorem wpF_of {Γ : Ctx} {n : Nat} {b : Stms} {vs : List Val} {h : Heap} {Q : Post} {E : XPost} (q : wpB Γ b (kF Q E) (startE n vs) h) : wpF Γ n b vs h Q E := q
def Stms.tl : Stms → Stms
  | .cons _ r => r
  | .nil => .nil
def Stms.hd : Stms → Stm
  | .cons s _ => s
  | .nil => .pass
/-- a for's or a while's text -/
def Stm.body : Stm → Stms
  | .for_ _ _ b => b
  | .while_ _ b => b
  | _ => .nil
/-! ### running a text: one rule a construct, to be applied from the front -/
section
variable {Γ : Ctx} {h : Heap} {env : Env} {Q : Post} {E : XPost} {K : Kont} {a b c e : Exp} {es : Exps} {t u : Tst} {v : Val}
theorem r_var {i : Nat} (e : env[i]?.join = some v) (q : Q v h) : wpE Γ (.var i) env h Q E := by simp only [wpE, e, onSome_some]; exact q
theorem r_lit (q : Q v h) : wpE Γ (.lit v) env h Q E := by simp only [wpE]; exact q
theorem r_glob {g : Nat} (e : Γ.glob g = some v) (q : Q v h) : wpE Γ (.glob g) env h Q E := by simp only [wpE, e, onSome_some]; exact q
theorem r_bin {o : BOp} (q : wpE Γ a env h (fun x h => wpE Γ b env h (fun y h => wBin o x y h Q) E) E) : wpE Γ (.bin o a b) env h Q E := by simp only [wpE]; exact q
theorem r_cmp {o : COp} (q : wpE Γ a env h (fun x h => wpE Γ b env h (fun y h => wCmp o x y h Q) E) E) : wpE Γ (.cmp o a b) env h Q E := by simp only [wpE]; exact q
theorem r_cmp2 {o o2 : COp} (q : wpE Γ a env h (fun x h => wpE Γ b env h (fun y h => wCmp o x y h fun r h => onB r fun r => ifC r (wpE Γ c env h (fun z h => wCmp o2 y z h Q) E) (Q (.bool false) h)) E) E) : wpE Γ (.cmp2 o o2 a b c) env h Q E := by simp only [wpE]; exact q
theorem r_not (q : wpE Γ a env h (fun x h => onB x fun b => Q (.bool (!b)) h) E) : wpE Γ (.not_ a) env h Q E := by simp only [wpE]; exact q
theorem r_and (q : wpE Γ a env h (fun x h => onB x fun c => ifC c (wpE Γ b env h Q E) (Q (.bool false) h)) E) : wpE Γ (.and_ a b) env h Q E := by simp only [wpE]; exact q
theorem r_or (q : wpE Γ a env h (fun x h => onB x fun c => ifC c (Q (.bool true) h) (wpE Γ b env h Q E)) E) : wpE Γ (.or_ a b) env h Q E := by simp only [wpE]; exact q
theorem r_ite (q : wpT Γ t env h (fun c h => ifC c (wpE Γ a env h Q E) (wpE Γ b env h Q E)) E) : wpE Γ (.ite t a b) env h Q E := by simp only [wpE]; exact q
theorem r_attr {f : Nat} (q : wpE Γ a env h (fun x h => wAttr x f h Q) E) : wpE Γ (.attr a f) env h Q E := by simp only [wpE]; exact q
theorem r_sub (q : wpE Γ a env h (fun x h => wpE Γ b env h (fun k h => wSub x k h Q) E) E) : wpE Γ (.sub a b) env h Q E := by simp only [wpE]; exact q
theorem r_slF (q : wpE Γ a env h (fun x h => wpE Γ b env h (fun k h => onI k fun i => wSlice (some i) none x h Q) E) E) : wpE Γ (.slF a b) env h Q E := by simp only [wpE]; exact q
theorem r_slT (q : wpE Γ a env h (fun x h => wpE Γ b env h (fun k h => onI k fun i => wSlice none (some i) x h Q) E) E) : wpE Γ (.slT a b) env h Q E := by simp only [wpE]; exact q
theorem r_slB (q : wpE Γ a env h (fun x h => wpE Γ b env h (fun k h => onI k fun i => wpE Γ c env h (fun l h => onI l fun j => wSlice (some i) (some j) x h Q) E) E) E) : wpE Γ (.slB a b c) env h Q E := by simp only [wpE]; exact q
theorem r_tup (q : wpEs Γ es env h (fun vs h => Q (.tup vs) h) E) : wpE Γ (.tup es) env h Q E := by simp only [wpE]; exact q
theorem r_lst (q : wpEs Γ es env h (fun vs h => ∀ p, h p = none → Q (.ref p) (upd h p (.lst vs))) E) : wpE Γ (.lst es) env h Q E := by simp only [wpE]; exact q
theorem r_dct (q : ∀ p, h p = none → Q (.ref p) (upd h p (.dct []))) : wpE Γ (.dct .nil) env h Q E := by simp only [wpE, true_and]; exact q
theorem r_call {f : Nat} {sp : Spec} (e : Γ.fn f = sp) (q : wpEs Γ es env h (fun vs h => sp vs h Q E) E) : wpE Γ (.call f es) env h Q E := by simp only [wpE, e]; exact q
theorem r_mk {f : Nat} {sp : Spec} (e : Γ.new f = sp) (q : wpEs Γ es env h (fun vs h => sp vs h Q E) E) : wpE Γ (.mk f es) env h Q E := by simp only [wpE, e]; exact q
theorem r_meth {m : Nat} (q : wpE Γ a env h (fun x h => onRef x fun a => onIns (h a) fun c _ => Γ.has c m = true ∧ wpEs Γ es env h (fun vs h => Γ.meth c m (.ref a :: vs) h Q E) E) E) : wpE Γ (.meth a m es) env h Q E := by simp only [wpE]; exact q
theorem r_bi {o : BI} (q : wpEs Γ es env h (fun vs h => wBi o vs h Q) E) : wpE Γ (.bi o es) env h Q E := by simp only [wpE]; exact q
theorem r_bm {o : BM} (q : wpE Γ a env h (fun x h => bmOk o x h ∧ wpEs Γ es env h (fun vs h => wBm o x vs h Q) E) E) : wpE Γ (.bm a o es) env h Q E := by simp only [wpE]; exact q
theorem r_isin {ty : Ty} (q : wpE Γ a env h (fun x h => onSome (tyIs ty x h) fun b => Q (.bool b) h) E) : wpE Γ (.isin a ty) env h Q E := by simp only [wpE]; exact q
theorem r_nil {Q : List Val → Heap → Prop} (q : Q [] h) : wpEs Γ .nil env h Q E := by simp only [wpEs]; exact q
theorem r_cons {Q : List Val → Heap → Prop} (q : wpE Γ e env h (fun v h => wpEs Γ es env h (fun vs h => Q (v :: vs) h) E) E) : wpEs Γ (.cons e es) env h Q E := by simp only [wpEs]; exact q
section
variable {Q : Bool → Heap → Prop}
theorem rt_yes (q : Q true h) : wpT Γ .yes env h Q E := by simp only [wpT]; exact q
theorem rt_cmp {o : COp} (q : wpE Γ a env h (fun x h => wpE Γ b env h (fun y h => wCmp o x y h fun r h => onB r fun c => Q c h) E) E) : wpT Γ (.cmp o a b) env h Q E := by simp only [wpT]; exact q
theorem rt_cmp2 {o o2 : COp} (q : wpE Γ a env h (fun x h => wpE Γ b env h (fun y h => wCmp o x y h fun r h => onB r fun r => ifC r (wpE Γ c env h (fun z h => wCmp o2 y z h fun r h => onB r fun c => Q c h) E) (Q false h)) E) E) : wpT Γ (.cmp2 o o2 a b c) env h Q E := by simp only [wpT]; exact q
theorem rt_tru (q : wpE Γ a env h (fun x h => wTru x h Q) E) : wpT Γ (.tru a) env h Q E := by simp only [wpT]; exact q
theorem rt_not (q : wpT Γ t env h (fun c h => Q (!c) h) E) : wpT Γ (.not_ t) env h Q E := by simp only [wpT]; exact q
theorem rt_and (q : wpT Γ t env h (fun c h => ifC c (wpT Γ u env h Q E) (Q false h)) E) : wpT Γ (.and_ t u) env h Q E := by simp only [wpT]; exact q
theorem rt_or (q : wpT Γ t env h (fun c h => ifC c (Q true h) (wpT Γ u env h Q E)) E) : wpT Γ (.or_ t u) env h Q E := by simp only [wpT]; exact q
theorem rt_bool {c : Bool} (q : Q c h) : wTru (.bool c) h Q := q
theorem rt_non (q : Q false h) : wTru .non h Q := q
theorem rt_int {i : Int} (q : Q (i != 0) h) : wTru (.int i) h Q := q
theorem rt_tup {xs : List Val} (q : Q (!xs.isEmpty) h) : wTru (.tup xs) h Q := q
theorem rt_lst {p : Nat} {xs : List Val} (e : rd h p = some (.lst xs)) (q : Q (!xs.isEmpty) h) : wTru (.ref p) h Q := by unfold wTru; simp only [e]; exact q
end
theorem rc_true {t f : Prop} (q : t) : ifC true t f := q
theorem rc_false {t f : Prop} (q : f) : ifC false t f := q
theorem rc_split {c : Bool} {t f : Prop} (q : c = true → t) (r : c = false → f) : ifC c t f := by cases c <;> simp only [ifC_true, ifC_false]; exact r rfl; exact q rfl
theorem rc_dec {c : Prop} [Decidable c] {t f : Prop} (q : c → t) (r : ¬ c → f) : ifC (decide c) t f := by by_cases hc : c <;> simp only [hc, decide_true, decide_false, ifC_true, ifC_false]; exact q hc; exact r hc
theorem rc_ndec {c : Prop} [Decidable c] {t f : Prop} (q : ¬ c → t) (r : c → f) : ifC (!decide c) t f := by by_cases hc : c <;> simp only [hc, decide_true, decide_false, Bool.not_true, Bool.not_false, ifC_true, ifC_false]; exact r hc; exact q hc
theorem rc_nt {t f : Prop} (q : f) : ifC (!true) t f := q
theorem rc_nf {t f : Prop} (q : t) : ifC (!false) t f := q
theorem rc_not {c : Bool} {t f : Prop} (q : ifC c f t) : ifC (!c) t f := by cases c <;> exact q
theorem ro_b {c : Bool} {Q : Bool → Prop} (q : Q c) : onB (.bool c) Q := q
theorem ro_i {c : Int} {Q : Int → Prop} (q : Q c) : onI (.int c) Q := q
theorem ro_r {c : Nat} {Q : Nat → Prop} (q : Q c) : onRef (.ref c) Q := q
theorem ro_t {c : List Val} {Q : List Val → Prop} (q : Q c) : onTup (.tup c) Q := q
theorem ro_some {α : Type} {o : Option α} {x : α} {Q : α → Prop} (e : o = some x) (q : Q x) : onSome o Q := by rw [e]; exact q
theorem ro_lst {o : Option Obj} {xs : List Val} {Q : List Val → Prop} (e : o = some (.lst xs)) (q : Q xs) : onLst o Q := by rw [e]; exact q
theorem ro_dct {o : Option Obj} {xs : List (Val × Val)} {Q : List (Val × Val) → Prop} (e : o = some (.dct xs)) (q : Q xs) : onDct o Q := by rw [e]; exact q
theorem ro_ins {o : Option Obj} {cl : Nat} {fs : List (Nat × Val)} {Q : Nat → List (Nat × Val) → Prop} (e : o = some (.ins cl fs)) (q : Q cl fs) : onIns o Q := by rw [e]; exact q
section
variable {i j : Int} {s u : List Nat} {xs ys : List Val} {p k : Nat} {kvs : List (Val × Val)} {x y w : Val}
theorem b_addI (q : Q (.int (i + j)) h) : wBin .add (.int i) (.int j) h Q := q
theorem b_subI (q : Q (.int (i - j)) h) : wBin .sub (.int i) (.int j) h Q := q
theorem b_mulI (l : -(2 ^ 64) < j ∧ j < 2 ^ 64) (q : Q (.int (i * j)) h) : wBin .mul (.int i) (.int j) h Q := ⟨l, q⟩
theorem b_div (l : 0 < j ∧ j < 1073741824) (q : Q (.int (i / j)) h) : wBin .fdiv (.int i) (.int j) h Q := ⟨l, q⟩
theorem b_mod (l : 0 < j) (q : Q (.int (i % j)) h) : wBin .mod (.int i) (.int j) h Q := ⟨l, q⟩
theorem b_pow (l : 0 ≤ j ∧ j ≤ 1000 ∧ i.natAbs < 2 ^ 64) (q : Q (.int (i ^ j.toNat)) h) : wBin .pow (.int i) (.int j) h Q := ⟨l, q⟩
theorem b_addS (l : s.length + u.length ≤ sizeMax) (q : Q (.str (s ++ u)) h) : wBin .add (.str s) (.str u) h Q := ⟨l, q⟩
theorem b_addT (l : xs.length + ys.length ≤ sizeMax) (q : Q (.tup (xs ++ ys)) h) : wBin .add (.tup xs) (.tup ys) h Q := ⟨l, q⟩
theorem b_addL {p r : Nat} (e1 : h p = some (.lst xs)) (e2 : h r = some (.lst ys)) (l : xs.length + ys.length ≤ sizeMax) (q : ∀ p, h p = none → Q (.ref p) (upd h p (.lst (xs ++ ys)))) : wBin .add (.ref p) (.ref r) h Q := by
  unfold wBin; simp only [e1, e2]; exact ⟨l, q⟩
theorem q_ii (q : Q (.bool (decide (i = j))) h) : wCmp .eq (.int i) (.int j) h Q := by rw [← Bool.false_bne (decide (i = j))] at q; exact q
theorem q_ss (q : Q (.bool (decide (s = u))) h) : wCmp .eq (.str s) (.str u) h Q := by rw [← Bool.false_bne (decide (s = u))] at q; exact q
theorem n_ii (q : Q (.bool (!decide (i = j))) h) : wCmp .ne (.int i) (.int j) h Q := by rw [← Bool.true_bne (decide (i = j))] at q; exact q
theorem n_ss (q : Q (.bool (!decide (s = u))) h) : wCmp .ne (.str s) (.str u) h Q := by rw [← Bool.true_bne (decide (s = u))] at q; exact q
theorem q_ns (q : Q (.bool false) h) : wCmp .eq .non (.str s) h Q := q
theorem q_sn (q : Q (.bool false) h) : wCmp .eq (.str s) .non h Q := q
theorem q_dat {n : Dt} {m : Dt} (e1 : dat h 8 x = some n) (e2 : dat h 8 y = some m) (q : Q (.bool (eqD n m)) h) : wCmp .eq x y h Q := by
  unfold wCmp wEq; simp only [e1, e2, Bool.false_bne]; exact q
theorem n_dat {n : Dt} {m : Dt} (e1 : dat h 8 x = some n) (e2 : dat h 8 y = some m) (q : Q (.bool (!eqD n m)) h) : wCmp .ne x y h Q := by
  unfold wCmp wEq; simp only [e1, e2, Bool.true_bne]; exact q
theorem l_lt (q : Q (.bool (decide (i < j))) h) : wCmp .lt (.int i) (.int j) h Q := q
theorem l_le (q : Q (.bool (decide (i ≤ j))) h) : wCmp .le (.int i) (.int j) h Q := q
theorem l_gt (q : Q (.bool (decide (j < i))) h) : wCmp .gt (.int i) (.int j) h Q := q
theorem l_ge (q : Q (.bool (decide (j ≤ i))) h) : wCmp .ge (.int i) (.int j) h Q := q
theorem i_non (q : Q (.bool true) h) : wCmp .is_ .non .non h Q := q
theorem i_str (q : Q (.bool false) h) : wCmp .is_ (.str s) .non h Q := q
theorem i_int (q : Q (.bool false) h) : wCmp .is_ (.int i) .non h Q := q
theorem i_ref (q : Q (.bool false) h) : wCmp .is_ (.ref p) .non h Q := q
theorem i_tup' (q : Q (.bool false) h) : wCmp .is_ (.tup xs) .non h Q := q
theorem j_non (q : Q (.bool false) h) : wCmp .isnot .non .non h Q := q
theorem j_str (q : Q (.bool true) h) : wCmp .isnot (.str s) .non h Q := q
theorem j_int (q : Q (.bool true) h) : wCmp .isnot (.int i) .non h Q := q
theorem j_ref (q : Q (.bool true) h) : wCmp .isnot (.ref p) .non h Q := q
theorem j_tup (q : Q (.bool true) h) : wCmp .isnot (.tup xs) .non h Q := q
theorem m_str {c : Nat} (q : Q (.bool (decide (c ∈ s))) h) : wCmp .in_ (.str [c]) (.str s) h Q := by rw [← Bool.false_bne (decide (c ∈ s))] at q; exact q
theorem mn_str {c : Nat} (q : Q (.bool (!decide (c ∈ s))) h) : wCmp .notin (.str [c]) (.str s) h Q := by rw [← Bool.true_bne (decide (c ∈ s))] at q; exact q
theorem m_dct (e : rd h p = some (.dct kvs)) (l : isKey x = true) (q : Q (.bool (dget kvs x).isSome) h) : wCmp .in_ x (.ref p) h Q := by
  unfold wCmp wIn; simp only [e, Bool.false_bne]; exact ⟨l, q⟩
theorem mn_dct (e : rd h p = some (.dct kvs)) (l : isKey x = true) (q : Q (.bool (!(dget kvs x).isSome)) h) : wCmp .notin x (.ref p) h Q := by
  unfold wCmp wIn; simp only [e, Bool.true_bne]; exact ⟨l, q⟩
theorem m_lst (e : rd h p = some (.lst xs)) (l : isFlat x = true) (l2 : xs.all isFlat = true) (q : Q (.bool (inF x xs)) h) : wCmp .in_ x (.ref p) h Q := by
  unfold wCmp wIn; simp only [e, Bool.false_bne]; exact ⟨l, l2, q⟩
theorem mn_lst (e : rd h p = some (.lst xs)) (l : isFlat x = true) (l2 : xs.all isFlat = true) (q : Q (.bool (!inF x xs)) h) : wCmp .notin x (.ref p) h Q := by
  unfold wCmp wIn; simp only [e, Bool.true_bne]; exact ⟨l, l2, q⟩
theorem m_tup (l : isFlat x = true) (l2 : xs.all isFlat = true) (q : Q (.bool (inF x xs)) h) : wCmp .in_ x (.tup xs) h Q := by
  unfold wCmp wIn; simp only [Bool.false_bne]; exact ⟨l, l2, q⟩
theorem mn_tup (l : isFlat x = true) (l2 : xs.all isFlat = true) (q : Q (.bool (!inF x xs)) h) : wCmp .notin x (.tup xs) h Q := by
  unfold wCmp wIn; simp only [Bool.true_bne]; exact ⟨l, l2, q⟩
theorem s_lst (e : rd h p = some (.lst xs)) (e1 : ixOf i xs.length = some k) (e2 : xs[k]? = some w) (q : Q w h) : wSub (.ref p) (.int i) h Q := by unfold wSub; simp only [e, e1, e2]; exact q
theorem s_dct (e : rd h p = some (.dct kvs)) (l : isKey x = true) (e2 : dget kvs x = some w) (q : Q w h) : wSub (.ref p) x h Q := by unfold wSub; simp only [e, e2]; exact ⟨l, q⟩
theorem s_tup (e1 : ixOf i xs.length = some k) (e2 : xs[k]? = some w) (q : Q w h) : wSub (.tup xs) (.int i) h Q := by unfold wSub; simp only [e1, e2]; exact q
theorem s_str {c : Nat} (l : s.length ≤ sizeMax) (e1 : ixOf i s.length = some k) (e2 : s[k]? = some c) (q : Q (.str [c]) h) : wSub (.str s) (.int i) h Q := by unfold wSub; simp only [e1, e2]; exact ⟨l, q⟩
theorem a_ins {cl f : Nat} {fs : List (Nat × Val)} (e : h p = some (.ins cl fs)) (e2 : fget fs f = some w) (q : Q w h) : wAttr (.ref p) f h Q := by unfold wAttr; simp only [onRef_ref, e, onIns_ins, e2, onSome_some]; exact q
theorem n_lst (e : rd h p = some (.lst xs)) (q : Q (.int xs.length) h) : wBi .len [.ref p] h Q := by
  unfold rd at e
  unfold wBi
  cases z : h p with
  | none => rw [z] at e; cases e
  | some o =>
    rw [z] at e
    cases o <;> simp [Obj.peel] at e
    · subst e; simp only [z]; exact q
    · subst e; simp only [z]; exact q
theorem n_dct (e : h p = some (.dct kvs)) (q : Q (.int kvs.length) h) : wBi .len [.ref p] h Q := by unfold wBi; simp only [e]; exact q
theorem n_str (l : s.length ≤ sizeMax) (q : Q (.int s.length) h) : wBi .len [.str s] h Q := ⟨l, q⟩
theorem n_tup (q : Q (.int xs.length) h) : wBi .len [.tup xs] h Q := q
theorem n_int (q : Q (.int i) h) : wBi .int [.int i] h Q := q
theorem n_intb {c : Bool} (q : Q (.int (if c then 1 else 0)) h) : wBi .int [.bool c] h Q := q
theorem n_min (q : Q (.int (if j < i then j else i)) h) : wBi .min2 [.int i, .int j] h Q := q
theorem n_list (e : rd h p = some (.lst xs)) (q : ∀ p, h p = none → Q (.ref p) (upd h p (.lst xs))) : wBi .list [.ref p] h Q := by unfold wBi; simp only [e, onLst_lst]; exact q
theorem n_listT (q : ∀ p, h p = none → Q (.ref p) (upd h p (.lst xs))) : wBi .list [.tup xs] h Q := q
theorem n_listS (l : s.length ≤ sizeMax) (q : ∀ p, h p = none → Q (.ref p) (upd h p (.lst (signs s)))) : wBi .list [.str s] h Q := ⟨l, q⟩
theorem n_tuple (e : rd h p = some (.lst xs)) (q : Q (.tup xs) h) : wBi .tuple [.ref p] h Q := by unfold wBi; simp only [e, onLst_lst]; exact q
theorem n_dict (e : rd h p = some (.dct kvs)) (q : ∀ p, h p = none → Q (.ref p) (upd h p (.dct kvs))) : wBi .dict [.ref p] h Q := by unfold wBi; simp only [e, onDct_dct]; exact q
theorem n_all {bs : List Bool} (e : rd h p = some (.lst xs)) (e2 : allBool xs = some bs) (q : Q (.bool (bs.all id)) h) : wBi .all [.ref p] h Q := by unfold wBi; simp only [e, onLst_lst, e2, onSome_some]; exact q
theorem n_any {bs : List Bool} (e : rd h p = some (.lst xs)) (e2 : allBool xs = some bs) (q : Q (.bool (bs.any id)) h) : wBi .any [.ref p] h Q := by unfold wBi; simp only [e, onLst_lst, e2, onSome_some]; exact q
theorem set_l {Q : Heap → Prop} (e : h p = some (.lst xs)) (e1 : ixOf i xs.length = some k) (q : Q (upd h p (.lst (xs.set k w)))) : wSet (.ref p) (.int i) w h Q := by
  unfold wSet; simp only [e, onI_int, e1, onSome_some]; exact q
end
theorem ms_set {i : Nat} {a : Exp} (q : wpE Γ a env h (fun v h => K.nx (env.set i (some v)) h) (fun x h => K.ex x env h)) : wpS Γ (.set i a) K env h := by simp only [wpS]; exact q
theorem ms_unpT {is : List Nat} (q : wpE Γ e env h (fun v h => onTup v fun vs => onSome (setMany env is vs) fun env' => K.nx env' h) (fun x h => K.ex x env h)) : wpS Γ (.unpT is e) K env h := by simp only [wpS]; exact q
theorem ms_unpL {is : List Nat} (q : wpE Γ e env h (fun v h => onRef v fun a => onLst (rd h a) fun vs => onSome (setMany env is vs) fun env' => K.nx env' h) (fun x h => K.ex x env h)) : wpS Γ (.unpL is e) K env h := by simp only [wpS]; exact q
theorem ms_par2 {i j : Nat} (q : wpEs Γ (.cons a (.cons b .nil)) env h (fun vs h => onTwo vs fun v w => K.nx ((env.set i (some v)).set j (some w)) h) (fun x h => K.ex x env h)) : wpS Γ (.par2 i j a b) K env h := by simp only [wpS]; exact q
theorem ms_sset (q : wpE Γ e env h (fun v h => wpE Γ a env h (fun d h => wpE Γ b env h (fun k h => wSet d k v h fun h => K.nx env h) (fun x h => K.ex x env h)) (fun x h => K.ex x env h)) (fun x h => K.ex x env h)) : wpS Γ (.sset a b e) K env h := by simp only [wpS]; exact q
theorem ms_aset {f : Nat} (q : wpE Γ e env h (fun v h => wpE Γ a env h (fun d h => onRef d fun a => onIns (h a) fun c fs => fs.length < 100 ∧ K.nx env (upd h a (.ins c (fput f v fs)))) (fun x h => K.ex x env h)) (fun x h => K.ex x env h)) : wpS Γ (.aset a f e) K env h := by simp only [wpS]; exact q
theorem ms_aug {i : Nat} {x : Val} (e0 : env[i]?.join = some x) (q : wpE Γ e env h (fun y h => onI x fun a => onI y fun b => True ∧ K.nx (env.set i (some (.int (a + b)))) h) (fun x h => K.ex x env h)) : wpS Γ (.aug i .add e) K env h := by simp only [wpS, e0, onSome_some]; exact q
theorem ms_exp (q : wpE Γ e env h (fun _ h => K.nx env h) (fun x h => K.ex x env h)) : wpS Γ (.exp e) K env h := by simp only [wpS]; exact q
theorem ms_ret (q : wpE Γ e env h K.rt (fun x h => K.ex x env h)) : wpS Γ (.ret e) K env h := by simp only [wpS]; exact q
theorem ms_retN (q : K.rt .non h) : wpS Γ .retN K env h := by simp only [wpS]; exact q
theorem ms_ite {x y : Stms} (q : wpT Γ t env h (fun c h => ifC c (wpB Γ x K env h) (wpB Γ y K env h)) (fun x h => K.ex x env h)) : wpS Γ (.ite t x y) K env h := by simp only [wpS]; exact q
theorem ms_brk (q : K.bk env h) : wpS Γ .brk K env h := by simp only [wpS]; exact q
theorem ms_pass (q : K.nx env h) : wpS Γ .pass K env h := by simp only [wpS]; exact q
theorem ms_raise {cl : Nat} (q : wpEs Γ es env h (fun vs h => raised cl vs h fun x h => K.ex x env h) (fun x h => K.ex x env h)) : wpS Γ (.raise cl es) K env h := by simp only [wpS]; exact q
theorem mb_nil (q : K.nx env h) : wpB Γ .nil K env h := by simp only [wpB]; exact q
theorem mb_cons {s : Stm} {r : Stms} (q : wpS Γ s { K with nx := fun env h => wpB Γ r K env h } env h) : wpB Γ (.cons s r) K env h := by simp only [wpB]; exact q
end
section
variable {h : Heap} {a : Nat} {o : Obj} {i : Int} {n : Nat}
theorem rd_lst {xs : List Val} (e : h a = some (.lst xs)) : rd h a = some (.lst xs) := by unfold rd; rw [e]; rfl
theorem rd_dct {xs : List (Val × Val)} (e : h a = some (.dct xs)) : rd h a = some (.dct xs) := by unfold rd; rw [e]; rfl
theorem rd_frz (e : h a = some (.frz o)) : rd h a = some o := by unfold rd; rw [e]; rfl
theorem ix_pos {k : Nat} (hk : k < n) : ixOf (k : Int) n = some k := by
  unfold ixOf
  rw [if_pos (by omega), if_pos (by omega), Int.toNat_natCast]
theorem ix_int (h0 : 0 ≤ i) (hk : i < n) : ixOf i n = some i.toNat := by
  unfold ixOf
  rw [if_pos h0, if_pos hk]
end
/-! ### methods of lists, texts, dicts -/
section
variable {h : Heap} {p k : Nat} {xs : List Val} {Q : Post} {i : Int} {w v x : Val} {kvs : List (Val × Val)}
theorem ok_append (e : h p = some (.lst xs)) : bmOk .append (.ref p) h := by unfold bmOk; simp only [e, onLst_lst]
theorem ok_pop (e : h p = some (.lst xs)) : bmOk .pop (.ref p) h := by unfold bmOk; simp only [e, onLst_lst]
theorem ok_popAt (e : h p = some (.lst xs)) : bmOk .popAt (.ref p) h := by unfold bmOk; simp only [e, onLst_lst]
theorem ok_insert (e : h p = some (.lst xs)) : bmOk .insert (.ref p) h := by unfold bmOk; simp only [e, onLst_lst]
theorem ok_get (e : rd h p = some (.dct kvs)) : bmOk .get (.ref p) h := by unfold bmOk; simp only [e, onDct_dct]
theorem bm_append (e : h p = some (.lst xs)) (l : xs.length < sizeMax) (q : Q .non (upd h p (.lst (xs ++ [v])))) : wBm .append (.ref p) [v] h Q := by unfold wBm; simp only [e, onLst_lst]; exact ⟨l, q⟩
theorem bm_popAt (e : h p = some (.lst xs)) (e1 : ixOf i xs.length = some k) (e2 : xs[k]? = some w) (q : Q w (upd h p (.lst (xs.eraseIdx k)))) : wBm .popAt (.ref p) [.int i] h Q := by
  unfold wBm; simp only [e, onLst_lst, e1, onSome_some, e2]; exact q
theorem bm_join {s : List Nat} {ys : List (List Nat)} (e : itemsOf x h = some xs) (e2 : allStr xs = some ys) (l : (ys.map List.length).sum + ys.length * s.length ≤ sizeMax) (q : Q (.str (joinS s ys)) h) : wBm .join (.str s) [x] h Q := by
  unfold wBm; simp only [e, onSome_some, e2]; exact ⟨l, q⟩
theorem bm_starts {s t : List Nat} (q : Q (.bool (isPre t s)) h) : wBm .startswith (.str s) [.str t] h Q := q
theorem bm_get (e : rd h p = some (.dct kvs)) (l : isKey x = true) (q : Q ((dget kvs x).getD .non) h) : wBm .get (.ref p) [x] h Q := by unfold wBm; simp only [e, onDct_dct]; exact ⟨l, q⟩
theorem set_d {Q : Heap → Prop} (e : h p = some (.dct kvs)) (l : isKey x = true) (l2 : kvs.length < sizeMax) (q : Q (upd h p (.dct (dput x w kvs)))) : wSet (.ref p) x w h Q := by
  unfold wSet; simp only [e]; exact ⟨l, l2, q⟩
theorem sl_lst {lo hi : Option Int} (e : rd h p = some (.lst xs)) (q : ∀ p, h p = none → Q (.ref p) (upd h p (.lst (cutL xs lo hi)))) : wSlice lo hi (.ref p) h Q := by
  unfold wSlice; simp only [e]; exact q
theorem sl_str {lo hi : Option Int} {s : List Nat} (l : s.length ≤ sizeMax) (q : Q (.str (cutL s lo hi)) h) : wSlice lo hi (.str s) h Q := ⟨l, q⟩
end
/-! ### loops -/
theorem goes_of {S : Type} {ok : S → Prop} {turn : Val → S → (S → Prop) → Prop} {done : S → Prop} {items : List Val} {s : S} (I : Nat → S → Prop) (h0 : I 0 s) (hok : ∀ i s, i ≤ items.length → I i s → ok s)
    (hs : ∀ i v s (K : S → Prop), items[i]? = some v → I i s → (∀ s', I (i + 1) s' → K s') → turn v s K) (hd : ∀ s, I items.length s → done s) : goes ok turn done items s := by
  have key : ∀ (n i : Nat) (s : S), items.length = i + n → I i s → goes ok turn done (items.drop i) s := by
    intro n
    induction n with
    | zero =>
      intro i s e hi
      have e' : i = items.length := by omega
      subst e'
      rw [List.drop_length]
      exact ⟨hok _ s (Nat.le_refl _) hi, hd s hi⟩
    | succ n ih =>
      intro i s e hi
      have hl : i < items.length := by omega
      rw [List.drop_eq_getElem_cons hl]
      exact ⟨hok i s (by omega) hi, hs i _ s _ (List.getElem?_eq_getElem hl) hi fun s' hs' => ih (i + 1) s' (by omega) hs'⟩
  exact key items.length 0 s (by omega) h0
abbrev kL (l : Option Nat) (h0 : Heap) (K : Kont) (N : Env → Heap → Prop) : Kont :=
  { nx := N, rt := fun v h' => unlockQ l h0 (fun h => K.rt v h) h', bk := fun env h' => unlockQ l h0 (fun h => K.nx env h) h', ex := fun x env h' => l = none ∧ K.ex x env h' }
section
variable {Γ : Ctx} {h : Heap} {env : Env} {E : XPost} {K : Kont} {a b e : Exp} {is : List Nat} {bd : Stms} {t : Tst} {Q : Post}
/-- a for over what is not locked -/
theorem for_of {W : Walk} (hl : W.lock = none) (I : Nat → Env → Heap → Prop) (h0 : I 0 env h) (hok : ∀ i env h, i ≤ W.items.length → I i env h → W.ok h)
    (hs : ∀ i v env h (N : Env → Heap → Prop), W.items[i]? = some v → I i env h → (∀ env h, I (i + 1) env h → N env h) → onSome (bindT is v env) fun env' => wpB Γ bd { nx := N, rt := K.rt, bk := K.nx, ex := fun x env h => (none : Option Nat) = none ∧ K.ex x env h } env' h)
    (hd : ∀ env h, I W.items.length env h → K.nx env h) :
    goes (S := Env × Heap) (fun s => W.ok s.2) (fun v s N => onSome (bindT is v s.1) fun env' => wpB Γ bd (kL W.lock h K fun env h => N (env, h)) env' s.2) (fun s => unlockQ W.lock h (fun h => K.nx s.1 h) s.2) W.items (env, lockH W.lock h) := by
  rw [hl]
  refine goes_of (fun i s => I i s.1 s.2) h0 (fun i s hi h => hok i s.1 s.2 hi h) (fun i v s N hv hi hN => ?_) fun s hi => hd s.1 s.2 hi
  exact hs i v s.1 s.2 (fun env h => N (env, h)) hv hi fun env h z => hN (env, h) z
/-- a for over a dict -/
theorem for_dct {p : Nat} {kvs : List (Val × Val)} (hp : h p = some (.dct kvs)) (I : Nat → Env → Heap → Prop) (h0 : I 0 env (upd h p (.frz (.dct kvs)))) (hok : ∀ i env h, i ≤ kvs.length → I i env h → h p = some (.frz (.dct kvs)))
    (hs : ∀ i v env h1 (N : Env → Heap → Prop), (keysOf kvs)[i]? = some v → I i env h1 → (∀ env h, I (i + 1) env h → N env h) → onSome (bindT is v env) fun env' => wpB Γ bd (kL (some p) h K N) env' h1)
    (hd : ∀ env h, I kvs.length env h → K.nx env (upd h p (.dct kvs))) :
    goes (S := Env × Heap) (fun s => (Walk.mk (keysOf kvs) (fun h => h p = some (.frz (.dct kvs))) (some p)).ok s.2) (fun v s N => onSome (bindT is v s.1) fun env' => wpB Γ bd (kL (some p) h K fun env h => N (env, h)) env' s.2) (fun s => unlockQ (some p) h (fun h => K.nx s.1 h) s.2) (keysOf kvs) (env, lockH (some p) h) := by
  have e : lockH (some p) h = upd h p (.frz (.dct kvs)) := by unfold lockH; simp only [hp]
  have hk : (keysOf kvs).length = kvs.length := by unfold keysOf; rw [List.length_map]
  rw [e]
  refine goes_of (fun i s => I i s.1 s.2) h0 (fun i s hi h => hok i s.1 s.2 (by rw [hk] at hi; exact hi) h) (fun i v s N hv hi hN => ?_) fun s hi => ?_
  · exact hs i v s.1 s.2 (fun env h => N (env, h)) hv hi fun env h z => hN (env, h) z
  · rw [hk] at hi
    unfold unlockQ
    simp only [hp]
    exact ⟨hok _ _ _ (Nat.le_refl _) hi, hd _ _ hi⟩
theorem ms_for {it : Itr} (q : wpI Γ it env h (fun W h => goes (S := Env × Heap) (fun s => W.ok s.2) (fun v s N => onSome (bindT is v s.1) fun env' => wpB Γ bd (kL W.lock h K fun env h => N (env, h)) env' s.2) (fun s => unlockQ W.lock h (fun h => K.nx s.1 h) s.2) W.items (env, lockH W.lock h)) (fun x h => K.ex x env h)) :
    wpS Γ (.for_ is it bd) K env h := by simp only [wpS]; exact q
theorem ms_while {t : Tst} (I : Nat → Env → Heap → Prop) (h0 : ∃ m, I m env h) (q : ∀ m env h, I m env h → wpT Γ t env h (fun c h => ifC c (wpB Γ bd { K with nx := fun env h => ∃ m', m' < m ∧ I m' env h, bk := K.nx } env h) (K.nx env h)) (fun x h => K.ex x env h)) :
    wpS Γ (.while_ t bd) K env h := by simp only [wpS]; exact ⟨I, h0, q⟩
section
variable {R : Walk → Heap → Prop} {p : Nat} {xs : List Val} {kvs : List (Val × Val)}
theorem w_lst (q : wpE Γ a env h (fun x h => wkL id x h fun W => R W h) E) : wpI Γ (.lst a) env h R E := by simp only [wpI]; exact q
theorem w_tup (q : wpE Γ a env h (fun x h => wkT id x fun W => R W h) E) : wpI Γ (.tup a) env h R E := by simp only [wpI]; exact q
theorem w_str (q : wpE Γ a env h (fun x h => wkS id x fun W => R W h) E) : wpI Γ (.str a) env h R E := by simp only [wpI]; exact q
theorem w_dct (q : wpE Γ a env h (fun x h => wkD x h fun W => R W h) E) : wpI Γ (.dct a) env h R E := by simp only [wpI]; exact q
theorem w_rng1 (q : wpE Γ a env h (fun x h => onI x fun j => (-(2 ^ 62) ≤ j ∧ j < 2 ^ 62) ∧ R ⟨rangeL 0 j.toNat, fun _ => True, none⟩ h) E) : wpI Γ (.rng1 a) env h R E := by simp only [wpI]; exact q
theorem w_rng2 (q : wpE Γ a env h (fun x h => wpE Γ b env h (fun y h => onI x fun i => onI y fun j => (-(2 ^ 62) ≤ i ∧ i < 2 ^ 62 ∧ -(2 ^ 62) ≤ j ∧ j < 2 ^ 62) ∧ R ⟨rangeL i (j - i).toNat, fun _ => True, none⟩ h) E) E) : wpI Γ (.rng2 a b) env h R E := by simp only [wpI]; exact q
theorem w_enL (q : wpE Γ a env h (fun x h => wkL (zipIx 0) x h fun W => R W h) E) : wpI Γ (.enumL a) env h R E := by simp only [wpI]; exact q
theorem w_enT (q : wpE Γ a env h (fun x h => wkT (zipIx 0) x fun W => R W h) E) : wpI Γ (.enumT a) env h R E := by simp only [wpI]; exact q
theorem w_enS (q : wpE Γ a env h (fun x h => wkS (zipIx 0) x fun W => R W h) E) : wpI Γ (.enumS a) env h R E := by simp only [wpI]; exact q
theorem k_lst {f : List Val → List Val} {R : Walk → Prop} (e : rd h p = some (.lst xs)) (q : R ⟨f xs, fun h => rd h p = some (.lst xs), none⟩) : wkL f (.ref p) h R := by unfold wkL; simp only [onRef_ref, e, onLst_lst]; exact q
theorem k_tup {f : List Val → List Val} {R : Walk → Prop} (q : R ⟨f xs, fun _ => True, none⟩) : wkT f (.tup xs) R := q
theorem k_str {f : List Val → List Val} {R : Walk → Prop} {s : List Nat} (q : R ⟨f (signs s), fun _ => True, none⟩) : wkS f (.str s) R := q
theorem k_dct {R : Walk → Prop} (e : h p = some (.dct kvs)) (q : R ⟨keysOf kvs, fun h => h p = some (.frz (.dct kvs)), some p⟩) : wkD (.ref p) h R := by unfold wkD; simp only [onRef_ref, e]; exact q
theorem k_frz {R : Walk → Prop} (e : h p = some (.frz (.dct kvs))) (q : R ⟨keysOf kvs, fun h => h p = some (.frz (.dct kvs)), none⟩) : wkD (.ref p) h R := by unfold wkD; simp only [onRef_ref, e]; exact q
end
/-! ### comprehensions -/
abbrev turnC (Γ : Ctx) (is : List Nat) (t : Tst) (e : Exp) (env : Env) : Val → List Val × Heap → (List Val × Heap → Prop) → Prop := fun v s K => onSome (bindT is v (wipeE env is)) fun env' => wpT Γ t env' s.2 (fun c h => ifC c
          (wpE Γ e env' h (fun y h => s.1.length < sizeMax ∧ K (s.1 ++ [y], h)) (fun _ _ => False)) (K (s.1, h))) (fun _ _ => False)
theorem r_comp {it : Itr} (q : wpI Γ it env h (fun W h => goes (S := List Val × Heap) (fun s => W.ok s.2) (turnC Γ is t e env) (fun s => unlockQ W.lock h (fun h => ∀ p, h p = none → Q (.ref p) (upd h p (.lst s.1))) s.2) W.items ([], lockH W.lock h)) E) : wpE Γ (.comp is it t e) env h Q E := by simp only [wpE]; exact q
/-- nothing changes: filter, then map -/
theorem comp_pure {items : List Val} {ok : Heap → Prop} {done : List Val × Heap → Prop} (p : Val → Bool) (f : Val → Val) (hl : items.length ≤ sizeMax) (hok : ok h)
    (hs : ∀ v ∈ items, ∀ (acc : List Val) (K : List Val × Heap → Prop), acc.length < sizeMax → K (if p v then acc ++ [f v] else acc, h) → turnC Γ is t e env v (acc, h) K) (hd : done ((items.filter p).map f, h)) :
    goes (S := List Val × Heap) (fun s => ok s.2) (turnC Γ is t e env) done items ([], h) := by
  refine goes_of (fun i s => s = (((items.take i).filter p).map f, h)) (by rw [List.take_zero]; rfl) (fun i s _ e => by subst e; exact hok) (fun i v s K hv e hK => ?_) fun s e => ?_
  · subst e
    have hi : i < items.length := (List.getElem?_eq_some_iff.mp hv).1
    refine hs v (List.mem_of_getElem? hv) _ K ?_ (hK _ ?_)
    · have a1 := List.length_filter_le p (items.take i)
      rw [List.length_map]
      rw [List.length_take] at a1
      omega
    · have e1 : items.take (i + 1) = items.take i ++ [v] := by rw [List.take_add_one, hv]; rfl
      rw [e1, List.filter_append, List.map_append]
      cases hp : p v
      · simp [List.filter, hp]
      · simp [List.filter, hp]
  · rw [List.take_length] at e
    subst e
    exact hd
abbrev turnD (Γ : Ctx) (is : List Nat) (t : Tst) (k e : Exp) (env : Env) : Val → List (Val × Val) × Heap → (List (Val × Val) × Heap → Prop) → Prop := fun v s K => onSome (bindT is v (wipeE env is)) fun env' => wpT Γ t env' s.2 (fun c h => ifC c
          (wpE Γ k env' h (fun x h => wpE Γ e env' h (fun y h => isKey x = true ∧ s.1.length < sizeMax ∧ K (dput x y s.1, h)) (fun _ _ => False)) (fun _ _ => False)) (K (s.1, h))) (fun _ _ => False)
theorem r_dcomp {it : Itr} {k : Exp} (q : wpI Γ it env h (fun W h => goes (S := List (Val × Val) × Heap) (fun s => W.ok s.2) (turnD Γ is t k e env) (fun s => unlockQ W.lock h (fun h => ∀ p, h p = none → Q (.ref p) (upd h p (.dct s.1))) s.2) W.items ([], lockH W.lock h)) E) : wpE Γ (.dcomp is it t k e) env h Q E := by simp only [wpE]; exact q
end
theorem ro_b1 {F : Env → Prop} {i : Nat} {v : Val} {env : Env} (q : F (env.set i (some v))) : onSome (bindT [i] v env) F := q
theorem ro_b2 {F : Env → Prop} {i j : Nat} {x y : Val} {env : Env} (q : F ((env.set i (some x)).set j (some y))) : onSome (bindT [i, j] (.tup [x, y]) env) F := q
theorem ro_m2 {F : Env → Prop} {i j : Nat} {x y : Val} {env : Env} (q : F ((env.set i (some x)).set j (some y))) : onSome (setMany env [i, j] [x, y]) F := q
/-! ### dicts walked by comprehensions -/
theorem upd_id {h : Heap} {p : Nat} {o : Obj} (e : h p = some o) : upd h p o = h := by
  funext b
  by_cases z : b = p
  · subst z; rw [upd_same, e]
  · rw [upd_ne z]
section
variable {Γ : Ctx} {h : Heap} {env : Env} {e k : Exp} {is : List Nat} {t : Tst}
theorem lock_dct {p : Nat} {kvs : List (Val × Val)} (hp : h p = some (.dct kvs)) : lockH (some p) h = upd h p (.frz (.dct kvs)) := by unfold lockH; simp only [hp]
theorem unlock_dct {p : Nat} {kvs : List (Val × Val)} {P : Heap → Prop} {h1 : Heap} (hp : h p = some (.dct kvs)) (h1p : h1 p = some (.frz (.dct kvs))) (q : P (upd h1 p (.dct kvs))) : unlockQ (some p) h P h1 := by unfold unlockQ; simp only [hp]; exact ⟨h1p, q⟩
theorem comp_dct {p : Nat} {kvs : List (Val × Val)} {done : List Val × Heap → Prop} (hp : h p = some (.dct kvs)) (c : Val → Bool) (f : Val → Val) (hl : kvs.length ≤ sizeMax)
    (hs : ∀ v ∈ keysOf kvs, ∀ (acc : List Val) (K : List Val × Heap → Prop), acc.length < sizeMax → K (if c v then acc ++ [f v] else acc, upd h p (.frz (.dct kvs))) → turnC Γ is t e env v (acc, upd h p (.frz (.dct kvs))) K) (hd : done (((keysOf kvs).filter c).map f, upd h p (.frz (.dct kvs)))) :
    goes (S := List Val × Heap) (fun s => (Walk.mk (keysOf kvs) (fun h => h p = some (.frz (.dct kvs))) (some p)).ok s.2) (turnC Γ is t e env) done (keysOf kvs) ([], lockH (some p) h) := by
  rw [lock_dct hp]
  exact comp_pure c f (by unfold keysOf; rw [List.length_map]; exact hl) upd_same hs hd
end
end Bc
set_option Elab.async false
set_option linter.all false
set_option maxRecDepth 100000
set_option maxHeartbeats 4000000
namespace Bk
open Bc
local macro_rules | `(tactic| get_elem_tactic_extensible) => `(tactic| repeat with_reducible (first | refine rc_true ?_ | refine rc_false ?_ | refine ro_b ?_ | refine ro_i ?_ | refine ro_r ?_ | refine ro_t ?_ | refine mb_cons ?_ | refine mb_nil ?_ | refine r_var rfl ?_ | refine r_lit ?_ | refine r_nil ?_ | refine r_cons ?_ | refine r_sub ?_ | refine r_attr ?_ | refine r_cmp ?_ | refine r_cmp2 ?_ | refine r_bin ?_ | refine r_not ?_ | refine r_and ?_ | refine r_or ?_ | refine r_ite ?_ | refine r_slF ?_ | refine r_slT ?_ | refine r_slB ?_ | refine r_tup ?_ | refine r_lst ?_ | refine r_dct ?_ | refine r_bi ?_ | refine r_bm ?_ | refine r_isin ?_ | refine r_meth ?_ | refine rt_yes ?_ | refine rt_cmp ?_ | refine rt_cmp2 ?_ | refine rt_tru ?_ | refine rt_not ?_ | refine rt_and ?_ | refine rt_or ?_ | refine rt_bool ?_ | refine rt_non ?_ | refine rt_int ?_ | refine rt_tup ?_ | refine b_addI ?_ | refine b_subI ?_ | refine q_ii ?_ | refine q_ss ?_ | refine n_ii ?_ | refine n_ss ?_ | refine q_ns ?_ | refine q_sn ?_ | refine l_lt ?_ | refine l_le ?_ | refine l_gt ?_ | refine l_ge ?_ | refine i_non ?_ | refine i_str ?_ | refine i_int ?_ | refine i_ref ?_ | refine i_tup' ?_ | refine j_non ?_ | refine j_str ?_ | refine j_int ?_ | refine j_ref ?_ | refine j_tup ?_ | refine m_str ?_ | refine mn_str ?_ | refine n_tup ?_ | refine n_int ?_ | refine n_intb ?_ | refine n_min ?_ | refine n_listT ?_ | refine ms_set ?_ | refine ms_unpT ?_ | refine ms_unpL ?_ | refine ms_par2 ?_ | refine ms_sset ?_ | refine ms_aset ?_ | refine ms_aug rfl ?_ | refine ms_exp ?_ | refine ms_ret ?_ | refine ms_retN ?_ | refine ms_ite ?_ | refine ms_brk ?_ | refine ms_pass ?_ | refine ms_raise ?_ | refine s_lst (by assumption) rfl rfl ?_ | refine s_tup rfl rfl ?_ | refine n_lst (by assumption) ?_ | refine n_dct (by assumption) ?_ | refine a_ins (by assumption) rfl ?_ | refine r_comp ?_ | refine r_dcomp ?_ | refine ms_for ?_ | refine w_lst ?_ | refine w_tup ?_ | refine w_str ?_ | refine w_dct ?_ | refine w_rng1 ?_ | refine w_rng2 ?_ | refine w_enL ?_ | refine w_enT ?_ | refine w_enS ?_ | refine k_tup ?_ | refine k_str ?_ | refine k_lst (by assumption) ?_ | refine bm_starts ?_ | refine set_l (by assumption) rfl ?_ | refine ro_b1 ?_ | refine ro_b2 ?_ | refine ro_m2 ?_ | refine rc_nt ?_ | refine rc_nf ?_))
/-! ### what is drawn -/
/-- the draws at d: the script, how far it is read, the wide rest, the mixed number -/
def DrX (h : Heap) (d s : Nat) (xs : List Int) (i w m : Int) : Prop := h d = some (.lst [.ref s, .int i, .int w, .int m]) ∧ 0 ≤ i ∧ s ≠ d ∧ h s = some (.lst (List.map Val.int xs))
def Dr (h : Heap) (d : Nat) : Prop := ∃ s xs i w m, DrX h d s xs i w m
def sp_draw : Spec := fun vs h Q _ => ∃ d n, vs = [.ref d, .int n] ∧ Dr h d ∧ 1 ≤ n ∧ n ≤ 1000 ∧ ∀ k h', 0 ≤ k → k < n → Dr h' d → (∀ a, a ≠ d → h' a = h a) → Q (.int k) h'
theorem DrX.set {h : Heap} {d s : Nat} {xs : List Int} {i w m i' w' m' : Int} (r : DrX h d s xs i w m) (hi : 0 ≤ i') : DrX (upd h d (.lst [.ref s, .int i', .int w', .int m'])) d s xs i' w' m' :=
  ⟨upd_same, hi, r.2.2.1, by rw [upd_ne r.2.2.1]; exact r.2.2.2⟩
theorem wp_draw (Γ : Ctx) : ∀ vs h Q E, sp_draw vs h Q E → wpF Γ 4 b__law_draw vs h Q E := by
  rintro vs h Q E ⟨d, n, rfl, ⟨s, xs, i, w, m, r⟩, h1, h2, k⟩
  have fin : ∀ (x y : Option Val) (h' : Heap) (i' w' m' : Int), DrX h' d s xs i' w' m' → (∀ a, a ≠ d → h' a = h a) → wpB Γ b__law_draw.tl (kF Q E) [some (.ref d), some (.int n), x, y] h' := by
    rintro x y h' i' w' m' r' same
    have rdd := rd_lst r'.1
    show wpB Γ (.cons _ (.cons _ .nil)) _ _ _
    get_elem_tactic_extensible
    refine rc_dec (fun hw => ?_) (fun hw => ?_)
    · get_elem_tactic_extensible
      refine b_mod (by omega) ?_
      get_elem_tactic_extensible
      refine b_div (by omega) ?_
      get_elem_tactic_extensible
      refine set_l r'.1 rfl ?_
      get_elem_tactic_extensible
      exact k _ _ (Int.emod_nonneg _ (by omega)) (Int.emod_lt_of_pos _ (by omega)) ⟨s, xs, _, _, _, r'.set r'.2.1⟩ fun a ha => by rw [upd_ne ha]; exact same a ha
    · get_elem_tactic_extensible
      refine b_mulI (by decide) ?_
      get_elem_tactic_extensible
      refine b_mod (by omega) ?_
      get_elem_tactic_extensible
      refine b_mod (by omega) ?_
      exact k _ _ (Int.emod_nonneg _ (by omega)) (Int.emod_lt_of_pos _ (by omega)) ⟨s, xs, _, _, _, r'⟩ same
  have rdd := rd_lst r.1
  have rds := rd_lst r.2.2.2
  refine wpF_of ?_
  show wpB Γ (.cons _ b__law_draw.tl) _ [some (.ref d), some (.int n), none, none] _
  get_elem_tactic_extensible
  refine rc_dec (fun hw => ?_) (fun hw => ?_)
  · get_elem_tactic_extensible
    refine rc_dec (fun hl => ?_) (fun hl => ?_)
    · rw [List.length_map] at hl
      have hx : (List.map Val.int xs)[i.toNat]? = some (.int (xs[i.toNat]'(by have := r.2.1; omega))) := by rw [List.getElem?_map, List.getElem?_eq_getElem]; rfl
      get_elem_tactic_extensible
      refine s_lst rds (ix_int r.2.1 (by rw [List.length_map]; exact hl)) hx ?_
      generalize xs[i.toNat]'_ = cell at *
      get_elem_tactic_extensible
      refine set_l r.1 rfl ?_
      have r1 := r.set (i' := i + 1) (w' := w) (m' := m) (by have := r.2.1; omega)
      have rd1 := rd_lst r1.1
      have same1 : ∀ a, a ≠ d → upd h d (.lst [.ref s, .int (i + 1), .int w, .int m]) a = h a := fun a ha => upd_ne ha
      show wpB Γ _ _ _ (upd h d (.lst [.ref s, .int (i + 1), .int w, .int m]))
      generalize upd h d (.lst [.ref s, .int (i + 1), .int w, .int m]) = g at *
      get_elem_tactic_extensible
      refine b_pow (by decide) ?_
      get_elem_tactic_extensible
      refine rc_dec (fun hc => ?_) (fun hc => ?_)
      · get_elem_tactic_extensible
        refine set_l r1.1 rfl ?_
        get_elem_tactic_extensible
        exact fin _ _ _ _ _ _ (r1.set r1.2.1) fun a ha => by rw [upd_ne ha]; exact same1 a ha
      · get_elem_tactic_extensible
        refine b_mulI (by decide) ?_
        get_elem_tactic_extensible
        refine b_mulI (by decide) ?_
        get_elem_tactic_extensible
        refine b_mod (by decide) ?_
        get_elem_tactic_extensible
        refine set_l r1.1 rfl ?_
        get_elem_tactic_extensible
        exact fin _ _ _ _ _ _ (r1.set r1.2.1) fun a ha => by rw [upd_ne ha]; exact same1 a ha
    · get_elem_tactic_extensible
      refine b_mulI (by decide) ?_
      get_elem_tactic_extensible
      refine b_mod (by decide) ?_
      get_elem_tactic_extensible
      refine set_l r.1 rfl ?_
      get_elem_tactic_extensible
      exact fin _ _ _ _ _ _ (r.set r.2.1) fun a ha => upd_ne ha
  · get_elem_tactic_extensible
    exact fin _ _ _ _ _ _ r fun a _ => rfl
end Bk
set_option Elab.async false
set_option linter.all false
set_option maxRecDepth 100000
set_option maxHeartbeats 4000000
namespace Bk
open Bc
local macro_rules | `(tactic| get_elem_tactic_extensible) => `(tactic| repeat with_reducible (first | refine rc_true ?_ | refine rc_false ?_ | refine ro_b ?_ | refine ro_i ?_ | refine ro_r ?_ | refine ro_t ?_ | refine mb_cons ?_ | refine mb_nil ?_ | refine r_var rfl ?_ | refine r_lit ?_ | refine r_nil ?_ | refine r_cons ?_ | refine r_sub ?_ | refine r_attr ?_ | refine r_cmp ?_ | refine r_cmp2 ?_ | refine r_bin ?_ | refine r_not ?_ | refine r_and ?_ | refine r_or ?_ | refine r_ite ?_ | refine r_slF ?_ | refine r_slT ?_ | refine r_slB ?_ | refine r_tup ?_ | refine r_lst ?_ | refine r_dct ?_ | refine r_bi ?_ | refine r_bm ?_ | refine r_isin ?_ | refine r_meth ?_ | refine rt_yes ?_ | refine rt_cmp ?_ | refine rt_cmp2 ?_ | refine rt_tru ?_ | refine rt_not ?_ | refine rt_and ?_ | refine rt_or ?_ | refine rt_bool ?_ | refine rt_non ?_ | refine rt_int ?_ | refine rt_tup ?_ | refine b_addI ?_ | refine b_subI ?_ | refine q_ii ?_ | refine q_ss ?_ | refine n_ii ?_ | refine n_ss ?_ | refine q_ns ?_ | refine q_sn ?_ | refine l_lt ?_ | refine l_le ?_ | refine l_gt ?_ | refine l_ge ?_ | refine i_non ?_ | refine i_str ?_ | refine i_int ?_ | refine i_ref ?_ | refine i_tup' ?_ | refine j_non ?_ | refine j_str ?_ | refine j_int ?_ | refine j_ref ?_ | refine j_tup ?_ | refine m_str ?_ | refine mn_str ?_ | refine n_tup ?_ | refine n_int ?_ | refine n_intb ?_ | refine n_min ?_ | refine n_listT ?_ | refine ms_set ?_ | refine ms_unpT ?_ | refine ms_unpL ?_ | refine ms_par2 ?_ | refine ms_sset ?_ | refine ms_aset ?_ | refine ms_aug rfl ?_ | refine ms_exp ?_ | refine ms_ret ?_ | refine ms_retN ?_ | refine ms_ite ?_ | refine ms_brk ?_ | refine ms_pass ?_ | refine ms_raise ?_ | refine s_lst (by assumption) rfl rfl ?_ | refine s_tup rfl rfl ?_ | refine n_lst (by assumption) ?_ | refine n_dct (by assumption) ?_ | refine a_ins (by assumption) rfl ?_ | refine r_comp ?_ | refine r_dcomp ?_ | refine ms_for ?_ | refine w_lst ?_ | refine w_tup ?_ | refine w_str ?_ | refine w_dct ?_ | refine w_rng1 ?_ | refine w_rng2 ?_ | refine w_enL ?_ | refine w_enT ?_ | refine w_enS ?_ | refine k_tup ?_ | refine k_str ?_ | refine k_lst (by assumption) ?_ | refine bm_starts ?_ | refine set_l (by assumption) rfl ?_ | refine ro_b1 ?_ | refine ro_b2 ?_ | refine ro_m2 ?_ | refine rc_nt ?_ | refine rc_nf ?_))
/-! ### codes that are drawn -/
def Keep (d : Nat) (h h' : Heap) : Prop := ∀ a o, a ≠ d → h a = some o → h' a = some o
theorem Keep.refl {d : Nat} {h : Heap} : Keep d h h := fun _ _ _ e => e
theorem Keep.trans {d : Nat} {h h1 h2 : Heap} (a : Keep d h h1) (b : Keep d h1 h2) : Keep d h h2 := fun x o n e => b x o n (a x o n e)
theorem Keep.new {d p : Nat} {h h1 : Heap} {o : Obj} (a : Keep d h h1) (e : h1 p = none) : Keep d h (upd h1 p o) := fun x u n z => by
  have q := a x u n z
  rw [upd_ne (fun w => by rw [w, e] at q; cases q)]
  exact q
/-- written where h has nothing -/
theorem Keep.set {d p : Nat} {h h1 : Heap} {o : Obj} (a : Keep d h h1) (e : h p = none) : Keep d h (upd h1 p o) := fun x u n z => by
  rw [upd_ne (fun w => by rw [w, e] at z; cases z)]
  exact a x u n z
theorem Keep.same {d : Nat} {h h1 h2 : Heap} (a : Keep d h h1) (b : ∀ a, a ≠ d → h2 a = h1 a) : Keep d h h2 := fun x u n z => by rw [b x n]; exact a x u n z
theorem Dr.wr {h : Heap} {d p : Nat} {o : Obj} (r : Dr h d) (e : h p = none) : Dr (upd h p o) d := by
  obtain ⟨s, xs, i, w, m, r1, r2, r3, r4⟩ := r
  refine ⟨s, xs, i, w, m, ?_, r2, r3, ?_⟩
  · rw [upd_ne (fun z => by rw [z, e] at r1; cases r1)]; exact r1
  · rw [upd_ne (fun z => by rw [z, e] at r4; cases r4)]; exact r4
/-- written at a list of texts -/
theorem Dr.at_ {h : Heap} {d p : Nat} {o : Obj} (r : Dr h d) (e : p ≠ d) (f : ∀ s xs i w m, DrX h d s xs i w m → p ≠ s) : Dr (upd h p o) d := by
  obtain ⟨s, xs, i, w, m, r1, r2, r3, r4⟩ := r
  refine ⟨s, xs, i, w, m, ?_, r2, r3, ?_⟩
  · rw [upd_ne e.symm]; exact r1
  · rw [upd_ne (f s xs i w m ⟨r1, r2, r3, r4⟩).symm]; exact r4
abbrev sLs (ls : List (List Nat)) : List Val := ls.map Val.str
def Apart (a b : List Nat) : Prop := ¬ a <+: b ∧ ¬ b <+: a
theorem Apart.symm {a b : List Nat} (x : Apart a b) : Apart b a := ⟨x.2, x.1⟩
def Leaf (s : List Nat) : Prop := 1 ≤ s.length ∧ s.length ≤ 3 ∧ ∀ c ∈ s, 48 ≤ c ∧ c ≤ 51
structure Leaves (ls : List (List Nat)) : Prop where
  all : ∀ s ∈ ls, Leaf s
  ap : ls.Pairwise Apart
theorem apart_app {a b : List Nat} {c : Nat} (x : Apart a b) : Apart a (b ++ [c]) := by
  refine ⟨fun z => ?_, fun z => ?_⟩
  · rcases List.prefix_concat_iff.mp z with e | e
    · exact x.2 (by rw [e]; exact List.prefix_append b [c])
    · exact x.1 e
  · exact x.2 ((List.prefix_append b [c]).trans z)
theorem apart_end {b : List Nat} {c d : Nat} (h : c ≠ d) : Apart (b ++ [c]) (b ++ [d]) := by
  have key : ∀ {x y : Nat}, x ≠ y → ¬ (b ++ [x]) <+: (b ++ [y]) := fun {x y} n z => by
    have e := z.eq_of_length (by simp)
    exact n (by simpa using e)
  exact ⟨key h, key h.symm⟩
theorem perm_at {α : Type} {ls : List α} {k : Nat} {s : α} (hk : ls[k]? = some s) : (s :: ls.eraseIdx k).Perm ls := by
  obtain ⟨hl, e⟩ := List.getElem?_eq_some_iff.mp hk
  have e2 : ls = ls.take k ++ s :: ls.drop (k + 1) := by rw [← e, List.getElem_cons_drop hl, List.take_append_drop]
  rw [List.eraseIdx_eq_take_drop_succ]
  exact List.perm_middle.symm.trans (by rw [← e2])
theorem Leaves.grow {ls : List (List Nat)} {k m : Nat} {s : List Nat} (L : Leaves ls) (hk : ls[k]? = some s) (hs : s.length < 3) : Leaves (ls.eraseIdx k ++ [s ++ [48], s ++ [49], s ++ [50]].take m) := by
  have hkl : k < ls.length := (List.getElem?_eq_some_iff.mp hk).1
  have hks : ls[k] = s := (List.getElem?_eq_some_iff.mp hk).2
  have perm : (s :: ls.eraseIdx k).Perm ls := by exact perm_at hk
  have pw := (perm.pairwise_iff (R := Apart) (fun x => x.symm)).mpr L.ap
  rw [List.pairwise_cons] at pw
  have ls3 : ∀ t ∈ [s ++ [48], s ++ [49], s ++ [50]].take m, ∃ c, t = s ++ [c] ∧ 48 ≤ c ∧ c ≤ 51 := fun t ht => by
    have ht := List.mem_of_mem_take ht
    simp only [List.mem_cons, List.not_mem_nil, or_false] at ht
    rcases ht with e | e | e
    · exact ⟨48, e, by omega, by omega⟩
    · exact ⟨49, e, by omega, by omega⟩
    · exact ⟨50, e, by omega, by omega⟩
  have ss := L.all s (List.mem_of_getElem? hk)
  refine ⟨fun t ht => ?_, ?_⟩
  · rcases List.mem_append.mp ht with q | q
    · exact L.all t (List.mem_of_mem_eraseIdx q)
    · obtain ⟨c, e, c1, c2⟩ := ls3 t q
      subst e
      refine ⟨by simp, by rw [List.length_append]; simp; omega, fun x hx => ?_⟩
      rcases List.mem_append.mp hx with q | q
      · exact ss.2.2 x q
      · simp only [List.mem_singleton] at q; subst q; exact ⟨c1, c2⟩
  · rw [List.pairwise_append]
    refine ⟨pw.2, ?_, fun a ha t ht => ?_⟩
    · refine List.Pairwise.sublist (List.take_sublist m _) ?_
      simp only [List.pairwise_cons, List.mem_cons, List.not_mem_nil, or_false, forall_eq_or_imp, forall_eq, false_imp_iff, implies_true, List.Pairwise.nil, and_true]
      exact ⟨⟨apart_end (by decide), apart_end (by decide)⟩, apart_end (by decide)⟩
    · obtain ⟨c, e, _, _⟩ := ls3 t ht
      subst e
      exact apart_app (pw.1 a ha).symm
/-- an encoding's codes by letters -/
abbrev Codes := List (Nat × List Nat)
def cdV (kvs : Codes) : List (Val × Val) := kvs.map fun p => (.str [p.1], .str p.2)
def base : List Nat := [97, 98, 99, 100, 101, 63]
structure Good (kvs : Codes) : Prop where
  len : 1 ≤ kvs.length ∧ kvs.length ≤ 6
  nd : (kvs.map (·.1)).Nodup
  mem : ∀ p ∈ kvs, p.1 ∈ base
  lv : Leaves (kvs.map (·.2))
def sp_codes : Spec := fun vs h Q _ => ∃ d, vs = [.ref d] ∧ Dr h d ∧ ∀ p kvs h', h p = none → h' p = some (.dct (cdV kvs)) → Good kvs → Dr h' d → Keep d h h' → Q (.ref p) h'
end Bk
set_option Elab.async false
set_option linter.all false
set_option maxRecDepth 100000
set_option maxHeartbeats 4000000
namespace Bk
open Bc
local macro_rules | `(tactic| get_elem_tactic_extensible) => `(tactic| repeat with_reducible (first | refine rc_true ?_ | refine rc_false ?_ | refine ro_b ?_ | refine ro_i ?_ | refine ro_r ?_ | refine ro_t ?_ | refine mb_cons ?_ | refine mb_nil ?_ | refine r_var rfl ?_ | refine r_lit ?_ | refine r_nil ?_ | refine r_cons ?_ | refine r_sub ?_ | refine r_attr ?_ | refine r_cmp ?_ | refine r_cmp2 ?_ | refine r_bin ?_ | refine r_not ?_ | refine r_and ?_ | refine r_or ?_ | refine r_ite ?_ | refine r_slF ?_ | refine r_slT ?_ | refine r_slB ?_ | refine r_tup ?_ | refine r_lst ?_ | refine r_dct ?_ | refine r_bi ?_ | refine r_bm ?_ | refine r_isin ?_ | refine r_meth ?_ | refine rt_yes ?_ | refine rt_cmp ?_ | refine rt_cmp2 ?_ | refine rt_tru ?_ | refine rt_not ?_ | refine rt_and ?_ | refine rt_or ?_ | refine rt_bool ?_ | refine rt_non ?_ | refine rt_int ?_ | refine rt_tup ?_ | refine b_addI ?_ | refine b_subI ?_ | refine q_ii ?_ | refine q_ss ?_ | refine n_ii ?_ | refine n_ss ?_ | refine q_ns ?_ | refine q_sn ?_ | refine l_lt ?_ | refine l_le ?_ | refine l_gt ?_ | refine l_ge ?_ | refine i_non ?_ | refine i_str ?_ | refine i_int ?_ | refine i_ref ?_ | refine i_tup' ?_ | refine j_non ?_ | refine j_str ?_ | refine j_int ?_ | refine j_ref ?_ | refine j_tup ?_ | refine m_str ?_ | refine mn_str ?_ | refine n_tup ?_ | refine n_int ?_ | refine n_intb ?_ | refine n_min ?_ | refine n_listT ?_ | refine ms_set ?_ | refine ms_unpT ?_ | refine ms_unpL ?_ | refine ms_par2 ?_ | refine ms_sset ?_ | refine ms_aset ?_ | refine ms_aug rfl ?_ | refine ms_exp ?_ | refine ms_ret ?_ | refine ms_retN ?_ | refine ms_ite ?_ | refine ms_brk ?_ | refine ms_pass ?_ | refine ms_raise ?_ | refine s_lst (by assumption) rfl rfl ?_ | refine s_tup rfl rfl ?_ | refine n_lst (by assumption) ?_ | refine n_dct (by assumption) ?_ | refine a_ins (by assumption) rfl ?_ | refine r_comp ?_ | refine r_dcomp ?_ | refine ms_for ?_ | refine w_lst ?_ | refine w_tup ?_ | refine w_str ?_ | refine w_dct ?_ | refine w_rng1 ?_ | refine w_rng2 ?_ | refine w_enL ?_ | refine w_enT ?_ | refine w_enS ?_ | refine k_tup ?_ | refine k_str ?_ | refine k_lst (by assumption) ?_ | refine bm_starts ?_ | refine set_l (by assumption) rfl ?_ | refine ro_b1 ?_ | refine ro_b2 ?_ | refine ro_m2 ?_ | refine rc_nt ?_ | refine rc_nf ?_))

theorem slen {ls : List (List Nat)} : (sLs ls).length = ls.length := List.length_map ..
theorem sget {ls : List (List Nat)} {k : Nat} {s : List Nat} (e : ls[k]? = some s) : (sLs ls)[k]? = some (.str s) := by rw [List.getElem?_map, e]; rfl
theorem strs_erase {ls : List (List Nat)} {k : Nat} : (sLs ls).eraseIdx k = sLs (ls.eraseIdx k) := by unfold sLs; rw [List.eraseIdx_eq_take_drop_succ, List.eraseIdx_eq_take_drop_succ, List.map_append, List.map_take, List.map_drop]
theorem cut_hi {α : Type} {xs : List α} {m : Nat} (h : m ≤ xs.length) : cutL xs none (some (m : Int)) = xs.take m := by
  have e : clip xs.length xs.length (some (m : Int)) = m := by show (if (m : Int) < 0 then ((m : Int) + (xs.length : Int)).toNat else min (m : Int).toNat xs.length) = m; rw [if_neg (by omega), Int.toNat_natCast, Nat.min_eq_left h]
  show (xs.drop 0).take (clip xs.length xs.length (some (m : Int)) - 0) = _
  rw [e, Nat.sub_zero, List.drop_zero]
/-- the first loop's state -/
def inv1 (d : Nat) (h : Heap) (i : Nat) (env : Env) (h' : Heap) : Prop := ∃ (ls : List (List Nat)) (L : Nat) (x y z : Option Val), env = [some (.ref d), some (.ref L), x, y, z, none, none, none] ∧ h' L = some (.lst (sLs ls)) ∧ h L = none ∧ Leaves ls ∧ 4 ≤ ls.length ∧ ls.length ≤ 4 + 2 * i ∧ Dr h' d ∧ Keep d h h'
theorem Dr.ne {h : Heap} {d p : Nat} (r : Dr h d) (e : h p = none) : p ≠ d := fun z => by
  obtain ⟨s, xs, i, w, m, r1, _⟩ := r
  rw [z, r1] at e
  cases e
theorem Dr.notStr {h : Heap} {d p : Nat} {ls : List (List Nat)} (r : Dr h d) (e : h p = some (.lst (sLs ls))) (hn : 0 < ls.length) : p ≠ d ∧ ∀ s xs i w m, DrX h d s xs i w m → p ≠ s := by
  refine ⟨fun z => ?_, fun s xs i w m x z => ?_⟩
  · obtain ⟨s, xs, i, w, m, r1, _⟩ := r
    rw [z, r1] at e
    match ls, hn, e with
    | a :: r, _, e => simp [sLs] at e
  · have x4 := x.2.2.2
    rw [z, x4] at e
    match ls, xs, hn, e with
    | a :: r, [], _, e => simp [sLs] at e
    | a :: r, b :: t, _, e => simp [sLs] at e
theorem codes1 (Γ : Ctx) (h5 : Γ.fn 5 = sp_draw) {d : Nat} {h : Heap} {i : Nat} {env : Env} {h' : Heap} {K : Kont} {N : Env → Heap → Prop} {v : Val} (I : inv1 d h i env h') (hi : i < 4) (hN : ∀ env h2, inv1 d h (i + 1) env h2 → N env h2) :
    wpB Γ (b__law_codes.tl.hd.body) { nx := N, rt := K.rt, bk := K.nx, ex := fun x env h => (none : Option Nat) = none ∧ K.ex x env h } (env.set 2 (some v)) h' := by
  obtain ⟨ls, L, x, y, z, rfl, hL, hn, lv, l1, l2, dr, kp⟩ := I
  have rdL := rd_lst hL
  show wpB Γ (.cons (.set 3 (.call 5 _)) (.cons _ .nil)) _ [some (.ref d), some (.ref L), some v, y, z, none, none, none] _
  get_elem_tactic_extensible
  refine r_call h5 ?_
  get_elem_tactic_extensible
  refine ⟨d, _, rfl, dr, by rw [slen]; omega, by rw [slen]; omega, fun at' h1 k0 k1 dr1 same => ?_⟩
  rw [slen] at k1
  obtain ⟨hd1, hd2⟩ := dr.notStr hL (by omega)
  have hL1 : h1 L = some (.lst (sLs ls)) := by rw [same _ hd1]; exact hL
  have kp1 : Keep d h h1 := kp.same same
  have rdL1 := rd_lst hL1
  have el : ls[at'.toNat]? = some (ls[at'.toNat]'(by omega)) := List.getElem?_eq_getElem _
  generalize ls[at'.toNat]'_ = s at el
  obtain ⟨s1, s2, s3⟩ := lv.all s (List.mem_of_getElem? el)
  get_elem_tactic_extensible
  refine s_lst rdL1 (ix_int k0 (by rw [slen]; exact k1)) (sget el) ?_
  get_elem_tactic_extensible
  refine n_str (by unfold sizeMax; omega) ?_
  get_elem_tactic_extensible
  refine rc_dec (fun hc => ?_) (fun hc => ?_)
  · get_elem_tactic_extensible
    refine ⟨ok_popAt hL1, ?_⟩
    get_elem_tactic_extensible
    refine bm_popAt hL1 (ix_int k0 (by rw [slen]; exact k1)) (sget el) ?_
    rw [strs_erase]
    have hg1 : upd h1 L (.lst (sLs (ls.eraseIdx at'.toNat))) L = some (.lst (sLs (ls.eraseIdx at'.toNat))) := upd_same
    have kp2 : Keep d h (upd h1 L (.lst (sLs (ls.eraseIdx at'.toNat)))) := kp1.set hn
    obtain ⟨hd3, hd4⟩ := dr1.notStr hL1 (by omega)
    have dr2 : Dr (upd h1 L (.lst (sLs (ls.eraseIdx at'.toNat)))) d := dr1.at_ hd3 hd4
    generalize upd h1 L (.lst (sLs (ls.eraseIdx at'.toNat))) = g at *
    get_elem_tactic_extensible
    refine b_addS (by unfold sizeMax; simp; omega) ?_
    get_elem_tactic_extensible
    refine b_addS (by unfold sizeMax; simp; omega) ?_
    get_elem_tactic_extensible
    refine b_addS (by unfold sizeMax; simp; omega) ?_
    get_elem_tactic_extensible
    intro A hA
    get_elem_tactic_extensible
    refine r_call h5 ?_
    get_elem_tactic_extensible
    refine ⟨d, 2, rfl, dr2.wr hA, by omega, by omega, fun m h2 m0 m1 dr3 same2 => ?_⟩
    get_elem_tactic_extensible
    have hA2 : h2 A = some (.lst (sLs [s ++ [48], s ++ [49], s ++ [50]])) := by rw [same2 _ (dr2.ne hA)]; exact upd_same
    have hL2 : h2 L = some (.lst (sLs (ls.eraseIdx at'.toNat))) := by rw [same2 _ hd3, upd_ne (fun e => by rw [e, hA] at hg1; cases hg1)]; exact hg1
    have kp3 : Keep d h h2 := (kp2.new hA).same same2
    refine sl_lst (rd_lst hA2) fun B hB => ?_
    have em : (2 + m : Int) = ((2 + m.toNat : Nat) : Int) := by omega
    rw [em, cut_hi (by simp; omega), ← List.map_take]
    refine b_addL (by rw [upd_ne (fun e => by rw [e, hB] at hL2; cases hL2)]; exact hL2) upd_same (by rw [slen, slen, List.length_take, List.length_eraseIdx]; unfold sizeMax; simp; split <;> omega) fun C hC => ?_
    rw [← List.map_append]
    get_elem_tactic_extensible
    refine hN _ _ ⟨_, C, _, _, _, rfl, upd_same, ?_, lv.grow (m := 2 + m.toNat) el (by omega), ?_, ?_, (dr3.wr hB).wr hC, (kp3.new hB).new hC⟩
    · cases e : h C with
      | none => rfl
      | some o =>
        have q := (kp3.new (o := .lst (sLs (List.take (2 + m.toNat) [s ++ [48], s ++ [49], s ++ [50]]))) hB) C o ((dr3.wr hB).ne hC) e
        rw [hC] at q
        cases q
    · rw [List.length_append, List.length_take, List.length_eraseIdx]; simp; split <;> omega
    · rw [List.length_append, List.length_take, List.length_eraseIdx]; simp; split <;> omega
  · get_elem_tactic_extensible
    exact hN _ _ ⟨ls, L, _, _, _, rfl, hL1, hn, lv, l1, by omega, dr1, kp1⟩
end Bk
set_option Elab.async false
set_option linter.all false
set_option maxRecDepth 100000
set_option maxHeartbeats 4000000
namespace Bk
open Bc
local macro_rules | `(tactic| get_elem_tactic_extensible) => `(tactic| repeat with_reducible (first | refine rc_true ?_ | refine rc_false ?_ | refine ro_b ?_ | refine ro_i ?_ | refine ro_r ?_ | refine ro_t ?_ | refine mb_cons ?_ | refine mb_nil ?_ | refine r_var rfl ?_ | refine r_lit ?_ | refine r_nil ?_ | refine r_cons ?_ | refine r_sub ?_ | refine r_attr ?_ | refine r_cmp ?_ | refine r_cmp2 ?_ | refine r_bin ?_ | refine r_not ?_ | refine r_and ?_ | refine r_or ?_ | refine r_ite ?_ | refine r_slF ?_ | refine r_slT ?_ | refine r_slB ?_ | refine r_tup ?_ | refine r_lst ?_ | refine r_dct ?_ | refine r_bi ?_ | refine r_bm ?_ | refine r_isin ?_ | refine r_meth ?_ | refine rt_yes ?_ | refine rt_cmp ?_ | refine rt_cmp2 ?_ | refine rt_tru ?_ | refine rt_not ?_ | refine rt_and ?_ | refine rt_or ?_ | refine rt_bool ?_ | refine rt_non ?_ | refine rt_int ?_ | refine rt_tup ?_ | refine b_addI ?_ | refine b_subI ?_ | refine q_ii ?_ | refine q_ss ?_ | refine n_ii ?_ | refine n_ss ?_ | refine q_ns ?_ | refine q_sn ?_ | refine l_lt ?_ | refine l_le ?_ | refine l_gt ?_ | refine l_ge ?_ | refine i_non ?_ | refine i_str ?_ | refine i_int ?_ | refine i_ref ?_ | refine i_tup' ?_ | refine j_non ?_ | refine j_str ?_ | refine j_int ?_ | refine j_ref ?_ | refine j_tup ?_ | refine m_str ?_ | refine mn_str ?_ | refine n_tup ?_ | refine n_int ?_ | refine n_intb ?_ | refine n_min ?_ | refine n_listT ?_ | refine ms_set ?_ | refine ms_unpT ?_ | refine ms_unpL ?_ | refine ms_par2 ?_ | refine ms_sset ?_ | refine ms_aset ?_ | refine ms_aug rfl ?_ | refine ms_exp ?_ | refine ms_ret ?_ | refine ms_retN ?_ | refine ms_ite ?_ | refine ms_brk ?_ | refine ms_pass ?_ | refine ms_raise ?_ | refine s_lst (by assumption) rfl rfl ?_ | refine s_tup rfl rfl ?_ | refine n_lst (by assumption) ?_ | refine n_dct (by assumption) ?_ | refine a_ins (by assumption) rfl ?_ | refine r_comp ?_ | refine r_dcomp ?_ | refine ms_for ?_ | refine w_lst ?_ | refine w_tup ?_ | refine w_str ?_ | refine w_dct ?_ | refine w_rng1 ?_ | refine w_rng2 ?_ | refine w_enL ?_ | refine w_enT ?_ | refine w_enS ?_ | refine k_tup ?_ | refine k_str ?_ | refine k_lst (by assumption) ?_ | refine bm_starts ?_ | refine set_l (by assumption) rfl ?_ | refine ro_b1 ?_ | refine ro_b2 ?_ | refine ro_m2 ?_ | refine rc_nt ?_ | refine rc_nf ?_))

theorem Dr.notDct {h : Heap} {d p : Nat} {kvs : List (Val × Val)} (r : Dr h d) (e : h p = some (.dct kvs)) : p ≠ d ∧ ∀ s xs i w m, DrX h d s xs i w m → p ≠ s := by
  refine ⟨fun z => ?_, fun s xs i w m x z => ?_⟩
  · obtain ⟨s, xs, i, w, m, r1, _⟩ := r
    rw [z, r1] at e
    cases e
  · have x4 := x.2.2.2
    rw [z, x4] at e
    cases e
def sing (lt : List Nat) : List (List Nat) := lt.map fun c => [c]
theorem sing_erase {lt : List Nat} {k : Nat} : (sing lt).eraseIdx k = sing (lt.eraseIdx k) := by unfold sing; rw [List.eraseIdx_eq_take_drop_succ, List.eraseIdx_eq_take_drop_succ, List.map_append, List.map_take, List.map_drop]
theorem sing_len {lt : List Nat} : (sing lt).length = lt.length := List.length_map ..
theorem keyEq_sing {c e : Nat} : keyEq (.str [e]) (.str [c]) = decide (e = c) := by
  show decide ([e] = [c]) = decide (e = c)
  by_cases z : e = c <;> simp [z]
theorem cdV_put {kvs : Codes} {c : Nat} {s : List Nat} (hc : c ∉ kvs.map (·.1)) : dput (.str [c]) (.str s) (cdV kvs) = cdV (kvs ++ [(c, s)]) := by
  have e : ((cdV kvs).any fun p => keyEq p.1 (.str [c])) = false := by
    rw [List.any_eq_false]
    intro p hp
    unfold cdV at hp
    obtain ⟨q, hq, e⟩ := List.mem_map.mp hp
    subst e
    rw [keyEq_sing]
    simp only [decide_eq_true_eq]
    exact fun z => hc (List.mem_map.mpr ⟨q, hq, z⟩)
  unfold dput
  rw [if_neg (by rw [e]; decide)]
  unfold cdV
  rw [List.map_append]
  rfl
theorem cdV_len {kvs : Codes} : (cdV kvs).length = kvs.length := List.length_map ..
structure Inv2 (d : Nat) (h : Heap) (n0 i : Nat) (L T D : Nat) (ls : List (List Nat)) (lt : List Nat) (kvs : Codes) (h' : Heap) : Prop where
  hL : h' L = some (.lst (sLs ls))
  hT : h' T = some (.lst (sLs (sing lt)))
  hD : h' D = some (.dct (cdV kvs))
  nL : h L = none
  nT : h T = none
  nD : h D = none
  LT : L ≠ T
  LD : L ≠ D
  TD : T ≠ D
  per : (kvs.map (·.1) ++ lt).Perm base
  lv : Leaves (kvs.map (·.2) ++ ls)
  len : kvs.length = i
  rest : ls.length + i = n0
  dr : Dr h' d
  kp : Keep d h h'
def inv2 (d : Nat) (h : Heap) (n0 : Nat) (i : Nat) (env : Env) (h' : Heap) : Prop := ∃ (ls : List (List Nat)) (lt : List Nat) (kvs : Codes) (L T D : Nat) (x y z u : Option Val), env = [some (.ref d), some (.ref L), x, y, z, some (.ref T), some (.ref D), u] ∧ Inv2 d h n0 i L T D ls lt kvs h'
theorem codes2 (Γ : Ctx) (h5 : Γ.fn 5 = sp_draw) {d : Nat} {h : Heap} {n0 i : Nat} {env : Env} {h' : Heap} {K : Kont} {N : Env → Heap → Prop} {v : Val} (I : inv2 d h n0 i env h') (h6 : n0 ≤ 12) (hi : i < 6) (hi2 : i < n0) (hN : ∀ env h2, inv2 d h n0 (i + 1) env h2 → N env h2) :
    wpB Γ (b__law_codes.tl.tl.tl.tl.hd.body) { nx := N, rt := K.rt, bk := K.nx, ex := fun x env h => (none : Option Nat) = none ∧ K.ex x env h } (env.set 2 (some v)) h' := by
  obtain ⟨ls, lt, kvs, L, T, D, x, y, z, u, rfl, hL, hT, hD, nL, nT, nD, LT, LD, TD, per, lv, len, rest, dr, kp⟩ := I
  have llt : kvs.length + lt.length = 6 := by have := per.length_eq; simpa [base] using this
  have rdT := rd_lst hT
  show wpB Γ (.cons (.set 7 _) (.cons _ .nil)) _ [some (.ref d), some (.ref L), some v, y, z, some (.ref T), some (.ref D), u] _
  get_elem_tactic_extensible
  refine ⟨ok_popAt hT, ?_⟩
  get_elem_tactic_extensible
  refine r_call h5 ?_
  get_elem_tactic_extensible
  rw [slen, sing_len]
  refine ⟨d, _, rfl, dr, by omega, by omega, fun a h1 a0 a1 dr1 same1 => ?_⟩
  get_elem_tactic_extensible
  obtain ⟨t1, t2⟩ := dr.notStr hT (by rw [sing_len]; omega)
  obtain ⟨l1, l2⟩ := dr.notStr hL (by omega)
  obtain ⟨d1, d2⟩ := dr.notDct hD
  have hT1 : h1 T = some (.lst (sLs (sing lt))) := by rw [same1 _ t1]; exact hT
  have hL1 : h1 L = some (.lst (sLs ls)) := by rw [same1 _ l1]; exact hL
  have hD1 : h1 D = some (.dct (cdV kvs)) := by rw [same1 _ d1]; exact hD
  have kp1 : Keep d h h1 := kp.same same1
  have ec : lt[a.toNat]? = some (lt[a.toNat]'(by omega)) := List.getElem?_eq_getElem _
  generalize lt[a.toNat]'_ = c at ec
  have ec2 : (sing lt)[a.toNat]? = some [c] := by unfold sing; rw [List.getElem?_map, ec]; rfl
  refine bm_popAt hT1 (ix_int a0 (by rw [slen, sing_len]; exact a1)) (sget ec2) ?_
  rw [strs_erase, sing_erase]
  have dr2 : Dr (upd h1 T (.lst (sLs (sing (lt.eraseIdx a.toNat))))) d := dr1.at_ t1 (dr1.notStr hT1 (by rw [sing_len]; omega)).2
  have kp2 : Keep d h (upd h1 T (.lst (sLs (sing (lt.eraseIdx a.toNat))))) := kp1.set nT
  have hL2 : upd h1 T (.lst (sLs (sing (lt.eraseIdx a.toNat)))) L = some (.lst (sLs ls)) := by rw [upd_ne LT]; exact hL1
  have hD2 : upd h1 T (.lst (sLs (sing (lt.eraseIdx a.toNat)))) D = some (.dct (cdV kvs)) := by rw [upd_ne TD.symm]; exact hD1
  have hT2 : upd h1 T (.lst (sLs (sing (lt.eraseIdx a.toNat)))) T = some (.lst (sLs (sing (lt.eraseIdx a.toNat)))) := upd_same
  generalize upd h1 T (.lst (sLs (sing (lt.eraseIdx a.toNat)))) = g2 at *
  have rdL2 := rd_lst hL2
  get_elem_tactic_extensible
  refine ⟨ok_popAt hL2, ?_⟩
  get_elem_tactic_extensible
  refine r_call h5 ?_
  get_elem_tactic_extensible
  rw [slen]
  refine ⟨d, _, rfl, dr2, by omega, by omega, fun b h3 b0 b1 dr3 same3 => ?_⟩
  get_elem_tactic_extensible
  have hT3 : h3 T = _ := (same3 _ t1).trans hT2
  have hL3 : h3 L = _ := (same3 _ l1).trans hL2
  have hD3 : h3 D = _ := (same3 _ d1).trans hD2
  have kp3 : Keep d h h3 := kp2.same same3
  have es : ls[b.toNat]? = some (ls[b.toNat]'(by omega)) := List.getElem?_eq_getElem _
  generalize ls[b.toNat]'_ = s at es
  refine bm_popAt hL3 (ix_int b0 (by rw [slen]; exact b1)) (sget es) ?_
  rw [strs_erase]
  have dr4 : Dr (upd h3 L (.lst (sLs (ls.eraseIdx b.toNat)))) d := dr3.at_ l1 (dr3.notStr hL3 (by omega)).2
  have kp4 : Keep d h (upd h3 L (.lst (sLs (ls.eraseIdx b.toNat)))) := kp3.set nL
  have hT4 : upd h3 L (.lst (sLs (ls.eraseIdx b.toNat))) T = _ := (upd_ne LT.symm).trans hT3
  have hD4 : upd h3 L (.lst (sLs (ls.eraseIdx b.toNat))) D = _ := (upd_ne LD.symm).trans hD3
  have hL4 : upd h3 L (.lst (sLs (ls.eraseIdx b.toNat))) L = some (.lst (sLs (ls.eraseIdx b.toNat))) := upd_same
  generalize upd h3 L (.lst (sLs (ls.eraseIdx b.toNat))) = g4 at *
  get_elem_tactic_extensible
  refine set_d hD4 rfl (by rw [cdV_len]; unfold sizeMax; omega) ?_
  have pc : (c :: lt.eraseIdx a.toNat).Perm lt := perm_at ec
  have ps : (s :: ls.eraseIdx b.toNat).Perm ls := perm_at es
  have per2 : ((kvs ++ [(c, s)]).map (·.1) ++ lt.eraseIdx a.toNat).Perm base := by
    rw [List.map_append, List.append_assoc]
    exact (List.Perm.append_left _ pc).trans per
  have nc : c ∉ kvs.map (·.1) := by
    have nd : (kvs.map (·.1) ++ c :: lt.eraseIdx a.toNat).Nodup := by
      have q := per2.nodup_iff.mpr (by decide : base.Nodup)
      rw [List.map_append, List.append_assoc] at q
      exact q
    intro z
    exact (List.nodup_append.mp nd).2.2 c z c (List.mem_cons_self) rfl
  rw [cdV_put nc]
  get_elem_tactic_extensible
  refine hN _ _ ⟨ls.eraseIdx b.toNat, lt.eraseIdx a.toNat, kvs ++ [(c, s)], L, T, D, _, _, _, _, rfl, ?_, ?_, upd_same, nL, nT, nD, LT, LD, TD, per2, ?_, ?_, ?_, ?_, ?_⟩
  · rw [upd_ne LD]; exact hL4
  · rw [upd_ne TD]; exact hT4
  · have pl : ((kvs ++ [(c, s)]).map (·.2) ++ ls.eraseIdx b.toNat).Perm (kvs.map (·.2) ++ ls) := by
      rw [List.map_append, List.append_assoc]
      exact List.Perm.append_left _ ps
    exact ⟨fun t ht => lv.all t (pl.mem_iff.mp ht), (pl.pairwise_iff (R := Apart) (fun x => x.symm)).mpr lv.ap⟩
  · rw [List.length_append, len]; rfl
  · rw [List.length_eraseIdx, if_pos (by omega)]; omega
  · exact dr4.at_ d1 (dr4.notDct hD4).2
  · exact kp4.set nD
theorem rng_len {i : Int} {n : Nat} : (rangeL i n).length = n := by unfold rangeL; rw [List.length_map, List.length_range]
theorem wp_codes (Γ : Ctx) (h5 : Γ.fn 5 = sp_draw) : ∀ vs h Q E, sp_codes vs h Q E → wpF Γ 8 b__law_codes vs h Q E := by
  rintro vs h Q E ⟨d, rfl, dr, k⟩
  refine wpF_of ?_
  show wpB Γ (.cons (.set 1 (.lst _)) (.cons (.for_ _ _ b__law_codes.tl.hd.body) (.cons _ (.cons _ (.cons (.for_ _ _ b__law_codes.tl.tl.tl.tl.hd.body) _))))) _ [some (.ref d), none, none, none, none, none, none, none] _
  get_elem_tactic_extensible
  intro L hL
  get_elem_tactic_extensible
  refine r_call h5 ?_
  get_elem_tactic_extensible
  refine ⟨d, 4, rfl, dr.wr hL, by omega, by omega, fun n h1 n0 n1 dr1 same => ?_⟩
  get_elem_tactic_extensible
  refine ⟨by omega, ?_⟩
  have hLd : L ≠ d := dr.ne hL
  have hL1 : h1 L = some (.lst (sLs [[48], [49], [50], [51]])) := by rw [same _ hLd]; exact upd_same
  have kp1 : Keep d h h1 := (Keep.refl.new hL).same same
  refine for_of rfl (fun i env h' => inv1 d h i env h') ?_ (fun _ _ _ _ _ => trivial) (fun i v env h' N hv I hN => ?_) (fun env h2 I => ?_)
  · refine ⟨_, L, none, none, none, rfl, hL1, hL, ⟨?_, ?_⟩, by decide, by decide, dr1, kp1⟩
    · intro s hs
      simp only [List.mem_cons, List.not_mem_nil, or_false] at hs
      rcases hs with e | e | e | e <;> subst e <;> exact ⟨by decide, by decide, by simp⟩
    · simp [Apart]
  · have hi : i < 4 := by
      have := (List.getElem?_eq_some_iff.mp hv).1
      rw [rng_len] at this
      omega
    exact codes1 Γ h5 I hi hN
  · obtain ⟨ls, L2, x, y, z, rfl, hL2, nL, lv, l1, l2, dr2, kp2⟩ := I
    rw [rng_len] at l2
    show wpB Γ (.cons (.set 5 (.lst _)) (.cons (.set 6 _) (.cons (.for_ _ _ b__law_codes.tl.tl.tl.tl.hd.body) _))) _ _ _
    get_elem_tactic_extensible
    intro T hT
    have hL3 : upd h2 T (.lst [.str [97], .str [98], .str [99], .str [100], .str [101], .str [63]]) L2 = some (.lst (sLs ls)) := by rw [upd_ne (fun e => by rw [e, hT] at hL2; cases hL2)]; exact hL2
    have hT3 : upd h2 T (.lst [.str [97], .str [98], .str [99], .str [100], .str [101], .str [63]]) T = some (.lst (sLs (sing base))) := upd_same
    have nT : h T = none := by
      cases e : h T with
      | none => rfl
      | some o => have q := kp2 T o (dr2.ne hT) e; rw [hT] at q; cases q
    have dr3 := dr2.wr (o := .lst [.str [97], .str [98], .str [99], .str [100], .str [101], .str [63]]) hT
    have kp3 := kp2.new (o := .lst [.str [97], .str [98], .str [99], .str [100], .str [101], .str [63]]) hT
    have LT : L2 ≠ T := fun e => by rw [e, hT] at hL2; cases hL2
    show wpB Γ _ _ _ (upd h2 T (.lst [.str [97], .str [98], .str [99], .str [100], .str [101], .str [63]]))
    generalize upd h2 T (.lst [.str [97], .str [98], .str [99], .str [100], .str [101], .str [63]]) = g3 at *
    get_elem_tactic_extensible
    intro D hD
    have nD : h D = none := by
      cases e : h D with
      | none => rfl
      | some o => have q := kp3 D o (dr3.ne hD) e; rw [hD] at q; cases q
    have LD : L2 ≠ D := fun e => by rw [e, hD] at hL3; cases hL3
    have TD : T ≠ D := fun e => by rw [e, hD] at hT3; cases hT3
    have hL4 : upd g3 D (.dct []) L2 = some (.lst (sLs ls)) := by rw [upd_ne LD]; exact hL3
    have rdL4 := rd_lst hL4
    get_elem_tactic_extensible
    refine r_call h5 ?_
    get_elem_tactic_extensible
    rw [slen]
    refine ⟨d, _, rfl, dr3.wr hD, by split <;> omega, by split <;> omega, fun m h5' m0 m1 dr5 same5 => ?_⟩
    get_elem_tactic_extensible
    have mb : m < 6 ∧ m < ls.length := by split at m1 <;> omega
    refine ⟨by omega, ?_⟩
    have kp5 : Keep d h h5' := (kp3.new hD).same same5
    have hd4 := dr3.wr (o := .dct []) hD
    refine for_of rfl (fun i env h' => inv2 d h ls.length i env h') ?_ (fun _ _ _ _ _ => trivial) (fun i v env h' N hv I hN => ?_) (fun env h6 I => ?_)
    · refine ⟨ls, base, [], L2, T, D, _, _, _, _, rfl, ?_, ?_, ?_, nL, nT, nD, LT, LD, TD, List.Perm.refl _, lv, rfl, rfl, dr5, kp5⟩
      · rw [same5 _ (hd4.notStr hL4 (by omega)).1]; exact hL4
      · rw [same5 _ (dr3.notStr hT3 (by decide)).1, upd_ne TD]; exact hT3
      · rw [same5 _ (dr3.ne hD)]; exact upd_same
    · have hi := (List.getElem?_eq_some_iff.mp hv).1
      rw [rng_len] at hi
      exact codes2 Γ h5 I (by omega) (by omega) (by omega) hN
    · rw [rng_len] at I
      obtain ⟨ls', lt, kvs, L', T', D', x', y', z', u', rfl, J⟩ := I
      get_elem_tactic_extensible
      have nd : (kvs.map (·.1) ++ lt).Nodup := J.per.nodup_iff.mpr (by decide)
      refine k _ kvs _ J.nD J.hD ⟨⟨by rw [J.len]; omega, by rw [J.len]; omega⟩, (List.nodup_append.mp nd).1, fun p hp => J.per.mem_iff.mp (List.mem_append_left _ (List.mem_map.mpr ⟨p, hp, rfl⟩)), ⟨fun s hs => J.lv.all s (List.mem_append_left _ hs), (List.pairwise_append.mp J.lv.ap).1⟩⟩ J.dr J.kp
end Bk
set_option Elab.async false
set_option linter.all false
set_option maxRecDepth 100000
set_option maxHeartbeats 4000000
namespace Bk
open Bc
local macro_rules | `(tactic| get_elem_tactic_extensible) => `(tactic| repeat with_reducible (first | refine rc_true ?_ | refine rc_false ?_ | refine ro_b ?_ | refine ro_i ?_ | refine ro_r ?_ | refine ro_t ?_ | refine mb_cons ?_ | refine mb_nil ?_ | refine r_var rfl ?_ | refine r_lit ?_ | refine r_nil ?_ | refine r_cons ?_ | refine r_sub ?_ | refine r_attr ?_ | refine r_cmp ?_ | refine r_cmp2 ?_ | refine r_bin ?_ | refine r_not ?_ | refine r_and ?_ | refine r_or ?_ | refine r_ite ?_ | refine r_slF ?_ | refine r_slT ?_ | refine r_slB ?_ | refine r_tup ?_ | refine r_lst ?_ | refine r_dct ?_ | refine r_bi ?_ | refine r_bm ?_ | refine r_isin ?_ | refine r_meth ?_ | refine rt_yes ?_ | refine rt_cmp ?_ | refine rt_cmp2 ?_ | refine rt_tru ?_ | refine rt_not ?_ | refine rt_and ?_ | refine rt_or ?_ | refine rt_bool ?_ | refine rt_non ?_ | refine rt_int ?_ | refine rt_tup ?_ | refine b_addI ?_ | refine b_subI ?_ | refine q_ii ?_ | refine q_ss ?_ | refine n_ii ?_ | refine n_ss ?_ | refine q_ns ?_ | refine q_sn ?_ | refine l_lt ?_ | refine l_le ?_ | refine l_gt ?_ | refine l_ge ?_ | refine i_non ?_ | refine i_str ?_ | refine i_int ?_ | refine i_ref ?_ | refine i_tup' ?_ | refine j_non ?_ | refine j_str ?_ | refine j_int ?_ | refine j_ref ?_ | refine j_tup ?_ | refine m_str ?_ | refine mn_str ?_ | refine n_tup ?_ | refine n_int ?_ | refine n_intb ?_ | refine n_min ?_ | refine n_listT ?_ | refine ms_set ?_ | refine ms_unpT ?_ | refine ms_unpL ?_ | refine ms_par2 ?_ | refine ms_sset ?_ | refine ms_aset ?_ | refine ms_aug rfl ?_ | refine ms_exp ?_ | refine ms_ret ?_ | refine ms_retN ?_ | refine ms_ite ?_ | refine ms_brk ?_ | refine ms_pass ?_ | refine ms_raise ?_ | refine s_lst (by assumption) rfl rfl ?_ | refine s_tup rfl rfl ?_ | refine n_lst (by assumption) ?_ | refine n_dct (by assumption) ?_ | refine a_ins (by assumption) rfl ?_ | refine r_comp ?_ | refine r_dcomp ?_ | refine ms_for ?_ | refine w_lst ?_ | refine w_tup ?_ | refine w_str ?_ | refine w_dct ?_ | refine w_rng1 ?_ | refine w_rng2 ?_ | refine w_enL ?_ | refine w_enT ?_ | refine w_enS ?_ | refine k_tup ?_ | refine k_str ?_ | refine k_lst (by assumption) ?_ | refine bm_starts ?_ | refine set_l (by assumption) rfl ?_ | refine ro_b1 ?_ | refine ro_b2 ?_ | refine ro_m2 ?_ | refine rc_nt ?_ | refine rc_nf ?_))

/-! ### what is asked of names and codes -/
def Ext (h h' : Heap) : Prop := ∀ a o, h a = some o → h' a = some o
theorem Ext.refl {h : Heap} : Ext h h := fun _ _ e => e
theorem Ext.trans {h h1 h2 : Heap} (a : Ext h h1) (b : Ext h1 h2) : Ext h h2 := fun x o e => b x o (a x o e)
theorem Ext.new {p : Nat} {h : Heap} {o : Obj} (e : h p = none) : Ext h (upd h p o) := fun x u z => by
  rw [upd_ne (fun w => by rw [w, e] at z; cases z)]
  exact z
theorem Ext.wr {p : Nat} {h h1 : Heap} {o : Obj} (a : Ext h h1) (e : h1 p = none) : Ext h (upd h1 p o) := a.trans (.new e)
/-- a value of which a text is asked -/
def okV : Val → Prop
  | .str s => s.length ≤ 1000
  | .non => True
  | .int _ => True
  | .bool _ => True
  | .tup _ => True
  | _ => False
def isOf (v : Val) (cs : List Nat) : Bool := match v with
  | .str s => s.all fun c => decide (c ∈ cs)
  | _ => false
def lenV : Val → Nat
  | .str s => s.length
  | _ => 0
theorem okV_ty {v : Val} {h : Heap} (o : okV v) : (∃ s, v = .str s ∧ s.length ≤ 1000 ∧ tyIs .str v h = some true) ∨ (tyIs .str v h = some false ∧ ∀ cs, isOf v cs = false) := by
  cases v with
  | str s => exact .inl ⟨s, rfl, o, rfl⟩
  | non => exact .inr ⟨rfl, fun _ => rfl⟩
  | int i => exact .inr ⟨rfl, fun _ => rfl⟩
  | bool b => exact .inr ⟨rfl, fun _ => rfl⟩
  | tup xs => exact .inr ⟨rfl, fun _ => rfl⟩
  | ref a => exact o.elim
  | cd k => exact o.elim
def sp_is_of : Spec := fun vs h Q _ => ∃ v cs, vs = [v, .str cs] ∧ okV v ∧ ∀ h', Ext h h' → Q (.bool (isOf v cs)) h'
theorem signs_all {s : List Nat} {f : Nat → Bool} {g : Val → Val} (hg : ∀ c, g (.str [c]) = .bool (f c)) : allBool ((signs s).map g) = some (s.map f) := by
  induction s with
  | nil => rfl
  | cons c r ih =>
    show allBool (g (.str [c]) :: (signs r).map g) = _
    rw [hg]
    show (allBool ((signs r).map g)).map (f c :: ·) = _
    rw [ih]
    rfl
theorem filter_yes {xs : List Val} : xs.filter (fun _ => true) = xs := List.filter_eq_self.mpr fun _ _ => rfl
theorem signs_len {s : List Nat} : (signs s).length = s.length := by unfold signs; rw [List.length_map]
theorem wp_is_of (Γ : Ctx) : ∀ vs h Q E, sp_is_of vs h Q E → wpF Γ 3 b_is_of vs h Q E := by
  rintro vs h Q E ⟨v, cs, rfl, o, k⟩
  refine wpF_of ?_
  show wpB Γ (.cons _ .nil) _ [some v, some (.str cs), none] _
  get_elem_tactic_extensible
  rcases okV_ty (h := h) o with ⟨s, rfl, l, e⟩ | ⟨e, f⟩
  · refine ro_some e ?_
    get_elem_tactic_extensible
    refine comp_pure (fun _ => true) (fun v => .bool (match v with | .str [c] => decide (c ∈ cs) | _ => false)) (by show (signs s).length ≤ _; rw [signs_len]; unfold sizeMax; omega) trivial (fun v hv acc K hl q => ?_) ?_
    · have hv : v ∈ signs s := hv
      unfold signs at hv
      obtain ⟨c, _, rfl⟩ := List.mem_map.mp hv
      get_elem_tactic_extensible
      exact ⟨hl, q⟩
    · intro p hp
      rw [filter_yes]
      get_elem_tactic_extensible
      refine n_all (bs := s.map fun c => decide (c ∈ cs)) (rd_lst upd_same) (signs_all fun c => rfl) ?_
      get_elem_tactic_extensible
      have e : (List.map (fun c => decide (c ∈ cs)) s).all id = isOf (.str s) cs := by rw [List.all_map]; rfl
      rw [e]
      exact k _ (.new hp)
  · refine ro_some e ?_
    get_elem_tactic_extensible
    rw [← f cs]
    exact k _ .refl
def small : List Nat := (List.range 26).map (· + 97)
def isName (v : Val) : Bool := isOf v small && decide (1 ≤ lenV v) && decide (lenV v ≤ 8)
def sp_is_name : Spec := fun vs h Q _ => ∃ v, vs = [v] ∧ okV v ∧ ∀ h', Ext h h' → Q (.bool (isName v)) h'
theorem wp_is_name (Γ : Ctx) (h1 : Γ.fn 1 = sp_is_of) (g2 : Γ.glob 2 = some (.str small)) : ∀ vs h Q E, sp_is_name vs h Q E → wpF Γ 1 b_is_name vs h Q E := by
  rintro vs h Q E ⟨v, rfl, o, k⟩
  refine wpF_of ?_
  show wpB Γ (.cons _ .nil) _ [some v] _
  get_elem_tactic_extensible
  refine r_call h1 ?_
  get_elem_tactic_extensible
  refine r_glob g2 ?_
  get_elem_tactic_extensible
  refine ⟨v, small, rfl, o, fun h' x => ?_⟩
  get_elem_tactic_extensible
  refine rc_split (fun hb => ?_) (fun hb => ?_)
  · cases v with
    | str s =>
      get_elem_tactic_extensible
      refine n_str (by have : s.length ≤ 1000 := o; unfold sizeMax; omega) ?_
      get_elem_tactic_extensible
      refine rc_dec (fun hc => ?_) (fun hc => ?_)
      · get_elem_tactic_extensible
        have e : decide ((s.length : Int) ≤ 8) = isName (.str s) := by unfold isName lenV; rw [hb]; by_cases z : s.length ≤ 8 <;> simp [z] <;> omega
        rw [e]
        exact k _ x
      · have e : false = isName (.str s) := by unfold isName lenV; rw [hb]; simp; omega
        rw [e]
        exact k _ x
    | _ => exact absurd hb (by simp [isOf])
  · have e : false = isName v := by unfold isName; rw [hb]; rfl
    rw [e]
    exact k _ x
end Bk
set_option Elab.async false
set_option linter.all false
set_option maxRecDepth 100000
set_option maxHeartbeats 4000000
namespace Bk
open Bc
local macro_rules | `(tactic| get_elem_tactic_extensible) => `(tactic| repeat with_reducible (first | refine rc_true ?_ | refine rc_false ?_ | refine ro_b ?_ | refine ro_i ?_ | refine ro_r ?_ | refine ro_t ?_ | refine mb_cons ?_ | refine mb_nil ?_ | refine r_var rfl ?_ | refine r_lit ?_ | refine r_nil ?_ | refine r_cons ?_ | refine r_sub ?_ | refine r_attr ?_ | refine r_cmp ?_ | refine r_cmp2 ?_ | refine r_bin ?_ | refine r_not ?_ | refine r_and ?_ | refine r_or ?_ | refine r_ite ?_ | refine r_slF ?_ | refine r_slT ?_ | refine r_slB ?_ | refine r_tup ?_ | refine r_lst ?_ | refine r_dct ?_ | refine r_bi ?_ | refine r_bm ?_ | refine r_isin ?_ | refine r_meth ?_ | refine rt_yes ?_ | refine rt_cmp ?_ | refine rt_cmp2 ?_ | refine rt_tru ?_ | refine rt_not ?_ | refine rt_and ?_ | refine rt_or ?_ | refine rt_bool ?_ | refine rt_non ?_ | refine rt_int ?_ | refine rt_tup ?_ | refine b_addI ?_ | refine b_subI ?_ | refine q_ii ?_ | refine q_ss ?_ | refine n_ii ?_ | refine n_ss ?_ | refine q_ns ?_ | refine q_sn ?_ | refine l_lt ?_ | refine l_le ?_ | refine l_gt ?_ | refine l_ge ?_ | refine i_non ?_ | refine i_str ?_ | refine i_int ?_ | refine i_ref ?_ | refine i_tup' ?_ | refine j_non ?_ | refine j_str ?_ | refine j_int ?_ | refine j_ref ?_ | refine j_tup ?_ | refine m_str ?_ | refine mn_str ?_ | refine n_tup ?_ | refine n_int ?_ | refine n_intb ?_ | refine n_min ?_ | refine n_listT ?_ | refine ms_set ?_ | refine ms_unpT ?_ | refine ms_unpL ?_ | refine ms_par2 ?_ | refine ms_sset ?_ | refine ms_aset ?_ | refine ms_aug rfl ?_ | refine ms_exp ?_ | refine ms_ret ?_ | refine ms_retN ?_ | refine ms_ite ?_ | refine ms_brk ?_ | refine ms_pass ?_ | refine ms_raise ?_ | refine s_lst (by assumption) rfl rfl ?_ | refine s_tup rfl rfl ?_ | refine n_lst (by assumption) ?_ | refine n_dct (by assumption) ?_ | refine a_ins (by assumption) rfl ?_ | refine r_comp ?_ | refine r_dcomp ?_ | refine ms_for ?_ | refine w_lst ?_ | refine w_tup ?_ | refine w_str ?_ | refine w_dct ?_ | refine w_rng1 ?_ | refine w_rng2 ?_ | refine w_enL ?_ | refine w_enT ?_ | refine w_enS ?_ | refine k_tup ?_ | refine k_str ?_ | refine k_lst (by assumption) ?_ | refine bm_starts ?_ | refine set_l (by assumption) rfl ?_ | refine ro_b1 ?_ | refine ro_b2 ?_ | refine ro_m2 ?_ | refine rc_nt ?_ | refine rc_nf ?_))

theorem cdV_get {kvs : Codes} (nd : (kvs.map (·.1)).Nodup) {q : Nat × List Nat} (hq : q ∈ kvs) : dget (cdV kvs) (.str [q.1]) = some (.str q.2) := by
  induction kvs with
  | nil => cases hq
  | cons p r ih =>
    rw [List.map_cons, List.nodup_cons] at nd
    unfold dget cdV
    rw [List.map_cons, List.find?_cons]
    rw [show keyEq (Val.str [p.1]) (Val.str [q.1]) = decide (p.1 = q.1) from keyEq_sing]
    rcases List.mem_cons.mp hq with e | e
    · subst e
      rw [decide_eq_true rfl]
      rfl
    · rw [decide_eq_false (fun z => nd.1 (List.mem_map.mpr ⟨q, e, z.symm⟩))]
      exact ih nd.2 e
theorem cdV_no {kvs : Codes} {c : Nat} (hc : c ∉ kvs.map (·.1)) : dget (cdV kvs) (.str [c]) = none := by
  unfold dget
  rw [List.find?_eq_none.mpr]
  · rfl
  · intro p hp
    unfold cdV at hp
    obtain ⟨q, hq, e⟩ := List.mem_map.mp hp
    subst e
    rw [keyEq_sing]
    simp only [decide_eq_true_eq]
    exact fun z => hc (List.mem_map.mpr ⟨q, hq, z⟩)
theorem keys_at {kvs : Codes} {i : Nat} {v : Val} (h : (keysOf (cdV kvs))[i]? = some v) : ∃ q, kvs[i]? = some q ∧ v = .str [q.1] := by
  unfold keysOf cdV at h
  rw [List.map_map, List.getElem?_map] at h
  cases e : kvs[i]? with
  | none => rw [e] at h; cases h
  | some q => rw [e] at h; cases h; exact ⟨q, rfl, rfl⟩
theorem keys_mem {kvs : Codes} {v : Val} (h : v ∈ keysOf (cdV kvs)) : ∃ q ∈ kvs, v = .str [q.1] := by
  obtain ⟨i, e⟩ := List.mem_iff_getElem?.mp h
  obtain ⟨q, e2, e3⟩ := keys_at e
  exact ⟨q, List.mem_of_getElem? e2, e3⟩
theorem ty_dct {h : Heap} {p : Nat} {kvs : List (Val × Val)} (e : h p = some (.dct kvs)) : tyIs .dct (.ref p) h = some true := by unfold tyIs; simp only [e]
theorem cut_lo {α : Type} {xs : List α} {m : Nat} (h : m ≤ xs.length) : cutL xs (some (m : Int)) none = xs.drop m := by
  have e : clip xs.length 0 (some (m : Int)) = m := by show (if (m : Int) < 0 then ((m : Int) + (xs.length : Int)).toNat else min (m : Int).toNat xs.length) = m; rw [if_neg (by omega), Int.toNat_natCast, Nat.min_eq_left h]
  show (xs.drop (clip xs.length 0 (some (m : Int)))).take (xs.length - clip xs.length 0 (some (m : Int))) = _
  rw [e]
  exact List.take_of_length_le (by rw [List.length_drop]; exact Nat.le_refl _)
def bytes : List Nat := [48, 49, 50, 51]
theorem leaf_bytes {s : List Nat} (l : Leaf s) : isOf (.str s) bytes = true := by
  show s.all _ = true
  rw [List.all_eq_true]
  intro c hc
  have := l.2.2 c hc
  simp only [decide_eq_true_eq, bytes, List.mem_cons, List.not_mem_nil, or_false]
  omega
/-- behind a walk over a dict -/
theorem Ext.back {h h1 : Heap} {p : Nat} {o u : Obj} (e : h p = some o) (x : Ext (upd h p u) h1) : Ext h (upd h1 p o) := fun a w z => by
  by_cases q : a = p
  · subst q; rw [e] at z; cases z; exact upd_same
  · rw [upd_ne q]; exact x a w (by rw [upd_ne q]; exact z)
theorem not_pre {a b : List Nat} (h : Apart a b) : isPre a b = false := by
  unfold isPre
  cases e : a.isPrefixOf b with
  | false => rfl
  | true => exact absurd (List.isPrefixOf_iff_prefix.mp e) h.1
theorem apart_at {ls : List (List Nat)} (pw : ls.Pairwise Apart) {k : Nat} {s t : List Nat} (hk : ls[k]? = some s) (ht : t ∈ ls.eraseIdx k) : Apart s t := by
  have q := ((perm_at hk).pairwise_iff (R := Apart) (fun x => x.symm)).mpr pw
  rw [List.pairwise_cons] at q
  exact q.1 t ht
theorem zip_at {n i : Nat} {xs : List Val} {v : Val} (h : (zipIx n xs)[i]? = some v) : ∃ x, xs[i]? = some x ∧ v = .tup [.int ((n + i : Nat) : Int), x] := by
  induction xs generalizing n i with
  | nil => cases h
  | cons y r ih =>
    cases i with
    | zero => cases h; exact ⟨y, rfl, rfl⟩
    | succ i =>
      obtain ⟨x, e1, e2⟩ := ih (n := n + 1) (i := i) h
      exact ⟨x, e1, by rw [e2, show n + 1 + i = n + (i + 1) by omega]⟩
theorem zip_len {n : Nat} {xs : List Val} : (zipIx n xs).length = xs.length := by
  induction xs generalizing n with
  | nil => rfl
  | cons y r ih => exact congrArg (· + 1) ih
theorem strs_at {ls : List (List Nat)} {i : Nat} {v : Val} (h : (sLs ls)[i]? = some v) : ∃ s, ls[i]? = some s ∧ v = .str s := by
  unfold sLs at h
  rw [List.getElem?_map] at h
  cases e : ls[i]? with
  | none => rw [e] at h; cases h
  | some s => rw [e] at h; cases h; exact ⟨s, rfl, rfl⟩
def sp_are : Spec := fun vs h Q _ => ∃ p kvs, vs = [.ref p] ∧ h p = some (.dct (cdV kvs)) ∧ Good kvs ∧ ∀ h', Ext h h' → Q (.bool true) h'
theorem are1 (Γ : Ctx) (h1 : Γ.fn 1 = sp_is_of) (g0 : Γ.glob 0 = some (.str bytes)) (g1 : Γ.glob 1 = some (.str base)) {p : Nat} {kvs : Codes} {h h' : Heap} {K : Kont} {q : Nat × List Nat} {y z u v : Option Val} (G : Good kvs) (hq : q ∈ kvs) (ex : Ext (upd h p (.frz (.dct (cdV kvs)))) h')
    (hN : ∀ x h2, Ext (upd h p (.frz (.dct (cdV kvs)))) h2 → K.nx [some (.ref p), some (.str [q.1]), x, z, u, v] h2) : wpB Γ (b_are_codes.tl.hd.body) K [some (.ref p), some (.str [q.1]), y, z, u, v] h' := by
  have hp : rd h' p = some (.dct (cdV kvs)) := rd_frz (ex p _ upd_same)
  have lf : Leaf q.2 := G.lv.all _ (List.mem_map.mpr ⟨q, hq, rfl⟩)
  obtain ⟨f1, f2, f3⟩ := id lf
  show wpB Γ (.cons (.set 2 _) (.cons _ .nil)) _ _ _
  get_elem_tactic_extensible
  refine s_dct hp rfl (cdV_get G.nd hq) ?_
  get_elem_tactic_extensible
  refine r_call h1 ?_
  get_elem_tactic_extensible
  refine r_glob g1 ?_
  get_elem_tactic_extensible
  refine ⟨_, _, rfl, by show 1 ≤ 1000; decide, fun h2 x2 => ?_⟩
  have e1 : isOf (.str [q.1]) base = true := by show ([q.1].all fun c => decide (c ∈ base)) = true; rw [List.all_eq_true]; intro c hc; rw [List.mem_singleton] at hc; subst hc; exact decide_eq_true (G.mem q hq)
  rw [e1]
  get_elem_tactic_extensible
  refine n_str (by show 1 ≤ sizeMax; decide) ?_
  get_elem_tactic_extensible
  refine rc_ndec (fun z => absurd rfl z) (fun _ => ?_)
  get_elem_tactic_extensible
  refine r_call h1 ?_
  get_elem_tactic_extensible
  refine r_glob g0 ?_
  get_elem_tactic_extensible
  refine ⟨_, _, rfl, by show _ ≤ 1000; omega, fun h3 x3 => ?_⟩
  rw [leaf_bytes lf]
  get_elem_tactic_extensible
  refine n_str (by unfold sizeMax; omega) ?_
  get_elem_tactic_extensible
  refine rc_dec (fun _ => ?_) (fun z => absurd (by omega) z)
  get_elem_tactic_extensible
  rw [decide_eq_true (by omega)]
  get_elem_tactic_extensible
  exact hN _ _ ((ex.trans x2).trans x3)

theorem wp_are (Γ : Ctx) (h1 : Γ.fn 1 = sp_is_of) (g0 : Γ.glob 0 = some (.str bytes)) (g1 : Γ.glob 1 = some (.str base)) : ∀ vs h Q E, sp_are vs h Q E → wpF Γ 6 b_are_codes vs h Q E := by
  rintro vs h Q E ⟨p, kvs, rfl, hp, G, k⟩
  have lc : (cdV kvs).length = kvs.length := cdV_len
  have l6 := G.len
  refine wpF_of ?_
  show wpB Γ (.cons _ (.cons (.for_ _ _ b_are_codes.tl.hd.body) (.cons _ (.cons _ _)))) _ [some (.ref p), none, none, none, none, none] _
  get_elem_tactic_extensible
  refine ro_some (ty_dct hp) ?_
  get_elem_tactic_extensible
  refine rc_dec (fun _ => ?_) (fun z => absurd (by omega) z)
  get_elem_tactic_extensible
  rw [decide_eq_true (by omega)]
  get_elem_tactic_extensible
  refine k_dct hp ?_
  refine for_dct hp (fun i env h' => ∃ x y, env = [some (.ref p), x, y, none, none, none] ∧ Ext (upd h p (.frz (.dct (cdV kvs)))) h') ⟨none, none, rfl, .refl⟩ (fun i env h' _ I => ?_) (fun i v env h' N hv I hN => ?_) (fun env h' I => ?_)
  · obtain ⟨x, y, _, ex⟩ := I
    exact ex p _ upd_same
  · obtain ⟨x, y, rfl, ex⟩ := I
    obtain ⟨q, e1, rfl⟩ := keys_at hv
    get_elem_tactic_extensible
    exact are1 Γ h1 g0 g1 G (List.mem_of_getElem? e1) ex fun x h2 e2 => hN _ _ ⟨_, _, rfl, e2⟩
  · obtain ⟨x, y, rfl, ex⟩ := I
    have hp2 : upd h' p (.dct (cdV kvs)) p = some (.dct (cdV kvs)) := upd_same
    have ex2 : Ext h (upd h' p (.dct (cdV kvs))) := Ext.back hp ex
    generalize upd h' p (.dct (cdV kvs)) = g at *
    get_elem_tactic_extensible
    refine k_dct hp2 ?_
    refine comp_dct hp2 (fun _ => true) (fun v => (dget (cdV kvs) v).getD .non) (by rw [lc]; unfold sizeMax; omega) (fun v hv acc K hl q => ?_) ?_
    · obtain ⟨c, hc, rfl⟩ := keys_mem hv
      have hr : rd (upd g p (.frz (.dct (cdV kvs)))) p = some (.dct (cdV kvs)) := rd_frz upd_same
      get_elem_tactic_extensible
      refine s_dct hr rfl (cdV_get G.nd hc) ?_
      rw [cdV_get G.nd hc] at q
      exact ⟨hl, q⟩
    · refine unlock_dct hp2 upd_same ?_
      rw [upd_upd, upd_id hp2]
      intro C hC
      rw [filter_yes]
      have em : (keysOf (cdV kvs)).map (fun v => (dget (cdV kvs) v).getD .non) = sLs (kvs.map (·.2)) := by
        apply List.ext_getElem?
        intro i
        rw [List.getElem?_map]
        unfold sLs
        rw [List.getElem?_map, List.getElem?_map]
        unfold keysOf
        rw [List.getElem?_map]
        unfold cdV
        rw [List.getElem?_map]
        cases e : kvs[i]? with
        | none => rfl
        | some c =>
          show some ((dget (cdV kvs) (.str [c.1])).getD .non) = some (.str c.2)
          rw [cdV_get G.nd (List.mem_of_getElem? e)]
          rfl
      rw [em]
      have hC2 : upd g C (.lst (sLs (kvs.map (·.2)))) C = some (.lst (sLs (kvs.map (·.2)))) := upd_same
      have ex3 : Ext h (upd g C (.lst (sLs (kvs.map (·.2))))) := ex2.wr hC
      show wpB Γ _ _ _ (upd g C (.lst (sLs (kvs.map (·.2)))))
      generalize upd g C (.lst (sLs (kvs.map (·.2)))) = g2 at *
      have rdC := rd_lst hC2
      get_elem_tactic_extensible
      refine for_of rfl (fun i env h' => ∃ x y z w, env = [some (.ref p), x, y, some (.ref C), z, w] ∧ Ext g2 h') ⟨_, _, _, _, rfl, .refl⟩ (fun i env h' _ I => ?_) (fun i v env h' N hv I hN => ?_) (fun env h' I => ?_)
      · obtain ⟨x, y, z, w, _, e2⟩ := I
        exact rd_lst (e2 C _ hC2)
      · obtain ⟨x, y, z, w, rfl, e2⟩ := I
        obtain ⟨s0, es, rfl⟩ := zip_at hv
        obtain ⟨s, es2, rfl⟩ := strs_at es
        have hi : i < (kvs.map (·.2)).length := (List.getElem?_eq_some_iff.mp es2).1
        have rdC2 := rd_lst (e2 C _ hC2)
        get_elem_tactic_extensible
        refine sl_lst rdC2 fun A hA => ?_
        rw [Nat.zero_add, cut_hi (by rw [slen]; omega)]
        have rdC3 : rd (upd h' A (.lst ((sLs (kvs.map (·.2))).take i))) C = some (.lst (sLs (kvs.map (·.2)))) := rd_lst ((e2.wr hA) C _ hC2)
        get_elem_tactic_extensible
        refine sl_lst rdC3 fun B hB => ?_
        rw [show ((i : Int) + 1) = ((i + 1 : Nat) : Int) by omega, cut_lo (by rw [slen]; omega)]
        refine b_addL (by rw [upd_ne (fun e => by rw [← e, upd_same] at hB; cases hB)]; exact upd_same) upd_same (by rw [List.length_take, List.length_drop, slen, List.length_map]; unfold sizeMax; omega) fun D hD => ?_
        have eD : (sLs (kvs.map (·.2))).take i ++ (sLs (kvs.map (·.2))).drop (i + 1) = sLs ((kvs.map (·.2)).eraseIdx i) := by rw [← strs_erase, List.eraseIdx_eq_take_drop_succ]
        rw [eD]
        have e3 : Ext g2 (upd (upd (upd h' A (.lst ((sLs (kvs.map (·.2))).take i))) B (.lst ((sLs (kvs.map (·.2))).drop (i + 1)))) D (.lst (sLs ((kvs.map (·.2)).eraseIdx i)))) := ((e2.wr hA).wr hB).wr hD
        have hD2 : (upd (upd (upd h' A (.lst ((sLs (kvs.map (·.2))).take i))) B (.lst ((sLs (kvs.map (·.2))).drop (i + 1)))) D (.lst (sLs ((kvs.map (·.2)).eraseIdx i)))) D = some (.lst (sLs ((kvs.map (·.2)).eraseIdx i))) := upd_same
        generalize (upd (upd (upd h' A (.lst ((sLs (kvs.map (·.2))).take i))) B (.lst ((sLs (kvs.map (·.2))).drop (i + 1)))) D (.lst (sLs ((kvs.map (·.2)).eraseIdx i)))) = g3 at *
        have rdD := rd_lst hD2
        get_elem_tactic_extensible
        refine for_of rfl (fun _ env h' => ∃ x w, env = [some (.ref p), x, some (.str s), some (.ref C), some (.int (i : Int)), w] ∧ h' = g3) ⟨_, _, rfl, rfl⟩ (fun i env h' _ I => ?_) (fun j v env h' N hv I hN => ?_) (fun env h' I => ?_)
        · obtain ⟨_, _, _, rfl⟩ := I
          exact rdD
        · obtain ⟨x, w, rfl, rfl⟩ := I
          obtain ⟨t, et, rfl⟩ := strs_at hv
          have ap := apart_at G.lv.ap es2 (List.mem_of_getElem? et)
          get_elem_tactic_extensible
          refine ⟨trivial, ?_⟩
          get_elem_tactic_extensible
          rw [not_pre ap]
          get_elem_tactic_extensible
          exact hN _ _ ⟨_, _, rfl, rfl⟩
        · obtain ⟨x, w, rfl, rfl⟩ := I
          get_elem_tactic_extensible
          exact hN _ _ ⟨_, _, _, _, rfl, e3⟩
      · obtain ⟨x, y, z, w, rfl, e2⟩ := I
        get_elem_tactic_extensible
        exact k _ (ex3.trans e2)
end Bk
set_option Elab.async false
set_option linter.all false
set_option maxRecDepth 100000
set_option maxHeartbeats 4000000
namespace Bk
open Bc
local macro_rules | `(tactic| get_elem_tactic_extensible) => `(tactic| repeat with_reducible (first | refine rc_true ?_ | refine rc_false ?_ | refine ro_b ?_ | refine ro_i ?_ | refine ro_r ?_ | refine ro_t ?_ | refine mb_cons ?_ | refine mb_nil ?_ | refine r_var rfl ?_ | refine r_lit ?_ | refine r_nil ?_ | refine r_cons ?_ | refine r_sub ?_ | refine r_attr ?_ | refine r_cmp ?_ | refine r_cmp2 ?_ | refine r_bin ?_ | refine r_not ?_ | refine r_and ?_ | refine r_or ?_ | refine r_ite ?_ | refine r_slF ?_ | refine r_slT ?_ | refine r_slB ?_ | refine r_tup ?_ | refine r_lst ?_ | refine r_dct ?_ | refine r_bi ?_ | refine r_bm ?_ | refine r_isin ?_ | refine r_meth ?_ | refine rt_yes ?_ | refine rt_cmp ?_ | refine rt_cmp2 ?_ | refine rt_tru ?_ | refine rt_not ?_ | refine rt_and ?_ | refine rt_or ?_ | refine rt_bool ?_ | refine rt_non ?_ | refine rt_int ?_ | refine rt_tup ?_ | refine b_addI ?_ | refine b_subI ?_ | refine q_ii ?_ | refine q_ss ?_ | refine n_ii ?_ | refine n_ss ?_ | refine q_ns ?_ | refine q_sn ?_ | refine l_lt ?_ | refine l_le ?_ | refine l_gt ?_ | refine l_ge ?_ | refine i_non ?_ | refine i_str ?_ | refine i_int ?_ | refine i_ref ?_ | refine i_tup' ?_ | refine j_non ?_ | refine j_str ?_ | refine j_int ?_ | refine j_ref ?_ | refine j_tup ?_ | refine m_str ?_ | refine mn_str ?_ | refine n_tup ?_ | refine n_int ?_ | refine n_intb ?_ | refine n_min ?_ | refine n_listT ?_ | refine ms_set ?_ | refine ms_unpT ?_ | refine ms_unpL ?_ | refine ms_par2 ?_ | refine ms_sset ?_ | refine ms_aset ?_ | refine ms_aug rfl ?_ | refine ms_exp ?_ | refine ms_ret ?_ | refine ms_retN ?_ | refine ms_ite ?_ | refine ms_brk ?_ | refine ms_pass ?_ | refine ms_raise ?_ | refine s_lst (by assumption) rfl rfl ?_ | refine s_tup rfl rfl ?_ | refine n_lst (by assumption) ?_ | refine n_dct (by assumption) ?_ | refine a_ins (by assumption) rfl ?_ | refine r_comp ?_ | refine r_dcomp ?_ | refine ms_for ?_ | refine w_lst ?_ | refine w_tup ?_ | refine w_str ?_ | refine w_dct ?_ | refine w_rng1 ?_ | refine w_rng2 ?_ | refine w_enL ?_ | refine w_enT ?_ | refine w_enS ?_ | refine k_tup ?_ | refine k_str ?_ | refine k_lst (by assumption) ?_ | refine bm_starts ?_ | refine set_l (by assumption) rfl ?_ | refine ro_b1 ?_ | refine ro_b2 ?_ | refine ro_m2 ?_ | refine rc_nt ?_ | refine rc_nf ?_))

/-! ### an encoding -/
def cof (kvs : Codes) (c : Nat) : Option (List Nat) := (kvs.find? fun p => decide (p.1 = c)).map (·.2)
def bof (kvs : Codes) (s : List Nat) : Option Nat := (kvs.find? fun p => decide (p.2 = s)).map (·.1)
def bkV (kvs : Codes) : List (Val × Val) := kvs.map fun p => (.str p.2, .str [p.1])
theorem cof_dget (kvs : Codes) (c : Nat) : dget (cdV kvs) (.str [c]) = (cof kvs c).map Val.str := by
  induction kvs with
  | nil => rfl
  | cons p r ih =>
    unfold dget cof cdV
    rw [List.map_cons, List.find?_cons, List.find?_cons]
    rw [show keyEq (Val.str [p.1]) (Val.str [c]) = decide (p.1 = c) from keyEq_sing]
    cases e : decide (p.1 = c) with
    | true => rfl
    | false => exact ih
theorem bof_dget (kvs : Codes) (s : List Nat) : dget (bkV kvs) (.str s) = (bof kvs s).map fun c => Val.str [c] := by
  induction kvs with
  | nil => rfl
  | cons p r ih =>
    unfold dget bof bkV
    rw [List.map_cons, List.find?_cons, List.find?_cons]
    rw [show keyEq (Val.str p.2) (Val.str s) = decide (p.2 = s) from rfl]
    cases e : decide (p.2 = s) with
    | true => rfl
    | false => exact ih
theorem cof_mem {kvs : Codes} {c : Nat} {s : List Nat} (h : cof kvs c = some s) : (c, s) ∈ kvs := by
  unfold cof at h
  cases e : kvs.find? fun p => decide (p.1 = c) with
  | none => rw [e] at h; cases h
  | some p =>
    rw [e] at h
    cases h
    have := List.find?_some e
    simp only [decide_eq_true_eq] at this
    subst this
    exact List.mem_of_find?_eq_some e
theorem cof_of {kvs : Codes} (nd : (kvs.map (·.1)).Nodup) {p : Nat × List Nat} (h : p ∈ kvs) : cof kvs p.1 = some p.2 := by
  have q := cdV_get nd h
  rw [cof_dget] at q
  cases e : cof kvs p.1 with
  | none => rw [e] at q; cases q
  | some s => rw [e] at q; cases q; rfl
theorem bof_mem {kvs : Codes} {c : Nat} {s : List Nat} (h : bof kvs s = some c) : (c, s) ∈ kvs := by
  unfold bof at h
  cases e : kvs.find? fun p => decide (p.2 = s) with
  | none => rw [e] at h; cases h
  | some p =>
    rw [e] at h
    cases h
    have := List.find?_some e
    simp only [decide_eq_true_eq] at this
    subst this
    exact List.mem_of_find?_eq_some e
theorem bof_none {kvs : Codes} {s : List Nat} (h : bof kvs s = none) : ∀ p ∈ kvs, p.2 ≠ s := by
  unfold bof at h
  intro p hp e
  rw [Option.map_eq_none_iff, List.find?_eq_none] at h
  exact h p hp (decide_eq_true e)
/-- the table's order -/
def inTb (kvs : Codes) (c : Nat) : Bool := (cof kvs c).isSome
def tbl (kvs : Codes) (l : List Nat) : Codes := (l.filter (inTb kvs)).map fun c => (c, (cof kvs c).getD [])
theorem tbl_keys (kvs : Codes) (l : List Nat) : (tbl kvs l).map (·.1) = l.filter (inTb kvs) := by unfold tbl; rw [List.map_map]; exact List.map_id' _
theorem cof_tbl {kvs : Codes} {c : Nat} (hm : ∀ p ∈ kvs, p.1 ∈ base) : cof (tbl kvs base) c = cof kvs c := by
  have nd : ((tbl kvs base).map (·.1)).Nodup := by rw [tbl_keys]; exact List.Nodup.sublist List.filter_sublist (by decide)
  cases e : cof kvs c with
  | some s =>
    have hc : c ∈ base := hm _ (cof_mem e)
    have hm2 : (c, s) ∈ tbl kvs base := by
      unfold tbl
      refine List.mem_map.mpr ⟨c, List.mem_filter.mpr ⟨hc, ?_⟩, ?_⟩
      · unfold inTb; rw [e]; rfl
      · rw [e]; rfl
    exact cof_of nd hm2
  | none =>
    cases e2 : cof (tbl kvs base) c with
    | none => rfl
    | some s =>
      have := cof_mem e2
      unfold tbl at this
      obtain ⟨x, hx, e3⟩ := List.mem_map.mp this
      cases e3
      have q := (List.mem_filter.mp hx).2
      unfold inTb at q
      rw [e] at q
      cases q
def EncAt (h : Heap) (a : Nat) (nm : List Nat) (kvs : Codes) : Prop := ∃ t b, h a = some (.ins 3 [(0, .str nm), (1, .ref t), (2, .ref b)]) ∧ h t = some (.dct (cdV (tbl kvs base))) ∧ h b = some (.dct (bkV kvs))
theorem EncAt.ext {h h' : Heap} {a : Nat} {nm : List Nat} {kvs : Codes} (e : EncAt h a nm kvs) (x : Ext h h') : EncAt h' a nm kvs := let ⟨t, b, e1, e2, e3⟩ := e; ⟨t, b, x _ _ e1, x _ _ e2, x _ _ e3⟩
def KeepA (a : Nat) (h h' : Heap) : Prop := ∀ x o, x ≠ a → h x = some o → h' x = some o
def sp_einit : Spec := fun vs h Q _ => ∃ a nm p kvs, vs = [.ref a, .str nm, .ref p] ∧ h a = some (.ins 3 []) ∧ h p = some (.dct (cdV kvs)) ∧ nm.length ≤ 1000 ∧ isName (.str nm) = true ∧ Good kvs ∧ ∀ h', EncAt h' a nm kvs → KeepA a h h' → Q .non h'
def sp_enc : Spec := fun vs h Q _ => ∃ nm p kvs, vs = [.str nm, .ref p] ∧ h p = some (.dct (cdV kvs)) ∧ nm.length ≤ 1000 ∧ isName (.str nm) = true ∧ Good kvs ∧ ∀ a h', h a = none → EncAt h' a nm kvs → Ext h h' → Q (.ref a) h'
theorem enc_new : ∀ vs h Q E, sp_enc vs h Q E → vs.length + 1 = 3 ∧ ∀ p, h p = none → sp_einit (.ref p :: vs) (upd h p (.ins 3 [])) (fun v h' => v = .non ∧ Q (.ref p) h') E := by
  rintro vs h Q E ⟨nm, p, kvs, rfl, hp, l, n, G, k⟩
  refine ⟨rfl, fun a ha => ⟨a, nm, p, kvs, rfl, upd_same, ?_, l, n, G, fun h' e x => ⟨rfl, k a h' ha e fun b o z => ?_⟩⟩⟩
  · rw [upd_ne (fun e => by rw [e, ha] at hp; cases hp)]; exact hp
  · have ne : b ≠ a := fun e => by rw [e, ha] at z; cases z
    exact x b o ne (by rw [upd_ne ne]; exact z)
theorem tbl_snoc {kvs : Codes} {l : List Nat} {c : Nat} : tbl kvs (l ++ [c]) = if inTb kvs c then tbl kvs l ++ [(c, (cof kvs c).getD [])] else tbl kvs l := by
  unfold tbl
  rw [List.filter_append, List.map_append]
  cases e : inTb kvs c <;> simp [List.filter, e]
theorem bkV_put {kvs : Codes} {c : Nat} {s : List Nat} (h : ∀ p ∈ kvs, p.2 ≠ s) : dput (.str s) (.str [c]) (bkV kvs) = bkV (kvs ++ [(c, s)]) := by
  have e : ((bkV kvs).any fun p => keyEq p.1 (.str s)) = false := by
    rw [List.any_eq_false]
    intro p hp
    unfold bkV at hp
    obtain ⟨q, hq, e⟩ := List.mem_map.mp hp
    subst e
    show ¬ (decide (q.2 = s) = true)
    simp only [decide_eq_true_eq]
    exact h q hq
  unfold dput
  rw [if_neg (by rw [e]; decide)]
  unfold bkV
  rw [List.map_append]
  rfl
theorem Apart.ne {a b : List Nat} (x : Apart a b) : a ≠ b := fun e => x.1 (by rw [e]; exact List.prefix_refl b)
theorem wp_einit (Γ : Ctx) (h2 : Γ.fn 2 = sp_is_name) (h3 : Γ.fn 3 = sp_are) (g1 : Γ.glob 1 = some (.str base)) : ∀ vs h Q E, sp_einit vs h Q E → wpF Γ 4 b_Encoding_init vs h Q E := by
  rintro vs h Q E ⟨a, nm, p, kvs, rfl, ha, hp, l, n, G, k⟩
  have l6 := G.len
  refine wpF_of ?_
  show wpB Γ (.cons _ (.cons _ (.cons _ (.cons _ _)))) _ [some (.ref a), some (.str nm), some (.ref p), none] _
  get_elem_tactic_extensible
  refine r_call h2 ?_
  get_elem_tactic_extensible
  refine ⟨_, rfl, l, fun h1 x1 => ?_⟩
  rw [n]
  get_elem_tactic_extensible
  refine r_call h3 ?_
  get_elem_tactic_extensible
  refine ⟨p, kvs, rfl, x1 _ _ hp, G, fun h4 x4 => ?_⟩
  have x := x1.trans x4
  have ha4 := x _ _ ha
  have hp4 := x _ _ hp
  have hap : p ≠ a := fun e => by rw [e, ha] at hp; cases hp
  get_elem_tactic_extensible
  refine ro_ins ha4 ?_
  refine ⟨by decide, ?_⟩
  have ha5 : upd h4 a (.ins 3 (fput 0 (.str nm) [])) a = some (.ins 3 [(0, .str nm)]) := upd_same
  have hp5 : upd h4 a (.ins 3 (fput 0 (.str nm) [])) p = some (.dct (cdV kvs)) := by rw [upd_ne hap]; exact hp4
  have k5 : KeepA a h (upd h4 a (.ins 3 (fput 0 (.str nm) []))) := fun b o ne z => by rw [upd_ne ne]; exact x b o z
  show wpB Γ _ _ _ (upd h4 a (.ins 3 (fput 0 (.str nm) [])))
  generalize upd h4 a (.ins 3 (fput 0 (.str nm) [])) = g5 at *
  get_elem_tactic_extensible
  refine r_glob g1 ?_
  get_elem_tactic_extensible
  refine goes_of (S := List (Val × Val) × Heap) (fun i s => s = (cdV (tbl kvs (base.take i)), g5)) rfl (fun _ _ _ _ => trivial) (fun i v s K hv I hK => ?_) (fun s I => ?_)
  · subst I
    have hv2 : (signs base)[i]? = some v := hv
    unfold signs at hv2
    rw [List.getElem?_map] at hv2
    cases e : base[i]? with
    | none => rw [e] at hv2; cases hv2
    | some c =>
      rw [e] at hv2
      cases hv2
      have hi : i < base.length := (List.getElem?_eq_some_iff.mp e).1
      have et : base.take (i + 1) = base.take i ++ [c] := by rw [List.take_add_one, e]; rfl
      have rp := rd_dct hp5
      have hK2 := hK (cdV (tbl kvs (base.take (i + 1))), g5) rfl
      rw [et, tbl_snoc] at hK2
      get_elem_tactic_extensible
      refine m_dct rp rfl ?_
      rw [cof_dget]
      get_elem_tactic_extensible
      cases ec : cof kvs c with
      | none =>
        have : inTb kvs c = false := by unfold inTb; rw [ec]; rfl
        rw [this, if_neg (by decide)] at hK2
        exact hK2
      | some s =>
        have : inTb kvs c = true := by unfold inTb; rw [ec]; rfl
        rw [this, if_pos rfl, ec] at hK2
        refine rc_true ?_
        get_elem_tactic_extensible
        refine s_dct rp rfl (by rw [cof_dget, ec]; rfl) ?_
        refine ⟨rfl, ?_, ?_⟩
        · show (cdV (tbl kvs (base.take i))).length < sizeMax
          rw [cdV_len]
          have : (tbl kvs (base.take i)).length ≤ 6 := by
            unfold tbl
            rw [List.length_map]
            refine Nat.le_trans (List.length_filter_le _ _) ?_
            rw [List.length_take]
            show min i 6 ≤ 6
            omega
          unfold sizeMax
          omega
        · show K (dput (.str [c]) (.str s) (cdV (tbl kvs (base.take i))), g5)
          rw [cdV_put]
          · exact hK2
          · rw [tbl_keys]
            intro z
            have z2 := (List.mem_filter.mp z).1
            obtain ⟨j, hj⟩ := List.mem_iff_getElem?.mp z2
            rw [List.getElem?_take] at hj
            split at hj
            · rename_i hji
              have nd : base.Nodup := by decide
              have := (List.getElem?_inj (by omega) nd).mp (hj.trans e.symm)
              omega
            · cases hj
  · have eS : s = (cdV (tbl kvs base), g5) := I
    subst eS
    intro T hT
    have hT : g5 T = none := hT
    have ha6 : upd g5 T (.dct (cdV (tbl kvs base))) a = some (.ins 3 [(0, .str nm)]) := by rw [upd_ne (fun e => by rw [e, hT] at ha5; cases ha5)]; exact ha5
    have hp6 : upd g5 T (.dct (cdV (tbl kvs base))) p = some (.dct (cdV kvs)) := by rw [upd_ne (fun e => by rw [e, hT] at hp5; cases hp5)]; exact hp5
    have hT6 : upd g5 T (.dct (cdV (tbl kvs base))) T = some (.dct (cdV (tbl kvs base))) := upd_same
    have nT : h T = none := by
      cases e : h T with
      | none => rfl
      | some o => have q := k5 T o (fun z => by rw [z, ha5] at hT; cases hT) e; rw [hT] at q; cases q
    have k6 : KeepA a h (upd g5 T (.dct (cdV (tbl kvs base)))) := fun b o ne z => by rw [upd_ne (fun e => by rw [e, nT] at z; cases z)]; exact k5 b o ne z
    have aT : T ≠ a := fun z => by rw [z, ha5] at hT; cases hT
    show wpE Γ _ _ (upd g5 T (.dct (cdV (tbl kvs base)))) _ _
    generalize upd g5 T (.dct (cdV (tbl kvs base))) = g6 at *
    get_elem_tactic_extensible
    refine ro_ins ha6 ⟨by show 1 < 100; decide, ?_⟩
    have ha7 : upd g6 a (.ins 3 (fput 1 (.ref T) [(0, .str nm)])) a = some (.ins 3 [(0, .str nm), (1, .ref T)]) := upd_same
    have hp7 : upd g6 a (.ins 3 (fput 1 (.ref T) [(0, .str nm)])) p = some (.dct (cdV kvs)) := by rw [upd_ne hap]; exact hp6
    have hT7 : upd g6 a (.ins 3 (fput 1 (.ref T) [(0, .str nm)])) T = some (.dct (cdV (tbl kvs base))) := by rw [upd_ne aT]; exact hT6
    have k7 : KeepA a h (upd g6 a (.ins 3 (fput 1 (.ref T) [(0, .str nm)]))) := fun b o ne z => by rw [upd_ne ne]; exact k6 b o ne z
    show wpB Γ _ _ _ (upd g6 a (.ins 3 (fput 1 (.ref T) [(0, .str nm)])))
    generalize upd g6 a (.ins 3 (fput 1 (.ref T) [(0, .str nm)])) = g7 at *
    get_elem_tactic_extensible
    refine k_dct hp7 ?_
    have kl : (keysOf (cdV kvs)).length = kvs.length := by unfold keysOf; rw [List.length_map]; exact cdV_len
    rw [lock_dct hp7]
    refine goes_of (S := List (Val × Val) × Heap) (fun i s => s = (bkV (kvs.take i), upd g7 p (.frz (.dct (cdV kvs))))) rfl (fun _ _ _ I => by subst I; exact upd_same) (fun i v s K hv I hK => ?_) (fun s I => ?_)
    · subst I
      obtain ⟨q, eq, rfl⟩ := keys_at hv
      have hi : i < kvs.length := (List.getElem?_eq_some_iff.mp eq).1
      have et : kvs.take (i + 1) = kvs.take i ++ [q] := by rw [List.take_add_one, eq]; rfl
      have hK2 := hK _ rfl
      rw [et, ← bkV_put (kvs := kvs.take i) (c := q.1) (s := q.2)] at hK2
      · have rp : rd (upd g7 p (.frz (.dct (cdV kvs)))) p = some (.dct (cdV kvs)) := rd_frz upd_same
        get_elem_tactic_extensible
        refine s_dct rp rfl (cdV_get G.nd (List.mem_of_getElem? eq)) ?_
        get_elem_tactic_extensible
        refine ⟨rfl, ?_, hK2⟩
        show (bkV (kvs.take i)).length < sizeMax
        unfold bkV
        rw [List.length_map, List.length_take]
        unfold sizeMax
        omega
      · intro r hr e
        obtain ⟨j, hj⟩ := List.mem_iff_getElem?.mp hr
        rw [List.getElem?_take] at hj
        split at hj
        · rename_i hji
          have e1 : (kvs.map (·.2))[j]? = some r.2 := by rw [List.getElem?_map, hj]; rfl
          have e2 : (kvs.map (·.2))[i]? = some q.2 := by rw [List.getElem?_map, eq]; rfl
          obtain ⟨j1, j2⟩ := List.getElem?_eq_some_iff.mp e1
          obtain ⟨i1, i2⟩ := List.getElem?_eq_some_iff.mp e2
          have ap := (List.pairwise_iff_getElem.mp G.lv.ap) j i j1 i1 hji
          rw [j2, i2] at ap
          exact ap.ne e
        · cases hj
    · rw [kl, List.take_length] at I
      subst I
      refine unlock_dct hp7 upd_same ?_
      rw [upd_upd, upd_id hp7]
      intro B hB
      have hB : g7 B = none := hB
      get_elem_tactic_extensible
      have aB : B ≠ a := fun z => by rw [z, ha7] at hB; cases hB
      have TB : T ≠ B := fun z => by rw [z, hB] at hT7; cases hT7
      have nB : h B = none := by
        cases e : h B with
        | none => rfl
        | some o => have q := k7 B o aB e; rw [hB] at q; cases q
      refine ro_ins (show upd g7 B (.dct (bkV kvs)) a = _ by rw [upd_ne aB.symm]; exact ha7) ⟨by show 2 < 100; decide, ?_⟩
      get_elem_tactic_extensible
      refine k _ ⟨T, B, upd_same, ?_, ?_⟩ fun b o ne z => ?_
      · rw [upd_ne aT, upd_ne TB]; exact hT7
      · rw [upd_ne aB]; exact upd_same
      · rw [upd_ne ne, upd_ne (fun e => by rw [e, nB] at z; cases z)]; exact k7 b o ne z
end Bk
set_option Elab.async false
set_option linter.all false
set_option maxRecDepth 100000
set_option maxHeartbeats 4000000
namespace Bk
open Bc
local macro_rules | `(tactic| get_elem_tactic_extensible) => `(tactic| repeat with_reducible (first | refine rc_true ?_ | refine rc_false ?_ | refine ro_b ?_ | refine ro_i ?_ | refine ro_r ?_ | refine ro_t ?_ | refine mb_cons ?_ | refine mb_nil ?_ | refine r_var rfl ?_ | refine r_lit ?_ | refine r_nil ?_ | refine r_cons ?_ | refine r_sub ?_ | refine r_attr ?_ | refine r_cmp ?_ | refine r_cmp2 ?_ | refine r_bin ?_ | refine r_not ?_ | refine r_and ?_ | refine r_or ?_ | refine r_ite ?_ | refine r_slF ?_ | refine r_slT ?_ | refine r_slB ?_ | refine r_tup ?_ | refine r_lst ?_ | refine r_dct ?_ | refine r_bi ?_ | refine r_bm ?_ | refine r_isin ?_ | refine r_meth ?_ | refine rt_yes ?_ | refine rt_cmp ?_ | refine rt_cmp2 ?_ | refine rt_tru ?_ | refine rt_not ?_ | refine rt_and ?_ | refine rt_or ?_ | refine rt_bool ?_ | refine rt_non ?_ | refine rt_int ?_ | refine rt_tup ?_ | refine b_addI ?_ | refine b_subI ?_ | refine q_ii ?_ | refine q_ss ?_ | refine n_ii ?_ | refine n_ss ?_ | refine q_ns ?_ | refine q_sn ?_ | refine l_lt ?_ | refine l_le ?_ | refine l_gt ?_ | refine l_ge ?_ | refine i_non ?_ | refine i_str ?_ | refine i_int ?_ | refine i_ref ?_ | refine i_tup' ?_ | refine j_non ?_ | refine j_str ?_ | refine j_int ?_ | refine j_ref ?_ | refine j_tup ?_ | refine m_str ?_ | refine mn_str ?_ | refine n_tup ?_ | refine n_int ?_ | refine n_intb ?_ | refine n_min ?_ | refine n_listT ?_ | refine ms_set ?_ | refine ms_unpT ?_ | refine ms_unpL ?_ | refine ms_par2 ?_ | refine ms_sset ?_ | refine ms_aset ?_ | refine ms_aug rfl ?_ | refine ms_exp ?_ | refine ms_ret ?_ | refine ms_retN ?_ | refine ms_ite ?_ | refine ms_brk ?_ | refine ms_pass ?_ | refine ms_raise ?_ | refine s_lst (by assumption) rfl rfl ?_ | refine s_tup rfl rfl ?_ | refine n_lst (by assumption) ?_ | refine n_dct (by assumption) ?_ | refine a_ins (by assumption) rfl ?_ | refine r_comp ?_ | refine r_dcomp ?_ | refine ms_for ?_ | refine w_lst ?_ | refine w_tup ?_ | refine w_str ?_ | refine w_dct ?_ | refine w_rng1 ?_ | refine w_rng2 ?_ | refine w_enL ?_ | refine w_enT ?_ | refine w_enS ?_ | refine k_tup ?_ | refine k_str ?_ | refine k_lst (by assumption) ?_ | refine bm_starts ?_ | refine set_l (by assumption) rfl ?_ | refine ro_b1 ?_ | refine ro_b2 ?_ | refine ro_m2 ?_ | refine rc_nt ?_ | refine rc_nf ?_))

/-! ### reading bytes -/
theorem cutT {α : Type} {xs : List α} {m : Nat} : cutL xs none (some (m : Int)) = xs.take m := by
  have e : clip xs.length xs.length (some (m : Int)) = min m xs.length := by show (if (m : Int) < 0 then ((m : Int) + (xs.length : Int)).toNat else min (m : Int).toNat xs.length) = _; rw [if_neg (by omega), Int.toNat_natCast]
  show (xs.drop 0).take (clip xs.length xs.length (some (m : Int)) - 0) = _
  rw [e, Nat.sub_zero, List.drop_zero, ← List.take_eq_take_min]
theorem cutD {α : Type} {xs : List α} {m : Nat} : cutL xs (some (m : Int)) none = xs.drop m := by
  have e : clip xs.length 0 (some (m : Int)) = min m xs.length := by show (if (m : Int) < 0 then ((m : Int) + (xs.length : Int)).toNat else min (m : Int).toNat xs.length) = _; rw [if_neg (by omega), Int.toNat_natCast]
  show (xs.drop (clip xs.length 0 (some (m : Int)))).take (xs.length - clip xs.length 0 (some (m : Int))) = _
  rw [e]
  by_cases h : m ≤ xs.length
  · rw [Nat.min_eq_left h]
    exact List.take_of_length_le (by rw [List.length_drop]; exact Nat.le_refl _)
  · rw [Nat.min_eq_right (by omega), List.drop_eq_nil_of_le (Nat.le_refl _), List.drop_eq_nil_of_le (by omega), List.take_nil]
def ov : Option Nat → Val
  | none => .non
  | some c => .str [c]
/-- the letter whose code stands ahead -/
def letterAt (kvs : Codes) (r : List Nat) : Option Nat := match bof kvs (r.take 1) with
  | some c => some c
  | none => match bof kvs (r.take 2) with
    | some c => some c
    | none => bof kvs (r.take 3)
def sp_letter : Spec := fun vs h Q _ => ∃ a nm kvs r, vs = [.ref a, .str r] ∧ EncAt h a nm kvs ∧ Good kvs ∧ r.length ≤ 10000 ∧ Q (ov (letterAt kvs r)) h
theorem wp_letter (Γ : Ctx) : ∀ vs h Q E, sp_letter vs h Q E → wpF Γ 3 b_Encoding_letter_at vs h Q E := by
  rintro vs h Q E ⟨a, nm, kvs, r, rfl, ⟨t, b, ha, ht, hb⟩, G, l, k⟩
  have rb := rd_dct hb
  refine wpF_of ?_
  show wpB Γ (.cons (.for_ _ _ (.cons _ .nil)) (.cons _ .nil)) _ [some (.ref a), some (.str r), none] _
  get_elem_tactic_extensible
  refine ⟨by omega, ?_⟩
  refine for_of rfl (fun i env h' => ∃ x, env = [some (.ref a), some (.str r), x] ∧ h' = h ∧ ∀ j, j < i → bof kvs (r.take (j + 1)) = none) ⟨none, rfl, rfl, fun j hj => absurd hj (by omega)⟩ (fun _ _ _ _ _ => trivial) (fun i v env h' N hv I hN => ?_) (fun env h' I => ?_)
  · obtain ⟨x, rfl, rfl, no⟩ := I
    have hi : i < 3 := by have := (List.getElem?_eq_some_iff.mp hv).1; rw [rng_len] at this; exact this
    have hv2 : (rangeL 1 3)[i]? = some v := hv
    have ev : v = .int ((i + 1 : Nat) : Int) := by
      unfold rangeL at hv2
      rw [List.getElem?_map, List.getElem?_range hi] at hv2
      cases hv2
      show Val.int (1 + (i : Int)) = Val.int ((i + 1 : Nat) : Int)
      rw [show (1 + (i : Int)) = ((i + 1 : Nat) : Int) by omega]
    subst ev
    get_elem_tactic_extensible
    refine sl_str (by unfold sizeMax; omega) ?_
    rw [cutT]
    get_elem_tactic_extensible
    refine m_dct rb rfl ?_
    rw [bof_dget]
    get_elem_tactic_extensible
    cases e : bof kvs (r.take (i + 1)) with
    | none =>
      refine rc_false ?_
      get_elem_tactic_extensible
      refine hN _ _ ⟨_, rfl, rfl, fun j hj => ?_⟩
      by_cases z : j = i
      · rw [z]; exact e
      · exact no j (by omega)
    | some c =>
      refine rc_true ?_
      get_elem_tactic_extensible
      refine sl_str (by unfold sizeMax; omega) ?_
      rw [cutT]
      refine s_dct rb rfl (by rw [bof_dget, e]; rfl) ?_
      have el : letterAt kvs r = some c := by
        unfold letterAt
        match i, hi, no, e with
        | 0, _, _, e => rw [e]
        | 1, _, no, e => rw [no 0 (by omega), e]
        | 2, _, no, e => rw [no 0 (by omega), no 1 (by omega)]; exact e
      rw [el] at k
      exact k
  · obtain ⟨x, rfl, rfl, no⟩ := I
    rw [rng_len] at no
    get_elem_tactic_extensible
    have el : letterAt kvs r = none := by unfold letterAt; rw [no 0 (by decide), no 1 (by decide), no 2 (by decide)]
    rw [el] at k
    exact k
def begun (kvs : Codes) (r : List Nat) : Bool := kvs.any fun p => isPre r p.2
def sp_begun : Spec := fun vs h Q _ => ∃ a nm kvs r, vs = [.ref a, .str r] ∧ EncAt h a nm kvs ∧ Good kvs ∧ ∀ h', Ext h h' → Q (.bool (begun kvs r)) h'
theorem keysB {kvs : Codes} : keysOf (bkV kvs) = sLs (kvs.map (·.2)) := by unfold keysOf bkV sLs; rw [List.map_map, List.map_map]; rfl
theorem strs_all {ls : List (List Nat)} {f : List Nat → Bool} {g : Val → Val} (hg : ∀ s, g (.str s) = .bool (f s)) : allBool ((sLs ls).map g) = some (ls.map f) := by
  induction ls with
  | nil => rfl
  | cons c r ih =>
    show allBool (g (.str c) :: (sLs r).map g) = _
    rw [hg]
    show (allBool ((sLs r).map g)).map (f c :: ·) = _
    rw [ih]
    rfl
theorem wp_begun (Γ : Ctx) : ∀ vs h Q E, sp_begun vs h Q E → wpF Γ 3 b_Encoding_is_begun vs h Q E := by
  rintro vs h Q E ⟨a, nm, kvs, r, rfl, ⟨t, b, ha, ht, hb⟩, G, k⟩
  have l6 := G.len
  refine wpF_of ?_
  show wpB Γ (.cons _ .nil) _ [some (.ref a), some (.str r), none] _
  get_elem_tactic_extensible
  refine k_dct hb ?_
  refine comp_dct hb (fun _ => true) (fun v => .bool (match v with | .str s => isPre r s | _ => false)) (by unfold bkV; rw [List.length_map]; unfold sizeMax; omega) (fun v hv acc K hl q => ?_) ?_
  · rw [keysB] at hv
    obtain ⟨s, _, rfl⟩ := List.mem_map.mp hv
    get_elem_tactic_extensible
    refine ⟨trivial, ?_⟩
    get_elem_tactic_extensible
    exact ⟨hl, q⟩
  · refine unlock_dct hb upd_same ?_
    rw [upd_upd, upd_id hb]
    intro p hp
    rw [filter_yes, keysB]
    get_elem_tactic_extensible
    refine n_any (rd_lst upd_same) (strs_all (f := fun s => isPre r s) fun s => rfl) ?_
    get_elem_tactic_extensible
    have e : (List.map (fun s => isPre r s) (kvs.map (·.2))).any id = begun kvs r := by rw [List.any_map, List.any_map]; rfl
    rw [e]
    exact k _ (.new hp)
def parseF (kvs : Codes) (fin : Bool) : Nat → List Nat → List (Option Nat) × List Nat
  | 0, r => ([], r)
  | _ + 1, [] => ([], [])
  | n + 1, x :: r => match letterAt kvs (x :: r) with
    | some c => (some c :: (parseF kvs fin n ((x :: r).drop ((cof kvs c).getD []).length)).1, (parseF kvs fin n ((x :: r).drop ((cof kvs c).getD []).length)).2)
    | none => if fin = false ∧ begun kvs (x :: r) = true then ([], x :: r) else (none :: (parseF kvs fin n r).1, (parseF kvs fin n r).2)
theorem parse_nil {kvs : Codes} {fin : Bool} {n : Nat} : parseF kvs fin n [] = ([], []) := by cases n <;> rfl
theorem letterAt_some {kvs : Codes} {r : List Nat} {c : Nat} (G : Good kvs) (h : letterAt kvs r = some c) : ∃ s, cof kvs c = some s ∧ s <+: r ∧ 1 ≤ s.length := by
  unfold letterAt at h
  have key : ∀ m, bof kvs (r.take m) = some c → ∃ s, cof kvs c = some s ∧ s <+: r ∧ 1 ≤ s.length := fun m e => by
    have q := bof_mem e
    have := cof_of G.nd q
    exact ⟨_, this, List.take_prefix m r, (G.lv.all _ (List.mem_map.mpr ⟨_, q, rfl⟩)).1⟩
  split at h
  · rename_i e; cases h; exact key 1 e
  · split at h
    · rename_i e; cases h; exact key 2 e
    · exact key 3 h
def sp_parsed : Spec := fun vs h Q _ => ∃ a nm kvs r fin, vs = [.ref a, .str r, .bool fin] ∧ EncAt h a nm kvs ∧ Good kvs ∧ r.length ≤ 10000 ∧
  ∀ p h', h p = none → h' p = some (.lst ((parseF kvs fin r.length r).1.map ov)) → Ext h h' → Q (.tup [.ref p, .str (parseF kvs fin r.length r).2]) h'
theorem wp_parsed (Γ : Ctx) (m3 : Γ.meth 3 3 = sp_letter) (m4 : Γ.meth 3 4 = sp_begun) (s3 : Γ.has 3 3 = true) (s4 : Γ.has 3 4 = true) : ∀ vs h Q E, sp_parsed vs h Q E → wpF Γ 5 b_Encoding_parsed vs h Q E := by
  rintro vs h Q E ⟨a, nm, kvs, r0, fin, rfl, enc, G, l, k⟩
  refine wpF_of ?_
  show wpB Γ (.cons _ (.cons (.while_ _ _) _)) _ [some (.ref a), some (.str r0), some (.bool fin), none, none] _
  get_elem_tactic_extensible
  intro F hF
  get_elem_tactic_extensible
  refine ms_while (fun m env h' => ∃ acc r x, env = [some (.ref a), some (.str r), some (.bool fin), some (.ref F), x] ∧ h' F = some (.lst (acc.map ov)) ∧ (∀ b o, b ≠ F → h b = some o → h' b = some o) ∧ r.length ≤ m ∧ m ≤ 10000 ∧ acc.length + m ≤ 10000 ∧
    parseF kvs fin r0.length r0 = (acc ++ (parseF kvs fin m r).1, (parseF kvs fin m r).2)) ⟨r0.length, [], r0, none, rfl, upd_same, fun b o n z => by rw [upd_ne n]; exact z, Nat.le_refl _, l, by simpa using l, rfl⟩ ?_
  rintro m env h' ⟨acc, r, x, rfl, hf, kp, lm, lm2, la, ep⟩
  have hFa : ∀ b, b ≠ F ∨ h b = none := fun b => by
    by_cases z : b = F
    · right; rw [z]; exact hF
    · left; exact z
  have kp2 : Ext h h' := fun b o z => kp b o (fun e => by rw [e, hF] at z; cases z) z
  have enc2 := enc.ext kp2
  obtain ⟨t, bb, ha, ht, hb⟩ := id enc2
  get_elem_tactic_extensible
  refine rc_ndec (fun hne => ?_) (fun he => ?_)
  · cases r with
    | nil => exact absurd rfl hne
    | cons y r =>
    obtain ⟨m, rfl⟩ : ∃ k, m = k + 1 := ⟨m - 1, by simp at lm; omega⟩
    have rl : (y :: r).length ≤ 10000 := by omega
    get_elem_tactic_extensible
    refine ro_ins ha ⟨s3, ?_⟩
    get_elem_tactic_extensible
    rw [m3]
    refine ⟨a, nm, kvs, _, rfl, enc2, G, rl, ?_⟩
    get_elem_tactic_extensible
    cases el : letterAt kvs (y :: r) with
    | some c =>
      obtain ⟨s, ec, _, sl⟩ := letterAt_some G el
      get_elem_tactic_extensible
      refine ⟨ok_append hf, ?_⟩
      get_elem_tactic_extensible
      refine bm_append hf (by rw [List.length_map]; unfold sizeMax; omega) ?_
      have rt : rd (upd h' F (.lst (acc.map ov ++ [.str [c]]))) t = some (.dct (cdV (tbl kvs base))) := rd_dct (by rw [upd_ne (fun e => by rw [e, hf] at ht; cases ht)]; exact ht)
      have ha2 : upd h' F (.lst (acc.map ov ++ [.str [c]])) a = _ := (upd_ne (fun e => by rw [e, hf] at ha; cases ha)).trans ha
      get_elem_tactic_extensible
      refine a_ins ha2 rfl ?_
      get_elem_tactic_extensible
      refine s_dct rt rfl (by show dget (cdV (tbl kvs base)) (.str [c]) = _; rw [cof_dget, cof_tbl G.mem, ec]; rfl) ?_
      have sl3 := (G.lv.all s (List.mem_map.mpr ⟨_, cof_mem ec, rfl⟩)).2.1
      get_elem_tactic_extensible
      refine n_str (by unfold sizeMax; omega) ?_
      get_elem_tactic_extensible
      refine sl_str (by unfold sizeMax; omega) ?_
      rw [cutD]
      get_elem_tactic_extensible
      refine ⟨m, by omega, acc ++ [some c], _, _, rfl, by rw [List.map_append]; exact upd_same, fun b o n z => by rw [upd_ne n]; exact kp b o n z, ?_, by omega, by rw [List.length_append]; simp; omega, ?_⟩
      · rw [List.length_drop]; omega
      · rw [ep]
        show (acc ++ (match letterAt kvs (y :: r) with | some c => _ | none => _ : List (Option Nat) × List Nat).1, (match letterAt kvs (y :: r) with | some c => _ | none => _ : List (Option Nat) × List Nat).2) = _
        rw [el]
        simp only [ec, Option.getD_some, List.append_assoc, List.singleton_append]
    | none =>
      get_elem_tactic_extensible
      cases fin with
      | true =>
        get_elem_tactic_extensible
        refine ⟨ok_append hf, ?_⟩
        get_elem_tactic_extensible
        refine bm_append hf (by rw [List.length_map]; unfold sizeMax; omega) ?_
        get_elem_tactic_extensible
        refine sl_str (by unfold sizeMax; omega) ?_
        rw [show (1 : Int) = ((1 : Nat) : Int) from rfl, cutD]
        get_elem_tactic_extensible
        refine ⟨m, by omega, acc ++ [none], _, _, rfl, by rw [List.map_append]; exact upd_same, fun b o n z => by rw [upd_ne n]; exact kp b o n z, by simpa using lm, by omega, by rw [List.length_append]; simp; omega, ?_⟩
        rw [ep]
        show (acc ++ (match letterAt kvs (y :: r) with | some c => _ | none => _ : List (Option Nat) × List Nat).1, (match letterAt kvs (y :: r) with | some c => _ | none => _ : List (Option Nat) × List Nat).2) = _
        rw [el]
        simp
      | false =>
        get_elem_tactic_extensible
        refine ro_ins ha ⟨s4, ?_⟩
        get_elem_tactic_extensible
        rw [m4]
        refine ⟨a, nm, kvs, _, rfl, enc2, G, fun h2 x2 => ?_⟩
        get_elem_tactic_extensible
        have hf2 := x2 _ _ hf
        have kp3 : ∀ b o, b ≠ F → h b = some o → h2 b = some o := fun b o n z => x2 _ _ (kp b o n z)
        refine rc_split (fun hb => ?_) (fun hb => ?_)
        · get_elem_tactic_extensible
          have e0 : parseF kvs false (m + 1) (y :: r) = ([], y :: r) := by
            show (match letterAt kvs (y :: r) with | some c => _ | none => _ : List (Option Nat) × List Nat) = _
            rw [el]
            simp [hb]
          rw [e0, List.append_nil] at ep
          rw [ep] at k
          exact k F h2 hF hf2 (kp2.trans x2)
        · get_elem_tactic_extensible
          refine ⟨ok_append hf2, ?_⟩
          get_elem_tactic_extensible
          refine bm_append hf2 (by rw [List.length_map]; unfold sizeMax; omega) ?_
          get_elem_tactic_extensible
          refine sl_str (by unfold sizeMax; omega) ?_
          rw [show (1 : Int) = ((1 : Nat) : Int) from rfl, cutD]
          get_elem_tactic_extensible
          refine ⟨m, by omega, acc ++ [none], _, _, rfl, by rw [List.map_append]; exact upd_same, fun b o n z => by rw [upd_ne n]; exact kp3 b o n z, by simpa using lm, by omega, by rw [List.length_append]; simp; omega, ?_⟩
          rw [ep]
          show (acc ++ (match letterAt kvs (y :: r) with | some c => _ | none => _ : List (Option Nat) × List Nat).1, (match letterAt kvs (y :: r) with | some c => _ | none => _ : List (Option Nat) × List Nat).2) = _
          rw [el]
          simp [hb]
  · have er : r = [] := he
    subst er
    get_elem_tactic_extensible
    rw [parse_nil, List.append_nil] at ep
    have e1 : (parseF kvs fin r0.length r0).1 = acc := by rw [ep]
    have e2 : (parseF kvs fin r0.length r0).2 = [] := by rw [ep]
    rw [e1, e2] at k
    exact k F h' hF hf kp2
end Bk
set_option Elab.async false
set_option linter.all false
set_option maxRecDepth 100000
set_option maxHeartbeats 4000000
namespace Bk
open Bc
local macro_rules | `(tactic| get_elem_tactic_extensible) => `(tactic| repeat with_reducible (first | refine rc_true ?_ | refine rc_false ?_ | refine ro_b ?_ | refine ro_i ?_ | refine ro_r ?_ | refine ro_t ?_ | refine mb_cons ?_ | refine mb_nil ?_ | refine r_var rfl ?_ | refine r_lit ?_ | refine r_nil ?_ | refine r_cons ?_ | refine r_sub ?_ | refine r_attr ?_ | refine r_cmp ?_ | refine r_cmp2 ?_ | refine r_bin ?_ | refine r_not ?_ | refine r_and ?_ | refine r_or ?_ | refine r_ite ?_ | refine r_slF ?_ | refine r_slT ?_ | refine r_slB ?_ | refine r_tup ?_ | refine r_lst ?_ | refine r_dct ?_ | refine r_bi ?_ | refine r_bm ?_ | refine r_isin ?_ | refine r_meth ?_ | refine rt_yes ?_ | refine rt_cmp ?_ | refine rt_cmp2 ?_ | refine rt_tru ?_ | refine rt_not ?_ | refine rt_and ?_ | refine rt_or ?_ | refine rt_bool ?_ | refine rt_non ?_ | refine rt_int ?_ | refine rt_tup ?_ | refine b_addI ?_ | refine b_subI ?_ | refine q_ii ?_ | refine q_ss ?_ | refine n_ii ?_ | refine n_ss ?_ | refine q_ns ?_ | refine q_sn ?_ | refine l_lt ?_ | refine l_le ?_ | refine l_gt ?_ | refine l_ge ?_ | refine i_non ?_ | refine i_str ?_ | refine i_int ?_ | refine i_ref ?_ | refine i_tup' ?_ | refine j_non ?_ | refine j_str ?_ | refine j_int ?_ | refine j_ref ?_ | refine j_tup ?_ | refine m_str ?_ | refine mn_str ?_ | refine n_tup ?_ | refine n_int ?_ | refine n_intb ?_ | refine n_min ?_ | refine n_listT ?_ | refine ms_set ?_ | refine ms_unpT ?_ | refine ms_unpL ?_ | refine ms_par2 ?_ | refine ms_sset ?_ | refine ms_aset ?_ | refine ms_aug rfl ?_ | refine ms_exp ?_ | refine ms_ret ?_ | refine ms_retN ?_ | refine ms_ite ?_ | refine ms_brk ?_ | refine ms_pass ?_ | refine ms_raise ?_ | refine s_lst (by assumption) rfl rfl ?_ | refine s_tup rfl rfl ?_ | refine n_lst (by assumption) ?_ | refine n_dct (by assumption) ?_ | refine a_ins (by assumption) rfl ?_ | refine r_comp ?_ | refine r_dcomp ?_ | refine ms_for ?_ | refine w_lst ?_ | refine w_tup ?_ | refine w_str ?_ | refine w_dct ?_ | refine w_rng1 ?_ | refine w_rng2 ?_ | refine w_enL ?_ | refine w_enT ?_ | refine w_enS ?_ | refine k_tup ?_ | refine k_str ?_ | refine k_lst (by assumption) ?_ | refine bm_starts ?_ | refine set_l (by assumption) rfl ?_ | refine ro_b1 ?_ | refine ro_b2 ?_ | refine ro_m2 ?_ | refine rc_nt ?_ | refine rc_nf ?_))

/-! ### texts and bytes of an encoding -/
def strict : List Nat := [115, 116, 114, 105, 99, 116]
def replace : List Nat := [114, 101, 112, 108, 97, 99, 101]
def ignore : List Nat := [105, 103, 110, 111, 114, 101]
def os : Option (List Nat) → Val
  | none => .non
  | some s => .str s
def codeOf (kvs : Codes) (c : Nat) (mode : List Nat) : Option (List Nat) := match cof kvs c with
  | some s => some s
  | none => if mode = ignore then some [] else if mode = replace then cof kvs 63 else none
def sp_code : Spec := fun vs h Q _ => ∃ a nm kvs c mode, vs = [.ref a, .str [c], .str mode] ∧ EncAt h a nm kvs ∧ Good kvs ∧ Q (os (codeOf kvs c mode)) h
theorem wp_code (Γ : Ctx) : ∀ vs h Q E, sp_code vs h Q E → wpF Γ 3 b_Encoding_code_of vs h Q E := by
  rintro vs h Q E ⟨a, nm, kvs, c, mode, rfl, ⟨t, b, ha, ht, hb⟩, G, k⟩
  have rt := rd_dct ht
  refine wpF_of ?_
  show wpB Γ (.cons _ (.cons _ (.cons _ _))) _ [some (.ref a), some (.str [c]), some (.str mode)] _
  unfold codeOf at k
  get_elem_tactic_extensible
  refine m_dct rt rfl ?_
  rw [cof_dget, cof_tbl G.mem]
  get_elem_tactic_extensible
  cases e : cof kvs c with
  | some s =>
    rw [e] at k
    refine rc_true ?_
    get_elem_tactic_extensible
    exact s_dct rt rfl (by rw [cof_dget, cof_tbl G.mem, e]; rfl) k
  | none =>
    rw [e] at k
    refine rc_false ?_
    get_elem_tactic_extensible
    refine rc_dec (fun hm => ?_) (fun hm => ?_)
    · get_elem_tactic_extensible
      rw [if_pos (show mode = ignore from hm)] at k
      exact k
    · rw [if_neg (show ¬ mode = ignore from hm)] at k
      get_elem_tactic_extensible
      refine rc_dec (fun hr => ?_) (fun hr => ?_)
      · rw [if_pos (show mode = replace from hr)] at k
        get_elem_tactic_extensible
        refine ⟨ok_get rt, ?_⟩
        get_elem_tactic_extensible
        refine bm_get rt rfl ?_
        rw [cof_dget, cof_tbl G.mem]
        cases e2 : cof kvs 63 with
        | none => rw [e2] at k; exact k
        | some s => rw [e2] at k; exact k
      · rw [if_neg (show ¬ mode = replace from hr)] at k
        get_elem_tactic_extensible
        exact k
/-- letters and wrong bytes, read from the left -/
def txF (kvs : Codes) (mode : List Nat) : List (Option Nat) → Nat → List Nat → Except Nat (List Nat)
  | [], _, acc => .ok acc
  | none :: l, pl, acc => if mode = strict then .error pl else if mode = replace then txF kvs mode l (pl + 1) (acc ++ [63]) else txF kvs mode l (pl + 1) acc
  | some c :: l, pl, acc => txF kvs mode l (pl + ((cof kvs c).getD []).length) (acc ++ [c])
def onX {α : Type} (x : Except Nat α) (f : α → Prop) (g : Nat → Prop) : Prop := match x with
  | .ok a => f a
  | .error p => g p
def txt (kvs : Codes) (mode r : List Nat) : Except Nat (List Nat) := txF kvs mode (parseF kvs true r.length r).1 0 []
def sp_astext : Spec := fun vs h Q E => ∃ a nm kvs r mode, vs = [.ref a, .str r, .str mode] ∧ EncAt h a nm kvs ∧ Good kvs ∧ r.length ≤ 1000 ∧
  onX (txt kvs mode r) (fun t => ∀ h', Ext h h' → Q (.str t) h') fun p => ∀ h', Ext h h' → E ⟨4, some (.int (p : Int))⟩ h'
theorem join_flat : ∀ ys : List (List Nat), joinS [] ys = ys.flatten
  | [] => rfl
  | [x] => by simp [joinS]
  | x :: y :: r => by
    show x ++ ([] ++ joinS [] (y :: r)) = _
    rw [join_flat (y :: r)]
    rfl
theorem sing_flat (l : List Nat) : (sing l).flatten = l := by
  induction l with
  | nil => rfl
  | cons c r ih => show [c] ++ (sing r).flatten = _; rw [ih]; rfl
theorem strs_str (ls : List (List Nat)) : allStr (sLs ls) = some ls := by
  induction ls with
  | nil => rfl
  | cons s r ih => show (allStr (sLs r)).map (s :: ·) = _; rw [ih]; rfl
theorem parse_len {kvs : Codes} {fin : Bool} : ∀ (n : Nat) (r : List Nat), (parseF kvs fin n r).1.length ≤ n
  | 0, _ => Nat.zero_le _
  | n + 1, [] => Nat.zero_le _
  | n + 1, x :: r => by
    unfold parseF
    split
    · rename_i d e
      simp only [List.length_cons]
      have := parse_len (kvs := kvs) (fin := fin) n ((x :: r).drop ((cof kvs d).getD []).length)
      exact Nat.succ_le_succ this
    · split
      · exact Nat.zero_le _
      · exact Nat.succ_le_succ (parse_len n r)
theorem parse_mem {kvs : Codes} {fin : Bool} (G : Good kvs) : ∀ (n : Nat) (r : List Nat) (c : Nat), some c ∈ (parseF kvs fin n r).1 → ∃ s, cof kvs c = some s
  | 0, _, c, h => by cases h
  | n + 1, [], c, h => by cases h
  | n + 1, x :: r, c, h => by
    unfold parseF at h
    split at h
    · rename_i d e
      rcases List.mem_cons.mp h with q | q
      · cases q
        obtain ⟨s, e1, _⟩ := letterAt_some G e
        exact ⟨s, e1⟩
      · exact parse_mem G n _ c q
    · split at h
      · cases h
      · rcases List.mem_cons.mp h with q | q
        · cases q
        · exact parse_mem G n r c q
theorem wp_astext (Γ : Ctx) (m5 : Γ.meth 3 5 = sp_parsed) (s5 : Γ.has 3 5 = true) : ∀ vs h Q E, sp_astext vs h Q E → wpF Γ 6 b_Encoding_as_text vs h Q E := by
  rintro vs h Q E ⟨a, nm, kvs, r, mode, rfl, enc, G, l, k⟩
  refine wpF_of ?_
  show wpB Γ (.cons _ (.cons _ (.cons (.for_ _ _ _) _))) _ [some (.ref a), some (.str r), some (.str mode), none, none, none] _
  get_elem_tactic_extensible
  intro F hF
  have enc1 := enc.ext (Ext.new (o := .lst []) hF)
  have x1 : Ext h (upd h F (.lst [])) := .new hF
  have hF1 : upd h F (.lst []) F = some (.lst (sLs (sing []))) := upd_same
  show wpB Γ _ _ _ (upd h F (.lst []))
  generalize upd h F (.lst []) = g at *
  obtain ⟨t, b, ha, ht, hb⟩ := id enc1
  get_elem_tactic_extensible
  refine ro_ins ha ⟨s5, ?_⟩
  get_elem_tactic_extensible
  rw [m5]
  refine ⟨a, nm, kvs, r, true, rfl, enc1, G, by omega, fun p h2 hp hp2 x2 => ?_⟩
  get_elem_tactic_extensible
  refine k_lst (rd_lst hp2) ?_
  have hF2 := x2 _ _ hF1
  have pF : p ≠ F := fun e => by rw [e, hF1] at hp; cases hp
  have ht2 := x2 _ _ ht
  have ha2 := x2 _ _ ha
  have nF : ∀ {q : Nat} {o : Obj}, h q = some o → q ≠ F := fun {q o} e z => by rw [z, hF] at e; cases e
  obtain ⟨t', b', ha', ht', hb'⟩ := id enc
  have et : t' = t := by have := x1 _ _ ha'; rw [ha] at this; cases this; rfl
  subst et
  have pl := parse_len (kvs := kvs) (fin := true) r.length r
  have pm := parse_mem (kvs := kvs) (fin := true) G r.length r
  unfold txt at k
  generalize (parseF kvs true r.length r).1 = ps at *
  obtain ⟨Z, hz⟩ : ∃ Z, Z = txF kvs mode ps 0 [] := ⟨_, rfl⟩
  rw [← hz] at k
  refine for_of rfl (fun i env h' => ∃ acc n x, env = [some (.ref a), some (.str r), some (.str mode), some (.ref F), some (.int (n : Nat)), x] ∧ h' F = some (.lst (sLs (sing acc))) ∧ (∀ q o, q ≠ F → h2 q = some o → h' q = some o) ∧ acc.length ≤ i ∧ Z = txF kvs mode (ps.drop i) n acc)
    ⟨[], 0, none, rfl, hF2, fun _ _ _ e => e, Nat.le_refl _, hz⟩ (fun i env h' _ I => ?_) (fun i v env h' N hv I hN => ?_) (fun env h' I => ?_)
  · obtain ⟨acc, n, x, _, hf, kp, _, _⟩ := I
    exact rd_lst (kp p _ pF hp2)
  · obtain ⟨acc, n, x, rfl, hf, kp, la, et⟩ := I
    have hv2 : (ps.map ov)[i]? = some v := hv
    rw [List.getElem?_map] at hv2
    cases e : ps[i]? with
    | none => rw [e] at hv2; cases hv2
    | some o =>
    rw [e] at hv2
    cases hv2
    obtain ⟨hi, ei⟩ := List.getElem?_eq_some_iff.mp e
    rw [List.drop_eq_getElem_cons hi, ei] at et
    have ext2 : Ext h h' := fun q o z => kp q o (nF z) (x2 _ _ (x1 _ _ z))
    cases o with
    | none =>
      get_elem_tactic_extensible
      refine i_non ?_
      get_elem_tactic_extensible
      unfold txF at et
      refine rc_dec (fun hs => ?_) (fun hs => ?_)
      · get_elem_tactic_extensible
        rw [if_pos (show mode = strict from hs)] at et
        rw [et] at k
        exact ⟨rfl, k h' ext2⟩
      · rw [if_neg (show ¬ mode = strict from hs)] at et
        get_elem_tactic_extensible
        refine ⟨trivial, ?_⟩
        get_elem_tactic_extensible
        refine rc_dec (fun hr => ?_) (fun hr => ?_)
        · rw [if_pos (show mode = replace from hr)] at et
          get_elem_tactic_extensible
          refine ⟨ok_append hf, ?_⟩
          get_elem_tactic_extensible
          refine bm_append hf (by rw [slen, sing_len]; unfold sizeMax; omega) ?_
          get_elem_tactic_extensible
          refine hN _ _ ⟨acc ++ [63], n + 1, _, rfl, by rw [upd_same]; simp [sLs, sing], fun q o z1 z2 => by rw [upd_ne z1]; exact kp q o z1 z2, by rw [List.length_append]; simp; omega, et⟩
        · rw [if_neg (show ¬ mode = replace from hr)] at et
          get_elem_tactic_extensible
          exact hN _ _ ⟨acc, n + 1, _, rfl, hf, kp, by omega, et⟩
    | some c =>
      unfold txF at et
      obtain ⟨s, ec⟩ := pm c (List.mem_of_getElem? e)
      have sl3 := (G.lv.all s (List.mem_map.mpr ⟨_, cof_mem ec, rfl⟩)).2.1
      get_elem_tactic_extensible
      refine i_str ?_
      get_elem_tactic_extensible
      refine ⟨ok_append hf, ?_⟩
      get_elem_tactic_extensible
      refine bm_append hf (by rw [slen, sing_len]; unfold sizeMax; omega) ?_
      have ha3 : upd h' F (.lst (sLs (sing acc) ++ [.str [c]])) a = _ := (upd_ne (nF ha')).trans (kp a _ (nF ha') ha2)
      have ht3 : upd h' F (.lst (sLs (sing acc) ++ [.str [c]])) t' = _ := (upd_ne (nF ht')).trans (kp t' _ (nF ht') ht2)
      get_elem_tactic_extensible
      refine a_ins ha3 rfl ?_
      get_elem_tactic_extensible
      refine s_dct (rd_dct ht3) rfl (by show dget (cdV (tbl kvs base)) (.str [c]) = _; rw [cof_dget, cof_tbl G.mem, ec]; rfl) ?_
      get_elem_tactic_extensible
      refine n_str (by unfold sizeMax; omega) ?_
      get_elem_tactic_extensible
      refine ⟨trivial, ?_⟩
      rw [ec] at et
      get_elem_tactic_extensible
      exact hN _ _ ⟨acc ++ [c], n + s.length, _, rfl, by rw [upd_same]; simp [sLs, sing, ov], fun q o z1 z2 => by rw [upd_ne z1]; exact kp q o z1 z2, by rw [List.length_append]; simp; omega, et⟩
  · obtain ⟨acc, n, x, rfl, hf, kp, la, et⟩ := I
    have e1 : (id (ps.map ov)).length = ps.length := List.length_map ..
    have la2 : acc.length ≤ ps.length := by rw [← e1]; exact la
    have et2 : Z = txF kvs mode (ps.drop ps.length) n acc := by rw [← e1]; exact et
    rw [List.drop_length] at et2
    rw [et2] at k
    get_elem_tactic_extensible
    refine ⟨trivial, ?_⟩
    get_elem_tactic_extensible
    refine bm_join (by show (match rd h' F with | some (.lst xs) => some xs | _ => none) = _; rw [rd_lst hf]) (strs_str _) ?_ ?_
    · have e2 : ((sing acc).map List.length).sum = acc.length := by rw [← List.length_flatten, sing_flat]
      rw [e2]
      show acc.length + _ * 0 ≤ _
      unfold sizeMax
      omega
    · rw [join_flat, sing_flat]
      exact k h' fun q o z => kp q o (nF z) (x2 _ _ (x1 _ _ z))

def byF (kvs : Codes) (mode : List Nat) : List Nat → Nat → List (List Nat) → Except Nat (List (List Nat))
  | [], _, acc => .ok acc
  | c :: r, pl, acc => match codeOf kvs c mode with
    | none => .error pl
    | some s => byF kvs mode r (pl + 1) (acc ++ [s])
def sp_asbytes : Spec := fun vs h Q E => ∃ a nm kvs r mode, vs = [.ref a, .str r, .str mode] ∧ EncAt h a nm kvs ∧ Good kvs ∧ r.length ≤ 1000 ∧
  onX (byF kvs mode r 0 []) (fun t => ∀ h', Ext h h' → Q (.str t.flatten) h') fun p => ∀ h', Ext h h' → E ⟨5, some (.int (p : Int))⟩ h'
theorem code_len {kvs : Codes} {c : Nat} {mode s : List Nat} (G : Good kvs) (h : codeOf kvs c mode = some s) : s.length ≤ 3 := by
  have key : ∀ d, cof kvs d = some s → s.length ≤ 3 := fun d e => (G.lv.all s (List.mem_map.mpr ⟨_, cof_mem e, rfl⟩)).2.1
  unfold codeOf at h
  split at h
  · rename_i e; cases h; exact key c e
  · split at h
    · cases h; exact Nat.zero_le _
    · split at h
      · exact key 63 h
      · cases h
theorem wp_asbytes (Γ : Ctx) (m7 : Γ.meth 3 7 = sp_code) (s7 : Γ.has 3 7 = true) : ∀ vs h Q E, sp_asbytes vs h Q E → wpF Γ 7 b_Encoding_as_bytes vs h Q E := by
  rintro vs h Q E ⟨a, nm, kvs, r, mode, rfl, enc, G, l, k⟩
  refine wpF_of ?_
  show wpB Γ (.cons _ (.cons (.for_ _ _ _) _)) _ [some (.ref a), some (.str r), some (.str mode), none, none, none, none] _
  get_elem_tactic_extensible
  intro F hF
  have nF : ∀ {q : Nat} {o : Obj}, h q = some o → q ≠ F := fun {q o} e z => by rw [z, hF] at e; cases e
  get_elem_tactic_extensible
  obtain ⟨Z, hz⟩ : ∃ Z, Z = byF kvs mode r 0 [] := ⟨_, rfl⟩
  rw [← hz] at k
  have zl : (zipIx 0 (signs r)).length = r.length := by rw [zip_len, signs_len]
  refine for_of rfl (fun i env h' => ∃ acc x y z, env = [some (.ref a), some (.str r), some (.str mode), some (.ref F), x, y, z] ∧ h' F = some (.lst (sLs acc)) ∧ (∀ q o, q ≠ F → h q = some o → h' q = some o) ∧ acc.length ≤ i ∧ (∀ s ∈ acc, s.length ≤ 3) ∧ Z = byF kvs mode (r.drop i) i acc)
    ⟨[], none, none, none, rfl, upd_same, fun _ _ n e => by rw [upd_ne n]; exact e, Nat.le_refl _, (fun _ z => (by cases z)), hz⟩ (fun _ _ _ _ _ => trivial) (fun i v env h' N hv I hN => ?_) (fun env h' I => ?_)
  · obtain ⟨acc, x, y, z, rfl, hf, kp, la, ls, et⟩ := I
    obtain ⟨x0, e0, rfl⟩ := zip_at hv
    unfold signs at e0
    rw [List.getElem?_map] at e0
    cases e : r[i]? with
    | none => rw [e] at e0; cases e0
    | some c =>
    rw [e] at e0
    cases e0
    obtain ⟨hi, ei⟩ := List.getElem?_eq_some_iff.mp e
    rw [List.drop_eq_getElem_cons hi, ei] at et
    have ext2 : Ext h h' := fun q o z => kp q o (nF z) z
    have enc2 := enc.ext ext2
    obtain ⟨t, b, ha, ht, hb⟩ := id enc2
    rw [Nat.zero_add]
    get_elem_tactic_extensible
    refine ro_ins ha ⟨s7, ?_⟩
    get_elem_tactic_extensible
    rw [m7]
    refine ⟨a, nm, kvs, c, mode, rfl, enc2, G, ?_⟩
    get_elem_tactic_extensible
    unfold byF at et
    cases ec : codeOf kvs c mode with
    | none =>
      rw [ec] at et
      get_elem_tactic_extensible
      refine i_non ?_
      get_elem_tactic_extensible
      rw [et] at k
      exact ⟨rfl, k h' ext2⟩
    | some s =>
      rw [ec] at et
      get_elem_tactic_extensible
      refine i_str ?_
      get_elem_tactic_extensible
      refine ⟨ok_append hf, ?_⟩
      get_elem_tactic_extensible
      refine bm_append hf (by rw [slen]; unfold sizeMax; omega) ?_
      get_elem_tactic_extensible
      refine hN _ _ ⟨acc ++ [s], _, _, _, rfl, by rw [upd_same]; simp [sLs, os], fun q o z1 z2 => by rw [upd_ne z1]; exact kp q o z1 z2, by rw [List.length_append]; simp; omega, fun u hu => ?_, et⟩
      rcases List.mem_append.mp hu with q | q
      · exact ls u q
      · rw [List.mem_singleton] at q; subst q; exact code_len G ec
  · obtain ⟨acc, x, y, z, rfl, hf, kp, la, ls, et⟩ := I
    have la2 : acc.length ≤ r.length := by rw [← zl]; exact la
    have et2 : Z = byF kvs mode (r.drop r.length) r.length acc := by have et3 : Z = byF kvs mode (r.drop (zipIx 0 (signs r)).length) (zipIx 0 (signs r)).length acc := et; rw [zl] at et3; exact et3
    rw [List.drop_length] at et2
    rw [et2] at k
    get_elem_tactic_extensible
    refine ⟨trivial, ?_⟩
    get_elem_tactic_extensible
    refine bm_join (by show (match rd h' F with | some (.lst xs) => some xs | _ => none) = _; rw [rd_lst hf]) (strs_str _) ?_ ?_
    · have sm : ∀ (l : List (List Nat)), (∀ s ∈ l, s.length ≤ 3) → (l.map List.length).sum ≤ 3 * l.length := by
        intro l
        induction l with
        | nil => intro _; exact Nat.le_refl _
        | cons x t ih =>
          intro hh
          have a1 := hh x List.mem_cons_self
          have a2 := ih fun s hs => hh s (List.mem_cons_of_mem _ hs)
          simp only [List.map_cons, List.sum_cons, List.length_cons]
          omega
      have := sm acc ls
      show _ + _ * 0 ≤ _
      unfold sizeMax
      omega
    · rw [join_flat]
      exact k h' fun q o z => kp q o (nF z) z
end Bk
set_option Elab.async false
set_option linter.all false
set_option maxRecDepth 100000
set_option maxHeartbeats 4000000
namespace Bk
open Bc
local macro_rules | `(tactic| get_elem_tactic_extensible) => `(tactic| repeat with_reducible (first | refine rc_true ?_ | refine rc_false ?_ | refine ro_b ?_ | refine ro_i ?_ | refine ro_r ?_ | refine ro_t ?_ | refine mb_cons ?_ | refine mb_nil ?_ | refine r_var rfl ?_ | refine r_lit ?_ | refine r_nil ?_ | refine r_cons ?_ | refine r_sub ?_ | refine r_attr ?_ | refine r_cmp ?_ | refine r_cmp2 ?_ | refine r_bin ?_ | refine r_not ?_ | refine r_and ?_ | refine r_or ?_ | refine r_ite ?_ | refine r_slF ?_ | refine r_slT ?_ | refine r_slB ?_ | refine r_tup ?_ | refine r_lst ?_ | refine r_dct ?_ | refine r_bi ?_ | refine r_bm ?_ | refine r_isin ?_ | refine r_meth ?_ | refine rt_yes ?_ | refine rt_cmp ?_ | refine rt_cmp2 ?_ | refine rt_tru ?_ | refine rt_not ?_ | refine rt_and ?_ | refine rt_or ?_ | refine rt_bool ?_ | refine rt_non ?_ | refine rt_int ?_ | refine rt_tup ?_ | refine b_addI ?_ | refine b_subI ?_ | refine q_ii ?_ | refine q_ss ?_ | refine n_ii ?_ | refine n_ss ?_ | refine q_ns ?_ | refine q_sn ?_ | refine l_lt ?_ | refine l_le ?_ | refine l_gt ?_ | refine l_ge ?_ | refine i_non ?_ | refine i_str ?_ | refine i_int ?_ | refine i_ref ?_ | refine i_tup' ?_ | refine j_non ?_ | refine j_str ?_ | refine j_int ?_ | refine j_ref ?_ | refine j_tup ?_ | refine m_str ?_ | refine mn_str ?_ | refine n_tup ?_ | refine n_int ?_ | refine n_intb ?_ | refine n_min ?_ | refine n_listT ?_ | refine ms_set ?_ | refine ms_unpT ?_ | refine ms_unpL ?_ | refine ms_par2 ?_ | refine ms_sset ?_ | refine ms_aset ?_ | refine ms_aug rfl ?_ | refine ms_exp ?_ | refine ms_ret ?_ | refine ms_retN ?_ | refine ms_ite ?_ | refine ms_brk ?_ | refine ms_pass ?_ | refine ms_raise ?_ | refine s_lst (by assumption) rfl rfl ?_ | refine s_tup rfl rfl ?_ | refine n_lst (by assumption) ?_ | refine n_dct (by assumption) ?_ | refine a_ins (by assumption) rfl ?_ | refine r_comp ?_ | refine r_dcomp ?_ | refine ms_for ?_ | refine w_lst ?_ | refine w_tup ?_ | refine w_str ?_ | refine w_dct ?_ | refine w_rng1 ?_ | refine w_rng2 ?_ | refine w_enL ?_ | refine w_enT ?_ | refine w_enS ?_ | refine k_tup ?_ | refine k_str ?_ | refine k_lst (by assumption) ?_ | refine bm_starts ?_ | refine set_l (by assumption) rfl ?_ | refine ro_b1 ?_ | refine ro_b2 ?_ | refine ro_m2 ?_ | refine rc_nt ?_ | refine rc_nf ?_))

/-! ### the law's own reading -/
theorem letterAt_iff {kvs : Codes} {r : List Nat} {c : Nat} {s : List Nat} (G : Good kvs) (hm : (c, s) ∈ kvs) (hp : s <+: r) : letterAt kvs r = some c := by
  have lf := G.lv.all s (List.mem_map.mpr ⟨_, hm, rfl⟩)
  have es : r.take s.length = s := (List.prefix_iff_eq_take.mp hp).symm
  -- whatever is found is c
  have uniq : ∀ d, letterAt kvs r = some d → d = c := fun d e => by
    obtain ⟨t, e1, e2, _⟩ := letterAt_some G e
    have tm := cof_mem e1
    have ec : t = s := by
      rcases List.prefix_or_prefix_of_prefix e2 hp with q | q
      · by_cases z : t = s
        · exact z
        · exfalso
          have := G.lv.ap
          obtain ⟨i, hi⟩ := List.mem_iff_getElem?.mp tm
          obtain ⟨j, hj⟩ := List.mem_iff_getElem?.mp hm
          have e3 : (kvs.map (·.2))[i]? = some t := by rw [List.getElem?_map, hi]; rfl
          have e4 : (kvs.map (·.2))[j]? = some s := by rw [List.getElem?_map, hj]; rfl
          obtain ⟨i1, i2⟩ := List.getElem?_eq_some_iff.mp e3
          obtain ⟨j1, j2⟩ := List.getElem?_eq_some_iff.mp e4
          rcases Nat.lt_trichotomy i j with y | y | y
          · have ap := List.pairwise_iff_getElem.mp this i j i1 j1 y
            rw [i2, j2] at ap; exact ap.1 q
          · subst y; rw [e3] at e4; cases e4; exact z rfl
          · have ap := List.pairwise_iff_getElem.mp this j i j1 i1 y
            rw [i2, j2] at ap; exact ap.2 q
      · by_cases z : t = s
        · exact z
        · exfalso
          have := G.lv.ap
          obtain ⟨i, hi⟩ := List.mem_iff_getElem?.mp tm
          obtain ⟨j, hj⟩ := List.mem_iff_getElem?.mp hm
          have e3 : (kvs.map (·.2))[i]? = some t := by rw [List.getElem?_map, hi]; rfl
          have e4 : (kvs.map (·.2))[j]? = some s := by rw [List.getElem?_map, hj]; rfl
          obtain ⟨i1, i2⟩ := List.getElem?_eq_some_iff.mp e3
          obtain ⟨j1, j2⟩ := List.getElem?_eq_some_iff.mp e4
          rcases Nat.lt_trichotomy i j with y | y | y
          · have ap := List.pairwise_iff_getElem.mp this i j i1 j1 y
            rw [i2, j2] at ap; exact ap.2 q
          · subst y; rw [e3] at e4; cases e4; exact z rfl
          · have ap := List.pairwise_iff_getElem.mp this j i j1 i1 y
            rw [i2, j2] at ap; exact ap.1 q
    subst ec
    obtain ⟨i, hi⟩ := List.mem_iff_getElem?.mp tm
    obtain ⟨j, hj⟩ := List.mem_iff_getElem?.mp hm
    have e3 : (kvs.map (·.2))[i]? = some t := by rw [List.getElem?_map, hi]; rfl
    have e4 : (kvs.map (·.2))[j]? = some t := by rw [List.getElem?_map, hj]; rfl
    have ij : i = j := by
      obtain ⟨i1, i2⟩ := List.getElem?_eq_some_iff.mp e3
      obtain ⟨j1, j2⟩ := List.getElem?_eq_some_iff.mp e4
      rcases Nat.lt_trichotomy i j with y | y | y
      · have ap := List.pairwise_iff_getElem.mp G.lv.ap i j i1 j1 y
        rw [i2, j2] at ap; exact absurd rfl ap.ne
      · exact y
      · have ap := List.pairwise_iff_getElem.mp G.lv.ap j i j1 i1 y
        rw [i2, j2] at ap; exact absurd rfl ap.ne
    subst ij
    rw [hi] at hj
    cases hj
    rfl
  have some_ : ∃ d, letterAt kvs r = some d := by
    have key : ∃ d, bof kvs s = some d := by
      cases e : bof kvs s with
      | some d => exact ⟨d, rfl⟩
      | none => exact absurd rfl (bof_none e _ hm)
    obtain ⟨d, hd⟩ := key
    rw [← es] at hd
    obtain ⟨l1, l3, _⟩ := lf
    unfold letterAt
    have hl : s.length = 1 ∨ s.length = 2 ∨ s.length = 3 := by omega
    rcases hl with e | e | e
    · rw [e] at hd; rw [hd]; exact ⟨d, rfl⟩
    · rw [e] at hd
      cases bof kvs (r.take 1) with
      | some x => exact ⟨x, rfl⟩
      | none => rw [hd]; exact ⟨d, rfl⟩
    · rw [e] at hd
      cases bof kvs (r.take 1) with
      | some x => exact ⟨x, rfl⟩
      | none =>
        cases bof kvs (r.take 2) with
        | some x => exact ⟨x, rfl⟩
        | none => exact ⟨d, hd⟩
  obtain ⟨d, hd⟩ := some_
  rw [hd, uniq d hd]
theorem letterAt_no {kvs : Codes} {r : List Nat} (G : Good kvs) (h : letterAt kvs r = none) : ∀ q ∈ kvs, ¬ q.2 <+: r := fun q hq hp => by rw [letterAt_iff G (c := q.1) (s := q.2) hq hp] at h; cases h
def wrong : List Nat := [119, 114, 111, 110, 103]
def resV : Except Nat (List Nat) → Val
  | .ok t => .str t
  | .error p => .tup [.str wrong, .int (p : Int)]
def sp_text : Spec := fun vs h Q _ => ∃ p kvs r mode, vs = [.ref p, .str r, .str mode] ∧ h p = some (.dct (cdV kvs)) ∧ Good kvs ∧ r.length ≤ 1000 ∧ Q (resV (txt kvs mode r)) h
theorem cutB {α : Type} {xs : List α} {m n : Nat} (h : m ≤ xs.length) : cutL xs (some (m : Int)) (some ((m + n : Nat) : Int)) = (xs.drop m).take n := by
  have e : clip xs.length 0 (some (m : Int)) = m := by show (if (m : Int) < 0 then ((m : Int) + (xs.length : Int)).toNat else min (m : Int).toNat xs.length) = m; rw [if_neg (by omega), Int.toNat_natCast, Nat.min_eq_left h]
  have e2 : clip xs.length xs.length (some ((m + n : Nat) : Int)) = min (m + n) xs.length := by show (if ((m + n : Nat) : Int) < 0 then (((m + n : Nat) : Int) + (xs.length : Int)).toNat else min ((m + n : Nat) : Int).toNat xs.length) = _; rw [if_neg (by omega), Int.toNat_natCast]
  show (xs.drop (clip xs.length 0 (some (m : Int)))).take (clip xs.length xs.length (some ((m + n : Nat) : Int)) - clip xs.length 0 (some (m : Int))) = _
  rw [e, e2, List.take_eq_take_min (i := n), List.take_eq_take_min]
  congr 1
  rw [List.length_drop]
  omega
def lt' : Option Nat → Val
  | none => .str []
  | some c => .str [c]
theorem wp_text (Γ : Ctx) : ∀ vs h Q E, sp_text vs h Q E → wpF Γ 7 b__law_text vs h Q E := by
  rintro vs h Q E ⟨p, kvs, r, mode, rfl, hp, G, l, k⟩
  have l6 := G.len
  refine wpF_of ?_
  show wpB Γ (.cons _ (.cons _ (.cons (.while_ _ _) _))) _ [some (.ref p), some (.str r), some (.str mode), none, none, none, none] _
  get_elem_tactic_extensible
  obtain ⟨Z, hz⟩ : ∃ Z, Z = txt kvs mode r := ⟨_, rfl⟩
  rw [← hz] at k
  refine ms_while (fun m env h' => ∃ (at' : Nat) (acc : List Nat) (x y : Option Val), env = [some (.ref p), some (.str r), some (.str mode), some (.str acc), some (.int (at' : Int)), x, y] ∧ h' = h ∧ at' ≤ r.length ∧ r.length - at' ≤ m ∧ m ≤ 1000 ∧ acc.length + m ≤ 1000 ∧ Z = txF kvs mode (parseF kvs true m (r.drop at')).1 at' acc)
    ⟨r.length, 0, [], none, none, rfl, rfl, by omega, by omega, l, by simpa using l, hz⟩ ?_
  rintro m env h' ⟨at', acc, x, y, rfl, rfl, al, am, lm, la, et⟩
  get_elem_tactic_extensible
  refine n_str (by unfold sizeMax; omega) ?_
  get_elem_tactic_extensible
  refine rc_dec (fun hlt => ?_) (fun hge => ?_)
  · obtain ⟨m, rfl⟩ : ∃ k, m = k + 1 := ⟨m - 1, by omega⟩
    get_elem_tactic_extensible
    refine k_dct hp ?_
    refine for_dct hp (fun i env g => ∃ y o, env = [some (.ref p), some (.str r), some (.str mode), some (.str acc), some (.int (at' : Int)), some (lt' o), y] ∧ g = upd h' p (.frz (.dct (cdV kvs))) ∧ ((∃ c, o = some c ∧ letterAt kvs (r.drop at') = some c) ∨ (o = none ∧ ∀ q ∈ kvs.take i, ¬ q.2 <+: r.drop at')))
      ⟨y, none, rfl, rfl, .inr ⟨rfl, fun q hq => by simp at hq⟩⟩ (fun i env g _ I => ?_) (fun i v env g N hv I hN => ?_) (fun env g I => ?_)
    · obtain ⟨_, _, _, rfl, _⟩ := I
      exact upd_same
    · obtain ⟨y, o, rfl, rfl, ho⟩ := I
      obtain ⟨q, eq, rfl⟩ := keys_at hv
      have qm := List.mem_of_getElem? eq
      have rp : rd (upd h' p (.frz (.dct (cdV kvs)))) p = some (.dct (cdV kvs)) := rd_frz upd_same
      have ql := (G.lv.all _ (List.mem_map.mpr ⟨q, qm, rfl⟩)).2.1
      get_elem_tactic_extensible
      refine s_dct rp rfl (cdV_get G.nd qm) ?_
      get_elem_tactic_extensible
      refine n_str (by unfold sizeMax; omega) ?_
      get_elem_tactic_extensible
      refine sl_str (by unfold sizeMax; omega) ?_
      rw [show ((at' : Int) + (q.2.length : Int)) = ((at' + q.2.length : Nat) : Int) by omega, cutB al]
      get_elem_tactic_extensible
      refine s_dct rp rfl (cdV_get G.nd qm) ?_
      get_elem_tactic_extensible
      have et : kvs.take (i + 1) = kvs.take i ++ [q] := by rw [List.take_add_one, eq]; rfl
      refine rc_dec (fun he => ?_) (fun he => ?_)
      · have pre : q.2 <+: r.drop at' := List.prefix_iff_eq_take.mpr he.symm
        have el := letterAt_iff G qm pre
        get_elem_tactic_extensible
        exact hN _ _ ⟨_, some q.1, rfl, rfl, .inl ⟨_, rfl, el⟩⟩
      · get_elem_tactic_extensible
        refine hN _ _ ⟨_, o, rfl, rfl, ?_⟩
        rcases ho with z | ⟨z1, z2⟩
        · exact .inl z
        · refine .inr ⟨z1, fun u hu => ?_⟩
          rw [et] at hu
          rcases List.mem_append.mp hu with w | w
          · exact z2 u w
          · rw [List.mem_singleton] at w
            subst w
            exact fun pre => he (List.prefix_iff_eq_take.mp pre).symm
    · obtain ⟨y, o, rfl, rfl, ho⟩ := I
      rw [upd_upd, upd_id hp]
      have rp := rd_dct hp
      have hlt : at' < r.length := by omega
      obtain ⟨w, t, ewt⟩ : ∃ w t, r.drop at' = w :: t := ⟨_, _, List.drop_eq_getElem_cons hlt⟩
      rw [ewt] at et
      have ed : r.drop (at' + 1) = t := by rw [← List.drop_drop, ewt]; rfl
      rcases ho with ⟨c, rfl, el⟩ | ⟨rfl, no⟩
      · obtain ⟨s, ec, pre, s1⟩ := letterAt_some G el
        have sl3 := (G.lv.all s (List.mem_map.mpr ⟨_, cof_mem ec, rfl⟩)).2.1
        have pl := pre.length_le
        rw [List.length_drop] at pl
        rw [ewt] at el
        unfold parseF at et
        rw [el] at et
        simp only [ec, Option.getD_some] at et
        unfold txF at et
        rw [ec] at et
        get_elem_tactic_extensible
        refine n_ss ?_
        get_elem_tactic_extensible
        refine rc_ndec (fun _ => ?_) (fun z => by cases z)
        get_elem_tactic_extensible
        refine b_addS (by rw [List.length_singleton]; unfold sizeMax; omega) ?_
        get_elem_tactic_extensible
        refine s_dct rp rfl (by show dget (cdV kvs) (.str [c]) = _; rw [cof_dget, ec]; rfl) ?_
        get_elem_tactic_extensible
        refine n_str (by unfold sizeMax; omega) ?_
        get_elem_tactic_extensible
        refine ⟨m, by omega, at' + s.length, acc ++ [c], _, _, rfl, rfl, by omega, by omega, by omega, by rw [List.length_append, List.length_singleton]; omega, ?_⟩
        rw [← List.drop_drop, ewt]
        exact et
      · have no2 : ∀ q ∈ kvs, ¬ q.2 <+: r.drop at' := fun q hq => no q (by rw [cdV_len, List.take_length]; exact hq)
        have el : letterAt kvs (r.drop at') = none := by
          cases e : letterAt kvs (r.drop at') with
          | none => rfl
          | some c =>
            obtain ⟨s, ec, pre, _⟩ := letterAt_some G e
            exact absurd pre (no2 _ (cof_mem ec))
        rw [ewt] at el
        unfold parseF at et
        rw [el] at et
        simp only [Bool.true_eq_false, false_and, if_false] at et
        unfold txF at et
        get_elem_tactic_extensible
        refine n_ss ?_
        get_elem_tactic_extensible
        refine rc_ndec (fun z => absurd rfl z) (fun _ => ?_)
        get_elem_tactic_extensible
        refine rc_dec (fun hs => ?_) (fun hs => ?_)
        · rw [if_pos (show mode = strict from hs)] at et
          get_elem_tactic_extensible
          rw [et] at k
          exact k
        · rw [if_neg (show ¬ mode = strict from hs)] at et
          get_elem_tactic_extensible
          refine rc_dec (fun hr => ?_) (fun hr => ?_)
          · rw [if_pos (show mode = replace from hr)] at et
            get_elem_tactic_extensible
            refine b_addS (by rw [List.length_singleton]; unfold sizeMax; omega) ?_
            get_elem_tactic_extensible
            exact ⟨m, by omega, at' + 1, acc ++ [63], _, _, rfl, rfl, by omega, by omega, by omega, by rw [List.length_append, List.length_singleton]; omega, by rw [ed]; exact et⟩
          · rw [if_neg (show ¬ mode = replace from hr)] at et
            get_elem_tactic_extensible
            exact ⟨m, by omega, at' + 1, acc, _, _, rfl, rfl, by omega, by omega, by omega, by omega, by rw [ed]; exact et⟩
  · have ea : at' = r.length := by omega
    subst ea
    rw [List.drop_length, parse_nil] at et
    get_elem_tactic_extensible
    rw [et] at k
    exact k
def sp_bytes : Spec := fun vs h Q _ => ∃ p kvs r mode, vs = [.ref p, .str r, .str mode] ∧ h p = some (.dct (cdV kvs)) ∧ Good kvs ∧ r.length ≤ 1000 ∧ (mode = strict ∨ mode = replace ∨ mode = ignore) ∧ Q (resV ((byF kvs mode r 0 []).map List.flatten)) h
theorem wp_bytes (Γ : Ctx) : ∀ vs h Q E, sp_bytes vs h Q E → wpF Γ 5 b__law_bytes vs h Q E := by
  rintro vs h Q E ⟨p, kvs, r, mode, rfl, hp, G, l, hm, k⟩
  have rp := rd_dct hp
  refine wpF_of ?_
  show wpB Γ (.cons _ (.cons (.for_ _ _ _) _)) _ [some (.ref p), some (.str r), some (.str mode), none, none] _
  get_elem_tactic_extensible
  refine n_str (by unfold sizeMax; omega) ?_
  get_elem_tactic_extensible
  obtain ⟨Z, hz⟩ : ∃ Z, Z = byF kvs mode r 0 [] := ⟨_, rfl⟩
  rw [← hz] at k
  refine ⟨by omega, ?_⟩
  refine for_of rfl (fun i env h' => ∃ acc x, env = [some (.ref p), some (.str r), some (.str mode), some (.str (List.flatten acc)), x] ∧ h' = h ∧ (List.flatten acc).length ≤ 3 * i ∧ Z = byF kvs mode (r.drop i) i acc)
    ⟨[], none, rfl, rfl, Nat.le_refl _, hz⟩ (fun _ _ _ _ _ => trivial) (fun i v env h' N hv I hN => ?_) (fun env h' I => ?_)
  · obtain ⟨acc, x, rfl, rfl, la, et⟩ := I
    have hv2 : (rangeL 0 ((r.length : Int)).toNat)[i]? = some v := hv
    have hi : i < r.length := by
      have := (List.getElem?_eq_some_iff.mp hv2).1
      rw [rng_len] at this
      omega
    have ev : v = .int (i : Int) := by
      unfold rangeL at hv2
      rw [List.getElem?_map, List.getElem?_range (by omega)] at hv2
      cases hv2
      show Val.int (0 + (i : Int)) = _
      rw [Int.zero_add]
    subst ev
    have e : r[i]? = some r[i] := List.getElem?_eq_getElem hi
    rw [List.drop_eq_getElem_cons hi] at et
    generalize r[i] = c at e et
    unfold byF codeOf at et
    get_elem_tactic_extensible
    refine s_str (by unfold sizeMax; omega) (ix_pos hi) e ?_
    get_elem_tactic_extensible
    refine m_dct rp rfl ?_
    rw [cof_dget]
    get_elem_tactic_extensible
    cases ec : cof kvs c with
    | some s =>
      rw [ec] at et
      have sl3 := (G.lv.all s (List.mem_map.mpr ⟨_, cof_mem ec, rfl⟩)).2.1
      refine rc_true ?_
      get_elem_tactic_extensible
      refine s_str (by unfold sizeMax; omega) (ix_pos hi) e ?_
      refine s_dct rp rfl (by rw [cof_dget, ec]; rfl) ?_
      refine b_addS (by unfold sizeMax; omega) ?_
      get_elem_tactic_extensible
      exact hN _ _ ⟨acc ++ [s], _, by rw [List.flatten_append, List.flatten_singleton]; rfl, rfl, by rw [List.flatten_append, List.flatten_singleton, List.length_append]; omega, et⟩
    | none =>
      rw [ec] at et
      refine rc_false ?_
      get_elem_tactic_extensible
      refine rc_dec (fun hr => ?_) (fun hr => ?_)
      · have hr : mode = replace := hr
        rw [hr, if_neg (by decide), if_pos rfl] at et
        get_elem_tactic_extensible
        refine m_dct rp rfl ?_
        rw [cof_dget]
        get_elem_tactic_extensible
        cases e6 : cof kvs 63 with
        | some s =>
          rw [e6] at et
          have sl3 := (G.lv.all s (List.mem_map.mpr ⟨_, cof_mem e6, rfl⟩)).2.1
          refine rc_true ?_
          get_elem_tactic_extensible
          refine s_dct rp rfl (by rw [cof_dget, e6]; rfl) ?_
          refine b_addS (by unfold sizeMax; omega) ?_
          get_elem_tactic_extensible
          refine hN _ _ ⟨acc ++ [s], _, by rw [List.flatten_append, List.flatten_singleton]; rfl, rfl, by rw [List.flatten_append, List.flatten_singleton, List.length_append]; omega, ?_⟩
          rw [hr]; exact et
        | none =>
          rw [e6] at et
          refine rc_false ?_
          get_elem_tactic_extensible
          refine rc_ndec (fun _ => ?_) (fun z => absurd (show replace = ignore from hr.symm.trans z) (by decide))
          get_elem_tactic_extensible
          rw [et] at k
          exact k
      · have hr : ¬ mode = replace := hr
        get_elem_tactic_extensible
        refine rc_ndec (fun hg => ?_) (fun hg => ?_)
        · have hg : ¬ mode = ignore := hg
          rw [if_neg hg, if_neg hr] at et
          get_elem_tactic_extensible
          rw [et] at k
          exact k
        · have hg : mode = ignore := hg
          rw [if_pos hg] at et
          get_elem_tactic_extensible
          exact hN _ _ ⟨acc ++ [[]], _, by rw [List.flatten_append, List.flatten_singleton, List.append_nil]; rfl, rfl, by rw [List.flatten_append, List.flatten_singleton, List.append_nil]; omega, et⟩
  · obtain ⟨acc, x, rfl, rfl, la, et⟩ := I
    have et2 : Z = byF kvs mode (r.drop (rangeL 0 ((r.length : Int)).toNat).length) (rangeL 0 ((r.length : Int)).toNat).length acc := et
    rw [rng_len, Int.toNat_natCast, List.drop_length] at et2
    rw [et2] at k
    get_elem_tactic_extensible
    exact k
end Bk
set_option Elab.async false
set_option linter.all false
set_option maxRecDepth 100000
set_option maxHeartbeats 4000000
namespace Bk
open Bc
local macro_rules | `(tactic| get_elem_tactic_extensible) => `(tactic| repeat with_reducible (first | refine rc_true ?_ | refine rc_false ?_ | refine ro_b ?_ | refine ro_i ?_ | refine ro_r ?_ | refine ro_t ?_ | refine mb_cons ?_ | refine mb_nil ?_ | refine r_var rfl ?_ | refine r_lit ?_ | refine r_nil ?_ | refine r_cons ?_ | refine r_sub ?_ | refine r_attr ?_ | refine r_cmp ?_ | refine r_cmp2 ?_ | refine r_bin ?_ | refine r_not ?_ | refine r_and ?_ | refine r_or ?_ | refine r_ite ?_ | refine r_slF ?_ | refine r_slT ?_ | refine r_slB ?_ | refine r_tup ?_ | refine r_lst ?_ | refine r_dct ?_ | refine r_bi ?_ | refine r_bm ?_ | refine r_isin ?_ | refine r_meth ?_ | refine rt_yes ?_ | refine rt_cmp ?_ | refine rt_cmp2 ?_ | refine rt_tru ?_ | refine rt_not ?_ | refine rt_and ?_ | refine rt_or ?_ | refine rt_bool ?_ | refine rt_non ?_ | refine rt_int ?_ | refine rt_tup ?_ | refine b_addI ?_ | refine b_subI ?_ | refine q_ii ?_ | refine q_ss ?_ | refine n_ii ?_ | refine n_ss ?_ | refine q_ns ?_ | refine q_sn ?_ | refine l_lt ?_ | refine l_le ?_ | refine l_gt ?_ | refine l_ge ?_ | refine i_non ?_ | refine i_str ?_ | refine i_int ?_ | refine i_ref ?_ | refine i_tup' ?_ | refine j_non ?_ | refine j_str ?_ | refine j_int ?_ | refine j_ref ?_ | refine j_tup ?_ | refine m_str ?_ | refine mn_str ?_ | refine n_tup ?_ | refine n_int ?_ | refine n_intb ?_ | refine n_min ?_ | refine n_listT ?_ | refine ms_set ?_ | refine ms_unpT ?_ | refine ms_unpL ?_ | refine ms_par2 ?_ | refine ms_sset ?_ | refine ms_aset ?_ | refine ms_aug rfl ?_ | refine ms_exp ?_ | refine ms_ret ?_ | refine ms_retN ?_ | refine ms_ite ?_ | refine ms_brk ?_ | refine ms_pass ?_ | refine ms_raise ?_ | refine s_lst (by assumption) rfl rfl ?_ | refine s_tup rfl rfl ?_ | refine n_lst (by assumption) ?_ | refine n_dct (by assumption) ?_ | refine a_ins (by assumption) rfl ?_ | refine r_comp ?_ | refine r_dcomp ?_ | refine ms_for ?_ | refine w_lst ?_ | refine w_tup ?_ | refine w_str ?_ | refine w_dct ?_ | refine w_rng1 ?_ | refine w_rng2 ?_ | refine w_enL ?_ | refine w_enT ?_ | refine w_enS ?_ | refine k_tup ?_ | refine k_str ?_ | refine k_lst (by assumption) ?_ | refine bm_starts ?_ | refine set_l (by assumption) rfl ?_ | refine ro_b1 ?_ | refine ro_b2 ?_ | refine ro_m2 ?_ | refine rc_nt ?_ | refine rc_nf ?_))

theorem ms_try {Γ : Ctx} {b : Stms} {hs : Hds} {K : Kont} {env : Env} {h : Heap} (q : wpB Γ b { K with ex := fun x env h => wpH Γ hs x K env h } env h) : wpS Γ (.try_ b hs) K env h := by simp only [wpS]; exact q
theorem h_yes {Γ : Ctx} {c t : Nat} {i : Option Nat} {s : Sui} {r : Hds} {x : Exn} {K : Kont} {env : Env} {h : Heap} {v : Val} (e : Γ.sub x.cls c = true) (l : ∀ j, i = some j → j < env.length) (ev : s.val x.pay = some v) (q : K.nx (afterH i t v env) h) : wpH Γ (.cons c i t s r) x K env h := by
  simp only [wpH, e, ifC_true, ev, onSome_some]; exact ⟨l, q⟩
theorem h_no {Γ : Ctx} {c t : Nat} {i : Option Nat} {s : Sui} {r : Hds} {x : Exn} {K : Kont} {env : Env} {h : Heap} (e : Γ.sub x.cls c = false) (q : wpH Γ r x K env h) : wpH Γ (.cons c i t s r) x K env h := by
  simp only [wpH, e, ifC_false]; exact q
def sp_begin : Spec := fun vs h Q _ => ∃ s xs, vs = [.ref s] ∧ h s = some (.lst (List.map Val.int xs)) ∧ ∀ d h', h d = none → Dr h' d → Ext h h' → Q (.ref d) h'
theorem wp_begin (Γ : Ctx) : ∀ vs h Q E, sp_begin vs h Q E → wpF Γ 1 b__law_begin vs h Q E := by
  rintro vs h Q E ⟨s, xs, rfl, hs, k⟩
  have rs := rd_lst hs
  refine wpF_of ?_
  show wpB Γ (.cons _ .nil) _ [some (.ref s)] _
  get_elem_tactic_extensible
  refine n_list rs fun p hp => ?_
  get_elem_tactic_extensible
  intro d hd
  have dn : h d = none := by
    cases e : h d with
    | none => rfl
    | some o => rw [(Ext.new (o := .lst (List.map Val.int xs)) hp) d o e] at hd; cases hd
  have pd : p ≠ d := fun e => by rw [← e, upd_same] at hd; cases hd
  exact k d _ dn ⟨p, xs, 0, 0, 7, upd_same, Int.le_refl 0, pd, by rw [upd_ne pd]; exact upd_same⟩ ((Ext.new hp).wr hd)
/-- what an answer may be -/
def plainV : Val → Prop
  | .str _ => True
  | .int _ => True
  | _ => False
def sp_like0 : Spec := fun vs h Q _ => ∃ x, vs = [x, x] ∧ plainV x ∧ Q (.bool true) h
def resP : Val → Prop
  | .str _ => True
  | .tup [.str _, .int _] => True
  | _ => False
def sp_like1 : Spec := fun vs h Q _ => ∃ x, vs = [x, x] ∧ resP x ∧ Q (.bool true) h
theorem wp_like0 (Γ : Ctx) : ∀ vs h Q E, sp_like0 vs h Q E → wpF Γ 3 b__law_like vs h Q E := by
  rintro vs h Q E ⟨x, rfl, px, k⟩
  refine wpF_of ?_
  show wpB Γ (.cons _ (.cons _ (.cons _ (.cons _ (.cons _ _))))) _ [some x, some x, none] _
  cases x with
  | str s =>
    get_elem_tactic_extensible
    refine ro_some (x := false) rfl ?_
    get_elem_tactic_extensible
    refine ro_some (x := false) rfl ?_
    get_elem_tactic_extensible
    refine ro_some (x := true) rfl ?_
    get_elem_tactic_extensible
    refine ro_some (x := true) rfl ?_
    get_elem_tactic_extensible
    rw [decide_eq_true rfl]
    exact k
  | int i =>
    get_elem_tactic_extensible
    refine ro_some (x := false) rfl ?_
    get_elem_tactic_extensible
    refine ro_some (x := true) rfl ?_
    get_elem_tactic_extensible
    refine ro_some (x := true) rfl ?_
    get_elem_tactic_extensible
    refine ro_some (x := false) rfl ?_
    get_elem_tactic_extensible
    rw [decide_eq_true rfl]
    exact k
  | _ => exact px.elim
theorem wp_like1 (Γ : Ctx) (h8 : Γ.fn 8 = sp_like0) : ∀ vs h Q E, sp_like1 vs h Q E → wpF Γ 3 b__law_like vs h Q E := by
  rintro vs h Q E ⟨x, rfl, px, k⟩
  match x, px, k with
  | .str s, _, k => exact wp_like0 Γ _ _ _ E ⟨_, rfl, trivial, k⟩
  | .tup [.str s, .int i], _, k =>
    refine wpF_of ?_
    show wpB Γ (.cons _ (.cons _ (.cons _ (.cons _ (.cons _ (.cons (.for_ _ _ _) _)))))) _ [some (.tup [.str s, .int i]), some (.tup [.str s, .int i]), none] _
    get_elem_tactic_extensible
    refine ro_some (x := false) rfl ?_
    get_elem_tactic_extensible
    refine ro_some (x := false) rfl ?_
    get_elem_tactic_extensible
    refine ro_some (x := false) rfl ?_
    get_elem_tactic_extensible
    refine ro_some (x := true) rfl ?_
    get_elem_tactic_extensible
    refine ro_some (x := true) rfl ?_
    get_elem_tactic_extensible
    refine rc_ndec (fun z => absurd rfl z) (fun _ => ?_)
    get_elem_tactic_extensible
    refine ⟨by simp only [List.length_cons, List.length_nil]; omega, ?_⟩
    refine for_of rfl (fun _ env h' => ∃ x, env = [some (.tup [.str s, .int i]), some (.tup [.str s, .int i]), x] ∧ h' = h) ⟨none, rfl, rfl⟩ (fun _ _ _ _ _ => trivial) (fun j v env h' N hv I hN => ?_) (fun env h' I => ?_)
    · obtain ⟨x, rfl, rfl⟩ := I
      have hv2 : (rangeL 0 2)[j]? = some v := hv
      have hj : j < 2 := by have := (List.getElem?_eq_some_iff.mp hv2).1; rw [rng_len] at this; exact this
      match j, hj, hv2 with
      | 0, _, hv2 =>
        cases hv2
        get_elem_tactic_extensible
        refine r_call h8 ?_
        get_elem_tactic_extensible
        refine ⟨.str s, rfl, trivial, ?_⟩
        get_elem_tactic_extensible
        exact hN _ _ ⟨_, rfl, rfl⟩
      | 1, _, hv2 =>
        cases hv2
        get_elem_tactic_extensible
        refine r_call h8 ?_
        get_elem_tactic_extensible
        refine ⟨.int i, rfl, trivial, ?_⟩
        get_elem_tactic_extensible
        exact hN _ _ ⟨_, rfl, rfl⟩
    · obtain ⟨x, rfl, rfl⟩ := I
      get_elem_tactic_extensible
      exact k
def toldV (kvs : Codes) (r mode : List Nat) (way : Int) : Val := if way = 0 then resV (txt kvs mode r) else resV ((byF kvs mode r 0 []).map List.flatten)
def sp_told : Spec := fun vs h Q _ => ∃ a nm kvs r mode way, vs = [.ref a, .str r, .str mode, .int way] ∧ EncAt h a nm kvs ∧ Good kvs ∧ r.length ≤ 1000 ∧ ∀ h', Ext h h' → Q (toldV kvs r mode way) h'
theorem wp_told (Γ : Ctx) (m6 : Γ.meth 3 6 = sp_astext) (s6 : Γ.has 3 6 = true) (m8 : Γ.meth 3 8 = sp_asbytes) (s8 : Γ.has 3 8 = true) (b44 : Γ.sub 4 4 = true) (b54 : Γ.sub 5 4 = false) (b55 : Γ.sub 5 5 = true) : ∀ vs h Q E, sp_told vs h Q E → wpF Γ 6 b__law_told vs h Q E := by
  rintro vs h Q E ⟨a, nm, kvs, r, mode, way, rfl, enc, G, l, k⟩
  obtain ⟨t, b, ha, ht, hb⟩ := id enc
  refine wpF_of ?_
  show wpB Γ (.cons _ (.cons (.try_ _ _) _)) _ [some (.ref a), some (.str r), some (.str mode), some (.int way), none, none] _
  get_elem_tactic_extensible
  refine ms_try ?_
  unfold toldV at k
  get_elem_tactic_extensible
  refine rc_dec (fun hw => ?_) (fun hw => ?_)
  · rw [if_pos hw] at k
    get_elem_tactic_extensible
    refine ro_ins ha ⟨s6, ?_⟩
    get_elem_tactic_extensible
    rw [m6]
    refine ⟨a, nm, kvs, r, mode, rfl, enc, G, l, ?_⟩
    cases e : txt kvs mode r with
    | ok x =>
      rw [e] at k
      intro h' x'
      get_elem_tactic_extensible
      exact k h' x'
    | error x =>
      rw [e] at k
      intro h' x'
      refine h_yes b44 (fun j z => by cases z; show 5 < 6; decide) rfl ?_
      show wpB _ _ _ [some (.ref a), some (.str r), some (.str mode), some (.int way), some (.tup [.str wrong, .int (x : Int)]), none] _
      get_elem_tactic_extensible
      exact k h' x'
  · rw [if_neg hw] at k
    get_elem_tactic_extensible
    refine ro_ins ha ⟨s8, ?_⟩
    get_elem_tactic_extensible
    rw [m8]
    refine ⟨a, nm, kvs, r, mode, rfl, enc, G, l, ?_⟩
    cases e : byF kvs mode r 0 [] with
    | ok x =>
      rw [e] at k
      intro h' x'
      get_elem_tactic_extensible
      exact k h' x'
    | error x =>
      rw [e] at k
      intro h' x'
      refine h_no b54 (h_yes b55 (fun j z => by cases z; show 5 < 6; decide) rfl ?_)
      show wpB _ _ _ [some (.ref a), some (.str r), some (.str mode), some (.int way), some (.tup [.str wrong, .int (x : Int)]), none] _
      get_elem_tactic_extensible
      exact k h' x'
end Bk
set_option Elab.async false
set_option linter.all false
set_option maxRecDepth 100000
set_option maxHeartbeats 4000000
namespace Bk
open Bc
local macro_rules | `(tactic| get_elem_tactic_extensible) => `(tactic| repeat with_reducible (first | refine rc_true ?_ | refine rc_false ?_ | refine ro_b ?_ | refine ro_i ?_ | refine ro_r ?_ | refine ro_t ?_ | refine mb_cons ?_ | refine mb_nil ?_ | refine r_var rfl ?_ | refine r_lit ?_ | refine r_nil ?_ | refine r_cons ?_ | refine r_sub ?_ | refine r_attr ?_ | refine r_cmp ?_ | refine r_cmp2 ?_ | refine r_bin ?_ | refine r_not ?_ | refine r_and ?_ | refine r_or ?_ | refine r_ite ?_ | refine r_slF ?_ | refine r_slT ?_ | refine r_slB ?_ | refine r_tup ?_ | refine r_lst ?_ | refine r_dct ?_ | refine r_bi ?_ | refine r_bm ?_ | refine r_isin ?_ | refine r_meth ?_ | refine rt_yes ?_ | refine rt_cmp ?_ | refine rt_cmp2 ?_ | refine rt_tru ?_ | refine rt_not ?_ | refine rt_and ?_ | refine rt_or ?_ | refine rt_bool ?_ | refine rt_non ?_ | refine rt_int ?_ | refine rt_tup ?_ | refine b_addI ?_ | refine b_subI ?_ | refine q_ii ?_ | refine q_ss ?_ | refine n_ii ?_ | refine n_ss ?_ | refine q_ns ?_ | refine q_sn ?_ | refine l_lt ?_ | refine l_le ?_ | refine l_gt ?_ | refine l_ge ?_ | refine i_non ?_ | refine i_str ?_ | refine i_int ?_ | refine i_ref ?_ | refine i_tup' ?_ | refine j_non ?_ | refine j_str ?_ | refine j_int ?_ | refine j_ref ?_ | refine j_tup ?_ | refine m_str ?_ | refine mn_str ?_ | refine n_tup ?_ | refine n_int ?_ | refine n_intb ?_ | refine n_min ?_ | refine n_listT ?_ | refine ms_set ?_ | refine ms_unpT ?_ | refine ms_unpL ?_ | refine ms_par2 ?_ | refine ms_sset ?_ | refine ms_aset ?_ | refine ms_aug rfl ?_ | refine ms_exp ?_ | refine ms_ret ?_ | refine ms_retN ?_ | refine ms_ite ?_ | refine ms_brk ?_ | refine ms_pass ?_ | refine ms_raise ?_ | refine s_lst (by assumption) rfl rfl ?_ | refine s_tup rfl rfl ?_ | refine n_lst (by assumption) ?_ | refine n_dct (by assumption) ?_ | refine a_ins (by assumption) rfl ?_ | refine r_comp ?_ | refine r_dcomp ?_ | refine ms_for ?_ | refine w_lst ?_ | refine w_tup ?_ | refine w_str ?_ | refine w_dct ?_ | refine w_rng1 ?_ | refine w_rng2 ?_ | refine w_enL ?_ | refine w_enT ?_ | refine w_enS ?_ | refine k_tup ?_ | refine k_str ?_ | refine k_lst (by assumption) ?_ | refine bm_starts ?_ | refine set_l (by assumption) rfl ?_ | refine ro_b1 ?_ | refine ro_b2 ?_ | refine ro_m2 ?_ | refine rc_nt ?_ | refine rc_nf ?_))

/-! ### the law -/
theorem drawn (Γ : Ctx) (h5 : Γ.fn 5 = sp_draw) {e0 e2 e3 e4 e5 e6 e7 e8 e9 : Option Val} {d : Nat} {n m : Nat} {alpha : List Nat} {h : Heap} {Q : Post} {E : XPost} (dr : Dr h d) (hm : alpha.length = m) (m1 : 1 ≤ m) (m2 : m ≤ 1000) (n1 : 1 ≤ n) (n2 : n ≤ 20)
    (k : ∀ s h', (∀ c ∈ s, c ∈ alpha) → s.length ≤ n → Dr h' d → Keep d h h' → Q (.str s) h') :
    bmOk .join (.str []) h ∧ wpEs Γ (.cons (.comp [8] (.rng1 (.call 5 (.cons (.var 1) (.cons (.lit (.int n)) .nil)))) .yes (.sub (.lit (.str alpha)) (.call 5 (.cons (.var 1) (.cons (.lit (.int m)) .nil))))) .nil) [e0, some (.ref d), e2, e3, e4, e5, e6, e7, e8, e9] h (fun vs h => wBm .join (.str []) vs h Q) E := by
  refine ⟨trivial, ?_⟩
  get_elem_tactic_extensible
  refine r_call h5 ?_
  get_elem_tactic_extensible
  refine ⟨d, n, rfl, dr, by omega, by omega, fun c h1 c0 c1 dr1 same1 => ?_⟩
  get_elem_tactic_extensible
  refine ⟨by omega, ?_⟩
  refine goes_of (S := List Val × Heap) (fun i s => ∃ l h', s = (sLs (sing l), h') ∧ l.length = i ∧ (∀ c ∈ l, c ∈ alpha) ∧ Dr h' d ∧ Keep d h h') ⟨[], h1, rfl, rfl, fun _ z => (by cases z), dr1, Keep.refl.same same1⟩ (fun _ _ _ _ => trivial) (fun i v s K hv I hK => ?_) (fun s I => ?_)
  · obtain ⟨l, h', rfl, ll, lm, dr2, kp⟩ := I
    have hi := (List.getElem?_eq_some_iff.mp hv).1
    have hi2 : i < (rangeL 0 c.toNat).length := hi
    rw [rng_len] at hi2
    get_elem_tactic_extensible
    refine r_call h5 ?_
    get_elem_tactic_extensible
    refine ⟨d, m, rfl, dr2, by omega, by omega, fun x h2 x0 x1 dr3 same2 => ?_⟩
    get_elem_tactic_extensible
    have ex : alpha[x.toNat]? = some (alpha[x.toNat]'(by omega)) := List.getElem?_eq_getElem _
    generalize alpha[x.toNat]'_ = y at ex
    refine s_str (by unfold sizeMax; omega) (ix_int x0 (by omega)) ex ?_
    refine ⟨by show (sLs (sing l)).length < sizeMax; rw [slen, sing_len]; unfold sizeMax; omega, hK _ ⟨l ++ [y], h2, ?_, by rw [List.length_append, ll]; rfl, fun c hc => ?_, dr3, kp.same same2⟩⟩
    · simp [sLs, sing]
    · rcases List.mem_append.mp hc with q | q
      · exact lm c q
      · rw [List.mem_singleton] at q; subst q; exact List.mem_of_getElem? ex
  · obtain ⟨l, h', rfl, ll, lm, dr2, kp⟩ := I
    have ll2 : l.length = (rangeL 0 c.toNat).length := ll
    rw [rng_len] at ll2
    intro p hp
    get_elem_tactic_extensible
    refine bm_join (by show (match rd _ p with | some (.lst xs) => some xs | _ => none) = _; rw [rd_lst upd_same]) (strs_str _) ?_ ?_
    · have e2 : ((sing l).map List.length).sum = l.length := by rw [← List.length_flatten, sing_flat]
      rw [e2]
      show l.length + _ * 0 ≤ _
      unfold sizeMax
      omega
    · rw [join_flat, sing_flat]
      exact k l _ lm (by omega) (dr2.wr hp) (kp.new hp)
/-- letters that have codes come back -/
theorem by_ok {kvs : Codes} : ∀ (l : List Nat) (pl : Nat) (acc : List (List Nat)), (∀ c ∈ l, (cof kvs c).isSome = true) → byF kvs strict l pl acc = .ok (acc ++ l.map fun c => (cof kvs c).getD [])
  | [], _, acc, _ => by simp [byF]
  | c :: r, pl, acc, h => by
    unfold byF codeOf
    have hc := h c List.mem_cons_self
    cases e : cof kvs c with
    | none => rw [e] at hc; cases hc
    | some s =>
      show byF kvs strict r (pl + 1) (acc ++ [s]) = _
      rw [by_ok r (pl + 1) (acc ++ [s]) fun d hd => h d (List.mem_cons_of_mem _ hd), List.map_cons, e, List.append_assoc]
      rfl
theorem parse_back {kvs : Codes} (G : Good kvs) : ∀ (l : List Nat) (n : Nat), (∀ c ∈ l, (cof kvs c).isSome = true) → (l.map fun c => (cof kvs c).getD []).flatten.length ≤ n → (parseF kvs true n (l.map fun c => (cof kvs c).getD []).flatten).1 = l.map some
  | [], n, _, _ => by rw [List.map_nil, List.flatten_nil, parse_nil]; rfl
  | c :: r, n, h, hn => by
    have hc := h c List.mem_cons_self
    cases e : cof kvs c with
    | none => rw [e] at hc; cases hc
    | some s =>
      have s1 := (G.lv.all s (List.mem_map.mpr ⟨_, cof_mem e, rfl⟩)).1
      rw [List.map_cons, e, Option.getD_some, List.flatten_cons] at hn ⊢
      rw [List.length_append] at hn
      obtain ⟨n, rfl⟩ : ∃ k, n = k + 1 := ⟨n - 1, by omega⟩
      obtain ⟨x, s', rfl⟩ : ∃ x t, s = x :: t := by cases s with | nil => simp at s1 | cons x t => exact ⟨x, t, rfl⟩
      have el := letterAt_iff G (cof_mem e) (List.prefix_append (x :: s') (r.map fun c => (cof kvs c).getD []).flatten)
      rw [List.cons_append] at el ⊢
      unfold parseF
      rw [el]
      show some c :: (parseF kvs true n ((x :: (s' ++ _)).drop ((cof kvs c).getD []).length)).1 = _
      rw [e, Option.getD_some, ← List.cons_append, List.drop_left, parse_back G r n (fun d hd => h d (List.mem_cons_of_mem _ hd)) (by rw [List.length_cons] at hn; omega)]
      rfl
theorem tx_back {kvs : Codes} {mode : List Nat} : ∀ (l : List Nat) (pl : Nat) (acc : List Nat), txF kvs mode (l.map some) pl acc = .ok (acc ++ l)
  | [], _, acc => by simp [txF]
  | c :: r, pl, acc => by
    show txF kvs mode (r.map some) _ (acc ++ [c]) = _
    rw [tx_back r _ (acc ++ [c]), List.append_assoc]
    rfl
theorem flat_len {kvs : Codes} (G : Good kvs) : ∀ (l : List Nat), (l.map fun c => (cof kvs c).getD []).flatten.length ≤ 3 * l.length
  | [] => Nat.zero_le _
  | c :: r => by
    rw [List.map_cons, List.flatten_cons, List.length_append, List.length_cons]
    have a := flat_len G r
    have b : ((cof kvs c).getD []).length ≤ 3 := by
      cases e : cof kvs c with
      | none => exact Nat.zero_le _
      | some s => exact (G.lv.all s (List.mem_map.mpr ⟨_, cof_mem e, rfl⟩)).2.1
    omega
theorem res_p : ∀ x, resP (resV x)
  | .ok _ => trivial
  | .error _ => trivial
theorem told_p {kvs : Codes} {r mode : List Nat} {w : Int} : resP (toldV kvs r mode w) := by unfold toldV; split <;> exact res_p _
theorem Ext.keep {d : Nat} {h h' : Heap} (x : Ext h h') : Keep d h h' := fun a o _ e => x a o e
theorem Dr.ext {d : Nat} {h h' : Heap} (r : Dr h d) (x : Ext h h') : Dr h' d := let ⟨s, xs, i, w, m, a, b, c, e⟩ := r; ⟨s, xs, i, w, m, x _ _ a, b, c, x _ _ e⟩
theorem EncAt.keep {d a : Nat} {h h' : Heap} {nm : List Nat} {kvs : Codes} (e : EncAt h a nm kvs) (r : Dr h d) (x : Keep d h h') : EncAt h' a nm kvs := by
  obtain ⟨t, b, e1, e2, e3⟩ := e
  have dn : ∀ {q : Nat} {o : Obj}, h q = some o → (∀ xs, o ≠ .lst xs) → q ≠ d := fun {q o} e n z => by
    obtain ⟨s, xs, i, w, m, a, _⟩ := r
    rw [z, a] at e
    cases e
    exact n _ rfl
  exact ⟨t, b, x _ _ (dn e1 fun _ z => (by cases z)) e1, x _ _ (dn e2 fun _ z => (by cases z)) e2, x _ _ (dn e3 fun _ z => (by cases z)) e3⟩
def hasC (kvs : Codes) : Val → Bool
  | .str [c] => (cof kvs c).isSome
  | _ => false
/-- behind the first statement -/
theorem wp_lawR (Γ : Ctx) (f5 : Γ.fn 5 = sp_draw) (f6 : Γ.fn 6 = sp_codes) (n3 : Γ.new 3 = sp_enc) (f8 : Γ.fn 8 = sp_like1) (f10 : Γ.fn 10 = sp_told) (f12 : Γ.fn 12 = sp_text) (f13 : Γ.fn 13 = sp_bytes)
    (m6 : Γ.meth 3 6 = sp_astext) (s6 : Γ.has 3 6 = true) (m8 : Γ.meth 3 8 = sp_asbytes) (s8 : Γ.has 3 8 = true) {x0 : Option Val} {d : Nat} {h1 : Heap} {Q : Post} {E : XPost} (dr1 : Dr h1 d) (k : ∀ h', Q (.bool true) h') :
    wpB Γ b_law.tl (kF Q E) [x0, some (.ref d), none, none, none, none, none, none, none, none] h1 := by
  show wpB Γ (.cons _ (.cons _ (.cons (.for_ _ _ _) _))) _ _ _
  get_elem_tactic_extensible
  refine r_call f6 ?_
  get_elem_tactic_extensible
  refine ⟨d, rfl, dr1, fun p kvs h2 hp hp2 G dr2 kp2 => ?_⟩
  get_elem_tactic_extensible
  refine r_mk n3 ?_
  get_elem_tactic_extensible
  refine ⟨_, p, kvs, rfl, hp2, by decide, by decide, G, fun a h3 ha enc x3 => ?_⟩
  get_elem_tactic_extensible
  intro M hM
  have enc4 := enc.ext (Ext.new (o := .lst [.str [115, 116, 114, 105, 99, 116], .str [114, 101, 112, 108, 97, 99, 101], .str [105, 103, 110, 111, 114, 101]]) hM)
  have dr4 := (dr2.ext x3).wr (o := .lst [.str [115, 116, 114, 105, 99, 116], .str [114, 101, 112, 108, 97, 99, 101], .str [105, 103, 110, 111, 114, 101]]) hM
  have hp4 := (Ext.new (o := .lst [.str [115, 116, 114, 105, 99, 116], .str [114, 101, 112, 108, 97, 99, 101], .str [105, 103, 110, 111, 114, 101]]) hM) _ _ (x3 _ _ hp2)
  have hM4 : upd h3 M (.lst [.str [115, 116, 114, 105, 99, 116], .str [114, 101, 112, 108, 97, 99, 101], .str [105, 103, 110, 111, 114, 101]]) M = some (.lst (sLs [strict, replace, ignore])) := upd_same
  generalize upd h3 M (.lst [.str [115, 116, 114, 105, 99, 116], .str [114, 101, 112, 108, 97, 99, 101], .str [105, 103, 110, 111, 114, 101]]) = g at *
  refine k_lst (rd_lst hM4) ?_
  refine for_of rfl (fun i env h' => ∃ y4 y5 y6 y7, env = [x0, some (.ref d), some (.ref p), some (.ref a), y4, y5, y6, y7, none, none] ∧ Dr h' d ∧ Keep d g h') ⟨_, _, _, _, rfl, dr4, Keep.refl⟩ (fun i env h' _ I => ?_) (fun i v env h' N hv I hN => ?_) (fun env h' I => ?_)
  · obtain ⟨_, _, _, _, _, _, kp⟩ := I
    exact rd_lst (kp M _ (dr4.notStr hM4 (by decide)).1 hM4)
  · obtain ⟨y4, y5, y6, y7, rfl, dr5, kp5⟩ := I
    obtain ⟨mode, em, rfl⟩ := strs_at hv
    have hmode : mode = strict ∨ mode = replace ∨ mode = ignore := by
      have := List.mem_of_getElem? em
      simpa using this
    have enc5 := enc4.keep dr4 kp5
    have hp5 := kp5 p _ (dr4.notDct hp4).1 hp4
    get_elem_tactic_extensible
    refine drawn Γ f5 (n := 11) (m := 4) dr5 rfl (by decide) (by decide) (by decide) (by decide) fun given h6 gm gl dr6 kp6 => ?_
    have enc6 := enc5.keep dr5 kp6
    have hp6 := kp6 p _ (dr5.notDct hp5).1 hp5
    have kq6 := kp5.trans kp6
    get_elem_tactic_extensible
    refine r_call f8 ?_
    get_elem_tactic_extensible
    refine r_call f10 ?_
    get_elem_tactic_extensible
    refine ⟨a, _, kvs, given, mode, 0, rfl, enc6, G, by omega, fun h7 x7 => ?_⟩
    get_elem_tactic_extensible
    refine r_call f12 ?_
    get_elem_tactic_extensible
    refine ⟨p, kvs, given, mode, rfl, x7 _ _ hp6, G, by omega, ?_⟩
    refine ⟨resV (txt kvs mode given), rfl, res_p _, ?_⟩
    have dr7 := dr6.ext x7
    have enc7 := enc6.ext x7
    have hp7 := x7 _ _ hp6
    have kq7 := kq6.trans (x7.keep (d := d))
    get_elem_tactic_extensible
    refine drawn Γ f5 (n := 9) (m := 6) dr7 rfl (by decide) (by decide) (by decide) (by decide) fun text h8 tm tl dr8 kp8 => ?_
    have enc8 := enc7.keep dr7 kp8
    have hp8 := kp8 p _ (dr7.notDct hp7).1 hp7
    have kq8 := kq7.trans kp8
    get_elem_tactic_extensible
    refine r_call f8 ?_
    get_elem_tactic_extensible
    refine r_call f10 ?_
    get_elem_tactic_extensible
    refine ⟨a, _, kvs, text, mode, 1, rfl, enc8, G, by omega, fun h9 x9 => ?_⟩
    get_elem_tactic_extensible
    refine r_call f13 ?_
    get_elem_tactic_extensible
    refine ⟨p, kvs, text, mode, rfl, x9 _ _ hp8, G, by omega, hmode, ?_⟩
    refine ⟨resV ((byF kvs mode text 0 []).map List.flatten), rfl, res_p _, ?_⟩
    get_elem_tactic_extensible
    have dr9 := dr8.ext x9
    have enc9 := enc8.ext x9
    have hp9 := x9 _ _ hp8
    have rp9 := rd_dct hp9
    have kq9 := kq8.trans (x9.keep (d := d))
    refine ⟨trivial, ?_⟩
    get_elem_tactic_extensible
    refine comp_pure (hasC kvs) id (by show (signs text).length ≤ _; rw [signs_len]; unfold sizeMax; omega) trivial (fun v hv acc K hl q => ?_) ?_
    · have hv2 : v ∈ signs text := hv
      obtain ⟨c, _, rfl⟩ := List.mem_map.mp hv2
      get_elem_tactic_extensible
      refine m_dct rp9 rfl ?_
      rw [cof_dget]
      get_elem_tactic_extensible
      cases e : cof kvs c with
      | none =>
        simp only [hasC, e] at q
        exact q
      | some s =>
        simp only [hasC, e] at q
        refine rc_true ?_
        get_elem_tactic_extensible
        exact ⟨hl, q⟩
    · intro T hT
      have ef : ((signs text).filter (hasC kvs)).map id = sLs (sing (text.filter fun c => (cof kvs c).isSome)) := by
        rw [List.map_id]
        unfold signs sLs sing
        rw [List.filter_map, List.map_map]
        rfl
      have hT : h9 T = none := hT
      show wpEs Γ _ _ (upd h9 T (.lst (((signs text).filter (hasC kvs)).map id))) _ _
      rw [ef]
      have kl : (text.filter fun c => (cof kvs c).isSome).length ≤ 9 := Nat.le_trans (List.length_filter_le _ _) tl
      have km : ∀ c ∈ text.filter (fun c => (cof kvs c).isSome), (cof kvs c).isSome = true := fun c hc => (List.mem_filter.mp hc).2
      generalize (text.filter fun c => (cof kvs c).isSome) = known at *
      have hT2 : upd h9 T (.lst (sLs (sing known))) T = some (.lst (sLs (sing known))) := upd_same
      have dr10 := dr9.wr (o := .lst (sLs (sing known))) hT
      have enc10 := enc9.ext (Ext.new (o := .lst (sLs (sing known))) hT)
      have kq10 := kq9.new (o := .lst (sLs (sing known))) hT
      show wpEs Γ _ _ (upd h9 T (.lst (sLs (sing known)))) _ _
      generalize upd h9 T (.lst (sLs (sing known))) = g10 at *
      get_elem_tactic_extensible
      refine bm_join (by show (match rd _ T with | some (.lst xs) => some xs | _ => none) = _; rw [rd_lst hT2]) (strs_str _) ?_ ?_
      · have e2 : ((sing known).map List.length).sum = known.length := by rw [← List.length_flatten, sing_flat]
        rw [e2]
        show known.length + _ * 0 ≤ _
        unfold sizeMax
        omega
      · rw [join_flat, sing_flat]
        obtain ⟨t, b, ha10, ht10, hb10⟩ := id enc10
        get_elem_tactic_extensible
        refine ro_ins ha10 ⟨s6, ?_⟩
        get_elem_tactic_extensible
        refine ro_ins ha10 ⟨s8, ?_⟩
        get_elem_tactic_extensible
        rw [m8]
        refine ⟨a, _, kvs, known, strict, rfl, enc10, G, by omega, ?_⟩
        rw [by_ok known 0 [] km, List.nil_append]
        intro h11 x11
        get_elem_tactic_extensible
        rw [m6]
        have fl := flat_len G known
        refine ⟨a, _, kvs, _, mode, rfl, enc10.ext x11, G, by omega, ?_⟩
        unfold txt
        rw [parse_back G known _ km (Nat.le_refl _), tx_back, List.nil_append]
        intro h12 x12
        get_elem_tactic_extensible
        refine rc_ndec (fun z => absurd rfl z) (fun _ => ?_)
        get_elem_tactic_extensible
        exact hN _ _ ⟨_, _, _, _, rfl, (dr10.ext x11).ext x12, (kq10.trans (x11.keep (d := d))).trans (x12.keep (d := d))⟩
  · obtain ⟨y4, y5, y6, y7, rfl, dr5, kp5⟩ := I
    get_elem_tactic_extensible
    exact k _
end Bk
set_option Elab.async false
set_option linter.all false
set_option maxRecDepth 100000
set_option maxHeartbeats 4000000
namespace Bk
open PySem L2 PyProof.Rows Bs
theorem getD_out {α : Type} {l : List α} {i : Nat} {d : α} (h : l.length ≤ i) : l.getD i d = d := by rw [List.getD_eq_getElem?_getD, List.getElem?_eq_none h]; rfl
def never : Bc.Spec := fun _ _ _ _ => False
/-- the promises; sp8: like's, which calls itself -/
def Gam (sp8 : Bc.Spec) : Bc.Ctx where
  glob := fun g => match g with | 0 => some (.str bytes) | 1 => some (.str base) | 2 => some (.str small) | _ => none
  fn := fun f => match f with | 1 => sp_is_of | 2 => sp_is_name | 3 => sp_are | 5 => sp_draw | 6 => sp_codes | 12 => sp_text | 13 => sp_bytes | 10 => sp_told | 8 => sp8 | _ => never
  new := fun c => if c = 3 then sp_enc else never
  meth := fun _ m => match m with | 3 => sp_letter | 4 => sp_begun | 5 => sp_parsed | 6 => sp_astext | 7 => sp_code | 8 => sp_asbytes | _ => never
  has := fun c m => decide (c = 3) && ([3, 4, 5, 6, 7, 8] : List Nat).contains m
  sub := fun c d => decide (c = d)
/-- what the top has written, but the defs -/
structure St (K : PySem.W.Frag) (mg : Str → Option Value) (ct : Nat → Addr) : Prop where
  blt : ∀ x ∈ bltNames, mg x = none
  g0 : ∃ t, mg "BYTES" = some (.str "0123" t)
  g1 : ∃ t, mg "LETTERS" = some (.str "abcde?" t)
  g2 : ∃ t, mg "SMALL" = some (.str "abcdefghijklmnopqrstuvwxyz" t)
  cl : ClF K (ct 3)
  mgc : mg "Encoding" = some (.ref (ct 3))
  a0 : NoAttr K (ct 3) "name"
  a1 : NoAttr K (ct 3) "table"
  a2 : NoAttr K (ct 3) "back"
  kOT : ∀ n ∈ tyNames, PySem.W.kitOne K (.ref (ct 3)) (.type n) = some false
  kTO : ∀ n ∈ tyNames, PySem.W.kitOne K (.type n) (.ref (ct 3)) = some false
  kOO : PySem.W.kitOne K (.ref (ct 3)) (.ref (ct 3)) = some true
theorem kc_one {ct : Nat → Addr} {c : Nat} (h : (tab ct).kc c = true) : c = 3 := by
  have key : ∀ n, n < 40 → kcs.getD n false = true → n = 3 := by decide
  by_cases z : c < 40
  · exact key c z h
  · have h2 : kcs.getD c false = true := h
    rw [getD_out (by show kcs.length ≤ c; have : kcs.length = 20 := rfl; omega)] at h2
    cases h2
theorem fd_inj {ct : Nat → Addr} {f g : Nat} (hg : g < 3) (e : (tab ct).fdN f = (tab ct).fdN g) : f = g := by
  have key : ∀ g, g < 3 → ∀ n, n < 40 → fdNs.getD n (PySem.Str.ofString "") = fdNs.getD g (PySem.Str.ofString "") → n = g := by decide +kernel
  by_cases z : f < 40
  · exact key g hg f z e
  · have e2 : fdNs.getD f (PySem.Str.ofString "") = fdNs.getD g (PySem.Str.ofString "") := e
    rw [getD_out (by show fdNs.length ≤ f; have : fdNs.length = 27 := rfl; omega)] at e2
    have no : ∀ g, g < 3 → PySem.Str.ofString "" ≠ fdNs.getD g (PySem.Str.ofString "") := by decide +kernel
    exact absurd e2 (no g hg)
theorem fd_me {ct : Nat → Addr} {m : Nat} (hm : m ∈ ([3, 4, 5, 6, 7, 8] : List Nat)) (f : Nat) : (tab ct).fdN f ≠ (tab ct).meN m := by
  have key : ∀ m ∈ ([3, 4, 5, 6, 7, 8] : List Nat), ∀ n, n < 40 → fdNs.getD n (PySem.Str.ofString "") ≠ meNs.getD m (PySem.Str.ofString "") := by decide +kernel
  by_cases z : f < 40
  · exact key m hm f z
  · show fdNs.getD f (PySem.Str.ofString "") ≠ _
    rw [getD_out (by show fdNs.length ≤ f; have : fdNs.length = 27 := rfl; omega)]
    have e := key m hm 39 (by decide)
    rw [getD_out (by show fdNs.length ≤ 39; have : fdNs.length = 27 := rfl; omega)] at e
    exact e
theorem all_lt {l : List Nat} {n : Nat} (h : (l.all fun x => decide (x < n)) = true) : ∀ x ∈ l, x < n := fun x hx => of_decide_eq_true (List.all_eq_true.mp h x hx)
section
variable {P : Program} {w : World} {K : PySem.W.Frag} {mg : Str → Option Value} {base0 : Heap} {ct : Nat → Addr} {sp8 : Bc.Spec} {k : Nat}
theorem fx0 (S : St K mg ct) (gs ff : List Nat) (hf : (ff.all fun x => decide (x < 3)) = true) : Fx P w K mg base0 (tab ct) (Gam sp8) k ⟨gs, [], [], [], ff⟩ where
  blt := S.blt
  glob := fun g v _ e => by
    match g, e with
    | 0, e =>
      cases e
      obtain ⟨t, h⟩ := S.g0
      exact ⟨_, .str "0123", h, ⟨t, rfl⟩, fun _ => (show (("0123" : Str)) = ⟨bytes.toArray⟩ from by decide +kernel) ▸ .str bytes (by decide)⟩
    | 1, e =>
      cases e
      obtain ⟨t, h⟩ := S.g1
      exact ⟨_, .str "abcde?", h, ⟨t, rfl⟩, fun _ => (show (("abcde?" : Str)) = ⟨base.toArray⟩ from by decide +kernel) ▸ .str base (by decide)⟩
    | 2, e =>
      cases e
      obtain ⟨t, h⟩ := S.g2
      exact ⟨_, .str "abcdefghijklmnopqrstuvwxyz", h, ⟨t, rfl⟩, fun _ => (show (("abcdefghijklmnopqrstuvwxyz" : Str)) = ⟨small.toArray⟩ from by decide +kernel) ▸ .str small (by decide)⟩
    | _ + 3, e => cases e
  fn := fun _ h => nomatch h
  new := fun _ h => nomatch h
  meth := fun _ h => nomatch h
  cls := fun c h => by cases kc_one h; exact ⟨S.cl, S.mgc⟩
  attr := fun c f h hm => by
    cases kc_one h
    have hl := all_lt hf f hm
    match f, hl with
    | 0, _ => exact S.a0
    | 1, _ => exact S.a1
    | 2, _ => exact S.a2
  dis := fun _ _ h => nomatch h
  inj := fun f g hg e => fd_inj (all_lt hf g hg) e
  kOT := fun c n h hn => by cases kc_one h; exact S.kOT n hn
  kTO := fun c n h hn => by cases kc_one h; exact S.kTO n hn
  kOO := fun c d h1 h2 => by cases kc_one h1; cases kc_one h2; exact S.kOO
theorem has_one {c g : Nat} (h : (Gam sp8).has c g = true) : c = 3 := by
  have h2 : (decide (c = 3) && _) = true := h
  exact of_decide_eq_true (Bool.and_eq_true_iff.mp h2).1
theorem ok_is_of {f : Addr} {fd : FuncData} (F : Fun K "is_of" "is_of" s_is_of f fd) (fx : Fx P w K mg base0 (tab ct) (Gam sp8) 0 a_is_of) : FnOk P w K mg base0 (L2.CX P w) 1 f fd p_is_of (spM (tab ct) K 2 sp_is_of) :=
  def_ok F sc_is_of fx rfl rfl (fun vs h Q E q _ => wp_is_of (Gam sp8) vs h Q E q) (fun cdv A outer s H E ok => bb_is_of cdv A outer s H E ok)
theorem ok_is_name {f : Addr} {fd : FuncData} (F : Fun K "is_name" "is_name" s_is_name f fd) (fx : Fx P w K mg base0 (tab ct) (Gam sp8) 1 a_is_name) : FnOk P w K mg base0 (L2.CX P w) 2 f fd p_is_name (spM (tab ct) K 1 sp_is_name) :=
  def_ok F sc_is_name fx rfl rfl (fun vs h Q E q _ => wp_is_name (Gam sp8) rfl rfl vs h Q E q) (fun cdv A outer s H E ok => bb_is_name cdv A outer s H E ok)
theorem ok_are_codes {f : Addr} {fd : FuncData} (F : Fun K "are_codes" "are_codes" s_are_codes f fd) (fx : Fx P w K mg base0 (tab ct) (Gam sp8) 1 a_are_codes) : FnOk P w K mg base0 (L2.CX P w) 2 f fd p_are_codes (spM (tab ct) K 1 sp_are) :=
  def_ok F sc_are_codes fx rfl rfl (fun vs h Q E q _ => wp_are (Gam sp8) rfl rfl rfl vs h Q E q) (fun cdv A outer s H E ok => bb_are_codes cdv A outer s H E ok)
theorem ok_Encoding_init {f : Addr} {fd : FuncData} (F : Fun K "__init__" "Encoding.__init__" s_Encoding_init f fd) (xf : XF P w K mg base0 (tab ct) (Gam sp8) xps xzs xhs) (fx : Fx P w K mg base0 (tab ct) (Gam sp8) 2 a_Encoding_init) : FnOk P w K mg base0 (L2.CX P w) 3 f fd p_Encoding_init (spM (tab ct) K 3 sp_einit) :=
  def_ok F sc_Encoding_init fx rfl rfl (fun vs h Q E q _ => wp_einit (Gam sp8) rfl rfl rfl vs h Q E q) (fun cdv A outer s H E ok => bb_Encoding_init cdv A outer s H E xf (by decide) ok)
theorem ok_Encoding_letter_at {f : Addr} {fd : FuncData} (F : Fun K "letter_at" "Encoding.letter_at" s_Encoding_letter_at f fd) (fx : Fx P w K mg base0 (tab ct) (Gam sp8) 0 a_Encoding_letter_at) : FnOk P w K mg base0 (L2.CX P w) 1 f fd p_Encoding_letter_at (spM (tab ct) K 2 sp_letter) :=
  def_ok F sc_Encoding_letter_at fx rfl rfl (fun vs h Q E q _ => wp_letter (Gam sp8) vs h Q E q) (fun cdv A outer s H E ok => bb_Encoding_letter_at cdv A outer s H E ok)
theorem ok_Encoding_is_begun {f : Addr} {fd : FuncData} (F : Fun K "is_begun" "Encoding.is_begun" s_Encoding_is_begun f fd) (fx : Fx P w K mg base0 (tab ct) (Gam sp8) 0 a_Encoding_is_begun) : FnOk P w K mg base0 (L2.CX P w) 1 f fd p_Encoding_is_begun (spM (tab ct) K 2 sp_begun) :=
  def_ok F sc_Encoding_is_begun fx rfl rfl (fun vs h Q E q _ => wp_begun (Gam sp8) vs h Q E q) (fun cdv A outer s H E ok => bb_Encoding_is_begun cdv A outer s H E ok)
theorem ok_Encoding_parsed {f : Addr} {fd : FuncData} (F : Fun K "parsed" "Encoding.parsed" s_Encoding_parsed f fd) (fx : Fx P w K mg base0 (tab ct) (Gam sp8) 1 a_Encoding_parsed) : FnOk P w K mg base0 (L2.CX P w) 2 f fd p_Encoding_parsed (spM (tab ct) K 3 sp_parsed) :=
  def_ok F sc_Encoding_parsed fx rfl rfl (fun vs h Q E q _ => wp_parsed (Gam sp8) rfl rfl rfl rfl vs h Q E q) (fun cdv A outer s H E ok => bb_Encoding_parsed cdv A outer s H E ok)
theorem ok_Encoding_as_text {f : Addr} {fd : FuncData} (F : Fun K "as_text" "Encoding.as_text" s_Encoding_as_text f fd) (xf : XF P w K mg base0 (tab ct) (Gam sp8) xps xzs xhs) (fx : Fx P w K mg base0 (tab ct) (Gam sp8) 2 a_Encoding_as_text) : FnOk P w K mg base0 (L2.CX P w) 3 f fd p_Encoding_as_text (spM (tab ct) K 3 sp_astext) :=
  def_ok F sc_Encoding_as_text fx rfl rfl (fun vs h Q E q _ => wp_astext (Gam sp8) rfl rfl vs h Q E q) (fun cdv A outer s H E ok => bb_Encoding_as_text cdv A outer s H E xf (by decide) ok)
theorem ok_Encoding_code_of {f : Addr} {fd : FuncData} (F : Fun K "code_of" "Encoding.code_of" s_Encoding_code_of f fd) (fx : Fx P w K mg base0 (tab ct) (Gam sp8) 0 a_Encoding_code_of) : FnOk P w K mg base0 (L2.CX P w) 1 f fd p_Encoding_code_of (spM (tab ct) K 3 sp_code) :=
  def_ok F sc_Encoding_code_of fx rfl rfl (fun vs h Q E q _ => wp_code (Gam sp8) vs h Q E q) (fun cdv A outer s H E ok => bb_Encoding_code_of cdv A outer s H E ok)
theorem ok_Encoding_as_bytes {f : Addr} {fd : FuncData} (F : Fun K "as_bytes" "Encoding.as_bytes" s_Encoding_as_bytes f fd) (xf : XF P w K mg base0 (tab ct) (Gam sp8) xps xzs xhs) (fx : Fx P w K mg base0 (tab ct) (Gam sp8) 2 a_Encoding_as_bytes) : FnOk P w K mg base0 (L2.CX P w) 3 f fd p_Encoding_as_bytes (spM (tab ct) K 3 sp_asbytes) :=
  def_ok F sc_Encoding_as_bytes fx rfl rfl (fun vs h Q E q _ => wp_asbytes (Gam sp8) rfl rfl vs h Q E q) (fun cdv A outer s H E ok => bb_Encoding_as_bytes cdv A outer s H E xf (by decide) ok)
theorem ok__law_draw {f : Addr} {fd : FuncData} (F : Fun K "_law_draw" "_law_draw" s__law_draw f fd) (fx : Fx P w K mg base0 (tab ct) (Gam sp8) 0 a__law_draw) : FnOk P w K mg base0 (L2.CX P w) 1 f fd p__law_draw (spM (tab ct) K 2 sp_draw) :=
  def_ok F sc__law_draw fx rfl rfl (fun vs h Q E q _ => wp_draw (Gam sp8) vs h Q E q) (fun cdv A outer s H E ok => bb__law_draw cdv A outer s H E ok)
theorem ok__law_codes {f : Addr} {fd : FuncData} (F : Fun K "_law_codes" "_law_codes" s__law_codes f fd) (fx : Fx P w K mg base0 (tab ct) (Gam sp8) 1 a__law_codes) : FnOk P w K mg base0 (L2.CX P w) 2 f fd p__law_codes (spM (tab ct) K 1 sp_codes) :=
  def_ok F sc__law_codes fx rfl rfl (fun vs h Q E q _ => wp_codes (Gam sp8) rfl vs h Q E q) (fun cdv A outer s H E ok => bb__law_codes cdv A outer s H E ok)
theorem ok__law_text {f : Addr} {fd : FuncData} (F : Fun K "_law_text" "_law_text" s__law_text f fd) (fx : Fx P w K mg base0 (tab ct) (Gam sp8) 0 a__law_text) : FnOk P w K mg base0 (L2.CX P w) 1 f fd p__law_text (spM (tab ct) K 3 sp_text) :=
  def_ok F sc__law_text fx rfl rfl (fun vs h Q E q _ => wp_text (Gam sp8) vs h Q E q) (fun cdv A outer s H E ok => bb__law_text cdv A outer s H E ok)
theorem ok__law_bytes {f : Addr} {fd : FuncData} (F : Fun K "_law_bytes" "_law_bytes" s__law_bytes f fd) (fx : Fx P w K mg base0 (tab ct) (Gam sp8) 0 a__law_bytes) : FnOk P w K mg base0 (L2.CX P w) 1 f fd p__law_bytes (spM (tab ct) K 3 sp_bytes) :=
  def_ok F sc__law_bytes fx rfl rfl (fun vs h Q E q _ => wp_bytes (Gam sp8) vs h Q E q) (fun cdv A outer s H E ok => bb__law_bytes cdv A outer s H E ok)
theorem ok__law_told {f : Addr} {fd : FuncData} (F : Fun K "_law_told" "_law_told" s__law_told f fd) (xf : XF P w K mg base0 (tab ct) (Gam sp8) xps xzs xhs) (fx : Fx P w K mg base0 (tab ct) (Gam sp8) 3 a__law_told) : FnOk P w K mg base0 (L2.CX P w) 4 f fd p__law_told (spM (tab ct) K 4 sp_told) :=
  def_ok F sc__law_told fx rfl rfl (fun vs h Q E q _ => wp_told (Gam sp8) rfl rfl rfl rfl rfl rfl rfl vs h Q E q) (fun cdv A outer s H E ok => bb__law_told cdv A outer s H E xf (by decide) ok)
end
end Bk
set_option Elab.async false
set_option linter.all false
set_option maxRecDepth 100000
set_option maxHeartbeats 4000000
namespace Bk
open PySem L2 PyProof.Rows Bs
def s_xCannotDecode : Stmt := inClass (PySem.Challenge.pw_bytecuts_k02_whole_coding.main.body.getD 4 (.Pass ⟨0, 0, 0, 0⟩)) 0
def s_xCannotEncode : Stmt := inClass (PySem.Challenge.pw_bytecuts_k02_whole_coding.main.body.getD 5 (.Pass ⟨0, 0, 0, 0⟩)) 0
theorem kit_self {K : PySem.W.Frag} {C : Addr} : PySem.W.kitOne K (.ref C) (.ref C) = some true := by unfold PySem.W.kitOne; rw [if_pos (by simp)]
theorem kit_ot {K : PySem.W.Frag} {C : Addr} {n : String} (h0 : (Value.ref C == Value.type n) = false) (h1 : PySem.W.kitMeta n = true) (h2 : PySem.W.subIn K (.ref C) (.type n) = some false) : PySem.W.kitOne K (.ref C) (.type n) = some false := by
  unfold PySem.W.kitOne
  rw [h0, if_neg (by decide)]
  show (if PySem.W.kitMeta n = true then _ else _) = _
  rw [if_pos h1]
  exact h2
theorem cls_by {K : PySem.W.Frag} {C : Addr} {cls : Value} {r : Option Bool} (h1 : PySem.W.isClsIn K C = true) (h2 : PySem.W.typeIn K (.ref C) = some (.type "type")) (h3 : PySem.W.subIn K cls (.ref C) = r) : PySem.W.kitCls K cls (.ref C) = r := by
  have e : ((PySem.W.clsIn K C).isSome && PySem.W.typeIn K (.ref C) == some (.type "type")) = true := by
    have h1' : (PySem.W.clsIn K C).isSome = true := h1
    rw [h1', h2] <;> rfl
  show (if ((PySem.W.clsIn K C).isSome && PySem.W.typeIn K (.ref C) == some (.type "type")) = true then _ else _) = _
  rw [if_pos e]
  exact h3
theorem kit_to {K : PySem.W.Frag} {C : Addr} {n : String} (h0 : (Value.type n == Value.ref C) = false) (h1 : PySem.W.isClsIn K C = true) (h2 : PySem.W.typeIn K (.ref C) = some (.type "type")) (h3 : PySem.W.subIn K (.type n) (.ref C) = some false) : PySem.W.kitOne K (.type n) (.ref C) = some false := by
  unfold PySem.W.kitOne
  rw [h0, if_neg (by decide)]
  exact cls_by h1 h2 h3
theorem exm_by {K : PySem.W.Frag} {C : Addr} {cls : Value} {r : Bool} (h0 : PySem.W.subIn K (.ref C) (.type "BaseException") = some true) (h1 : PySem.W.isClsIn K C = true) (h2 : PySem.W.typeIn K (.ref C) = some (.type "type")) (h3 : PySem.W.subIn K cls (.ref C) = some r) : PySem.W.exmOne K cls (.ref C) = some r := by
  unfold PySem.W.exmOne
  rw [if_pos (by rw [h0] <;> rfl)]
  exact cls_by h1 h2 h3
theorem len_is_of : ∀ vs h Q E, sp_is_of vs h Q E → vs.length = 2 := by
  intro vs h Q E q
  obtain ⟨_, _, e, _⟩ := q
  rw [e]
  rfl
theorem len_is_name : ∀ vs h Q E, sp_is_name vs h Q E → vs.length = 1 := by
  intro vs h Q E q
  obtain ⟨_, e, _⟩ := q
  rw [e]
  rfl
theorem len_are_codes : ∀ vs h Q E, sp_are vs h Q E → vs.length = 1 := by
  intro vs h Q E q
  obtain ⟨_, _, e, _⟩ := q
  rw [e]
  rfl
theorem len_Encoding_init : ∀ vs h Q E, sp_einit vs h Q E → vs.length = 3 := by
  intro vs h Q E q
  obtain ⟨_, _, _, _, e, _⟩ := q
  rw [e]
  rfl
theorem len_Encoding_letter_at : ∀ vs h Q E, sp_letter vs h Q E → vs.length = 2 := by
  intro vs h Q E q
  obtain ⟨_, _, _, _, e, _⟩ := q
  rw [e]
  rfl
theorem len_Encoding_is_begun : ∀ vs h Q E, sp_begun vs h Q E → vs.length = 2 := by
  intro vs h Q E q
  obtain ⟨_, _, _, _, e, _⟩ := q
  rw [e]
  rfl
theorem len_Encoding_parsed : ∀ vs h Q E, sp_parsed vs h Q E → vs.length = 3 := by
  intro vs h Q E q
  obtain ⟨_, _, _, _, _, e, _⟩ := q
  rw [e]
  rfl
theorem len_Encoding_as_text : ∀ vs h Q E, sp_astext vs h Q E → vs.length = 3 := by
  intro vs h Q E q
  obtain ⟨_, _, _, _, _, e, _⟩ := q
  rw [e]
  rfl
theorem len_Encoding_code_of : ∀ vs h Q E, sp_code vs h Q E → vs.length = 3 := by
  intro vs h Q E q
  obtain ⟨_, _, _, _, _, e, _⟩ := q
  rw [e]
  rfl
theorem len_Encoding_as_bytes : ∀ vs h Q E, sp_asbytes vs h Q E → vs.length = 3 := by
  intro vs h Q E q
  obtain ⟨_, _, _, _, _, e, _⟩ := q
  rw [e]
  rfl
theorem len__law_draw : ∀ vs h Q E, sp_draw vs h Q E → vs.length = 2 := by
  intro vs h Q E q
  obtain ⟨_, _, e, _⟩ := q
  rw [e]
  rfl
theorem len__law_codes : ∀ vs h Q E, sp_codes vs h Q E → vs.length = 1 := by
  intro vs h Q E q
  obtain ⟨_, e, _⟩ := q
  rw [e]
  rfl
theorem len__law_text : ∀ vs h Q E, sp_text vs h Q E → vs.length = 3 := by
  intro vs h Q E q
  obtain ⟨_, _, _, _, e, _⟩ := q
  rw [e]
  rfl
theorem len__law_bytes : ∀ vs h Q E, sp_bytes vs h Q E → vs.length = 3 := by
  intro vs h Q E q
  obtain ⟨_, _, _, _, e, _⟩ := q
  rw [e]
  rfl
theorem len__law_told : ∀ vs h Q E, sp_told vs h Q E → vs.length = 4 := by
  intro vs h Q E q
  obtain ⟨_, _, _, _, _, _, e, _⟩ := q
  rw [e]
  rfl
theorem len_like0 : ∀ vs h Q E, sp_like0 vs h Q E → vs.length = 2 := by
  intro vs h Q E q
  obtain ⟨_, e, _⟩ := q
  rw [e]
  rfl
theorem len_like1 : ∀ vs h Q E, sp_like1 vs h Q E → vs.length = 2 := by
  intro vs h Q E q
  obtain ⟨_, e, _⟩ := q
  rw [e]
  rfl
theorem never_ok {P : Program} {w : World} {K : PySem.W.Frag} {mg : Str → Option Value} {base0 : Heap} {T : Tab} {f : Addr} {fd : FuncData} {ps : List Str} {n : Nat} : FnOk P w K mg base0 (L2.CX P w) 0 f fd ps (spM T K n never) :=
  ⟨fun _ _ _ _ h => by obtain ⟨_, _, _, _, _, _, _, z, _⟩ := h; exact z.elim, fun _ _ _ _ _ _ _ _ _ _ _ _ _ h => by obtain ⟨_, _, _, _, _, _, _, z, _⟩ := h; exact z.elim⟩
theorem br_eq : Bc.Stms.tl b_law = br_law := rfl
theorem all_mk {l : PySem.W.OpenLaw} {w : World} {K : PySem.W.Frag} {h : Heap} {mg : Str → Option Value} {fa : Addr} (X : K.In h) (G : h.Ns mainGlobals mg) (hfa : mg "law" = some (.ref fa))
    {f0 : Addr} {oc0 kV0 dc0 pm0 cd0 ct0 : Value} {od0 an0 : Option Addr} {sl0 : Array (Option Value)}
    {f1 : Addr} {oc1 kV1 dc1 pm1 cd1 ct1 : Value} {od1 an1 : Option Addr} {sl1 : Array (Option Value)}
    {f2 : Addr} {oc2 kV2 dc2 pm2 cd2 ct2 : Value} {od2 an2 : Option Addr} {sl2 : Array (Option Value)}
    {f3 : Addr} {oc3 kV3 dc3 pm3 cd3 ct3 : Value} {od3 an3 : Option Addr} {sl3 : Array (Option Value)}
    {f4 : Addr} {oc4 kV4 dc4 pm4 cd4 ct4 : Value} {od4 an4 : Option Addr} {sl4 : Array (Option Value)}
    {f5 : Addr} {oc5 kV5 dc5 pm5 cd5 ct5 : Value} {od5 an5 : Option Addr} {sl5 : Array (Option Value)}
    {f6 : Addr} {oc6 kV6 dc6 pm6 cd6 ct6 : Value} {od6 an6 : Option Addr} {sl6 : Array (Option Value)}
    {f7 : Addr} {oc7 kV7 dc7 pm7 cd7 ct7 : Value} {od7 an7 : Option Addr} {sl7 : Array (Option Value)}
    {f8 : Addr} {oc8 kV8 dc8 pm8 cd8 ct8 : Value} {od8 an8 : Option Addr} {sl8 : Array (Option Value)}
    {f9 : Addr} {oc9 kV9 dc9 pm9 cd9 ct9 : Value} {od9 an9 : Option Addr} {sl9 : Array (Option Value)}
    {f10 : Addr} {oc10 kV10 dc10 pm10 cd10 ct10 : Value} {od10 an10 : Option Addr} {sl10 : Array (Option Value)}
    {f11 : Addr} {oc11 kV11 dc11 pm11 cd11 ct11 : Value} {od11 an11 : Option Addr} {sl11 : Array (Option Value)}
    {f12 : Addr} {oc12 kV12 dc12 pm12 cd12 ct12 : Value} {od12 an12 : Option Addr} {sl12 : Array (Option Value)}
    {f13 : Addr} {oc13 kV13 dc13 pm13 cd13 ct13 : Value} {od13 an13 : Option Addr} {sl13 : Array (Option Value)}
    {f14 : Addr} {oc14 kV14 dc14 pm14 cd14 ct14 : Value} {od14 an14 : Option Addr} {sl14 : Array (Option Value)}
    {f15 : Addr} {oc15 kV15 dc15 pm15 cd15 ct15 : Value} {od15 an15 : Option Addr} {sl15 : Array (Option Value)}
    {f16 : Addr} {oc16 kV16 dc16 pm16 cd16 ct16 : Value} {od16 an16 : Option Addr} {sl16 : Array (Option Value)}
    {f17 : Addr} {oc17 kV17 dc17 pm17 cd17 ct17 : Value} {od17 an17 : Option Addr} {sl17 : Array (Option Value)}
    {C3 : Addr}
    {C1 : Addr}
    {C2 : Addr}
    {C4 : Addr}
    {C5 : Addr}
    {t0 : Tok}
    {t1 : Tok}
    {t2 : Tok}
    {fx4 : Addr} {ocx4 kVx4 dcx4 pmx4 cdx4 ctx4 : Value} {odx4 anx4 : Option Addr} {slx4 : Array (Option Value)}
    {nmx4 qx4 : Str} {Nx4 : Addr} {bsx4 bmx4 : List Value} {snx4 : List Str} {subx4 : List Value} {abx4 : Bool} {colx4 : Option Bool} {ddx4 : Option Addr} {k0x4 k1x4 k2x4 k3x4 k5x4 : Option Value}
    {fx5 : Addr} {ocx5 kVx5 dcx5 pmx5 cdx5 ctx5 : Value} {odx5 anx5 : Option Addr} {slx5 : Array (Option Value)}
    {nmx5 qx5 : Str} {Nx5 : Addr} {bsx5 bmx5 : List Value} {snx5 : List Str} {subx5 : List Value} {abx5 : Bool} {colx5 : Option Bool} {ddx5 : Option Addr} {k0x5 k1x5 k2x5 k3x5 k5x5 : Option Value}
    (a0 : PySem.W.nsIn K mainGlobals "is_of" = some (some (.ref f0)))
    (l0 : K.lookup f0 = some ⟨oc0, od0, .func (PySem.W.fnOf "is_of" "is_of" (defArgs s_is_of) (defBody s_is_of) (defScope s_is_of) .none kV0 dc0 pm0 an0 cd0 ct0), sl0⟩)
    (c0 : PySem.W.codeIn K cd0 "is_of" = true)
    (k0 : PySem.W.keepIn K (.ref f0) = true)
    (a1 : PySem.W.nsIn K mainGlobals "is_name" = some (some (.ref f1)))
    (l1 : K.lookup f1 = some ⟨oc1, od1, .func (PySem.W.fnOf "is_name" "is_name" (defArgs s_is_name) (defBody s_is_name) (defScope s_is_name) .none kV1 dc1 pm1 an1 cd1 ct1), sl1⟩)
    (c1 : PySem.W.codeIn K cd1 "is_name" = true)
    (k1 : PySem.W.keepIn K (.ref f1) = true)
    (a2 : PySem.W.nsIn K mainGlobals "are_codes" = some (some (.ref f2)))
    (l2 : K.lookup f2 = some ⟨oc2, od2, .func (PySem.W.fnOf "are_codes" "are_codes" (defArgs s_are_codes) (defBody s_are_codes) (defScope s_are_codes) .none kV2 dc2 pm2 an2 cd2 ct2), sl2⟩)
    (c2 : PySem.W.codeIn K cd2 "are_codes" = true)
    (k2 : PySem.W.keepIn K (.ref f2) = true)
    (a3 : PySem.W.findIn K (.ref C3) "__init__" = some (some (.ref f3)))
    (i3 : PySem.W.isFn K (.ref f3) = true)
    (l3 : K.lookup f3 = some ⟨oc3, od3, .func (PySem.W.fnOf "__init__" "Encoding.__init__" (defArgs s_Encoding_init) (defBody s_Encoding_init) (defScope s_Encoding_init) .none kV3 dc3 pm3 an3 cd3 ct3), sl3⟩)
    (c3 : PySem.W.codeIn K cd3 "Encoding.__init__" = true)
    (k3 : PySem.W.keepIn K (.ref f3) = true)
    (a4 : PySem.W.findIn K (.ref C3) "letter_at" = some (some (.ref f4)))
    (i4 : PySem.W.isFn K (.ref f4) = true)
    (l4 : K.lookup f4 = some ⟨oc4, od4, .func (PySem.W.fnOf "letter_at" "Encoding.letter_at" (defArgs s_Encoding_letter_at) (defBody s_Encoding_letter_at) (defScope s_Encoding_letter_at) .none kV4 dc4 pm4 an4 cd4 ct4), sl4⟩)
    (c4 : PySem.W.codeIn K cd4 "Encoding.letter_at" = true)
    (k4 : PySem.W.keepIn K (.ref f4) = true)
    (a5 : PySem.W.findIn K (.ref C3) "is_begun" = some (some (.ref f5)))
    (i5 : PySem.W.isFn K (.ref f5) = true)
    (l5 : K.lookup f5 = some ⟨oc5, od5, .func (PySem.W.fnOf "is_begun" "Encoding.is_begun" (defArgs s_Encoding_is_begun) (defBody s_Encoding_is_begun) (defScope s_Encoding_is_begun) .none kV5 dc5 pm5 an5 cd5 ct5), sl5⟩)
    (c5 : PySem.W.codeIn K cd5 "Encoding.is_begun" = true)
    (k5 : PySem.W.keepIn K (.ref f5) = true)
    (a6 : PySem.W.findIn K (.ref C3) "parsed" = some (some (.ref f6)))
    (i6 : PySem.W.isFn K (.ref f6) = true)
    (l6 : K.lookup f6 = some ⟨oc6, od6, .func (PySem.W.fnOf "parsed" "Encoding.parsed" (defArgs s_Encoding_parsed) (defBody s_Encoding_parsed) (defScope s_Encoding_parsed) .none kV6 dc6 pm6 an6 cd6 ct6), sl6⟩)
    (c6 : PySem.W.codeIn K cd6 "Encoding.parsed" = true)
    (k6 : PySem.W.keepIn K (.ref f6) = true)
    (a7 : PySem.W.findIn K (.ref C3) "as_text" = some (some (.ref f7)))
    (i7 : PySem.W.isFn K (.ref f7) = true)
    (l7 : K.lookup f7 = some ⟨oc7, od7, .func (PySem.W.fnOf "as_text" "Encoding.as_text" (defArgs s_Encoding_as_text) (defBody s_Encoding_as_text) (defScope s_Encoding_as_text) .none kV7 dc7 pm7 an7 cd7 ct7), sl7⟩)
    (c7 : PySem.W.codeIn K cd7 "Encoding.as_text" = true)
    (k7 : PySem.W.keepIn K (.ref f7) = true)
    (a8 : PySem.W.findIn K (.ref C3) "code_of" = some (some (.ref f8)))
    (i8 : PySem.W.isFn K (.ref f8) = true)
    (l8 : K.lookup f8 = some ⟨oc8, od8, .func (PySem.W.fnOf "code_of" "Encoding.code_of" (defArgs s_Encoding_code_of) (defBody s_Encoding_code_of) (defScope s_Encoding_code_of) .none kV8 dc8 pm8 an8 cd8 ct8), sl8⟩)
    (c8 : PySem.W.codeIn K cd8 "Encoding.code_of" = true)
    (k8 : PySem.W.keepIn K (.ref f8) = true)
    (a9 : PySem.W.findIn K (.ref C3) "as_bytes" = some (some (.ref f9)))
    (i9 : PySem.W.isFn K (.ref f9) = true)
    (l9 : K.lookup f9 = some ⟨oc9, od9, .func (PySem.W.fnOf "as_bytes" "Encoding.as_bytes" (defArgs s_Encoding_as_bytes) (defBody s_Encoding_as_bytes) (defScope s_Encoding_as_bytes) .none kV9 dc9 pm9 an9 cd9 ct9), sl9⟩)
    (c9 : PySem.W.codeIn K cd9 "Encoding.as_bytes" = true)
    (k9 : PySem.W.keepIn K (.ref f9) = true)
    (a10 : PySem.W.nsIn K mainGlobals "_law_draw" = some (some (.ref f10)))
    (l10 : K.lookup f10 = some ⟨oc10, od10, .func (PySem.W.fnOf "_law_draw" "_law_draw" (defArgs s__law_draw) (defBody s__law_draw) (defScope s__law_draw) .none kV10 dc10 pm10 an10 cd10 ct10), sl10⟩)
    (c10 : PySem.W.codeIn K cd10 "_law_draw" = true)
    (k10 : PySem.W.keepIn K (.ref f10) = true)
    (a11 : PySem.W.nsIn K mainGlobals "_law_codes" = some (some (.ref f11)))
    (l11 : K.lookup f11 = some ⟨oc11, od11, .func (PySem.W.fnOf "_law_codes" "_law_codes" (defArgs s__law_codes) (defBody s__law_codes) (defScope s__law_codes) .none kV11 dc11 pm11 an11 cd11 ct11), sl11⟩)
    (c11 : PySem.W.codeIn K cd11 "_law_codes" = true)
    (k11 : PySem.W.keepIn K (.ref f11) = true)
    (a12 : PySem.W.nsIn K mainGlobals "_law_text" = some (some (.ref f12)))
    (l12 : K.lookup f12 = some ⟨oc12, od12, .func (PySem.W.fnOf "_law_text" "_law_text" (defArgs s__law_text) (defBody s__law_text) (defScope s__law_text) .none kV12 dc12 pm12 an12 cd12 ct12), sl12⟩)
    (c12 : PySem.W.codeIn K cd12 "_law_text" = true)
    (k12 : PySem.W.keepIn K (.ref f12) = true)
    (a13 : PySem.W.nsIn K mainGlobals "_law_bytes" = some (some (.ref f13)))
    (l13 : K.lookup f13 = some ⟨oc13, od13, .func (PySem.W.fnOf "_law_bytes" "_law_bytes" (defArgs s__law_bytes) (defBody s__law_bytes) (defScope s__law_bytes) .none kV13 dc13 pm13 an13 cd13 ct13), sl13⟩)
    (c13 : PySem.W.codeIn K cd13 "_law_bytes" = true)
    (k13 : PySem.W.keepIn K (.ref f13) = true)
    (a14 : PySem.W.nsIn K mainGlobals "_law_told" = some (some (.ref f14)))
    (l14 : K.lookup f14 = some ⟨oc14, od14, .func (PySem.W.fnOf "_law_told" "_law_told" (defArgs s__law_told) (defBody s__law_told) (defScope s__law_told) .none kV14 dc14 pm14 an14 cd14 ct14), sl14⟩)
    (c14 : PySem.W.codeIn K cd14 "_law_told" = true)
    (k14 : PySem.W.keepIn K (.ref f14) = true)
    (a15 : PySem.W.nsIn K mainGlobals "_law_begin" = some (some (.ref f15)))
    (l15 : K.lookup f15 = some ⟨oc15, od15, .func (PySem.W.fnOf "_law_begin" "_law_begin" (defArgs s__law_begin) (defBody s__law_begin) (defScope s__law_begin) .none kV15 dc15 pm15 an15 cd15 ct15), sl15⟩)
    (c15 : PySem.W.codeIn K cd15 "_law_begin" = true)
    (k15 : PySem.W.keepIn K (.ref f15) = true)
    (a16 : PySem.W.nsIn K mainGlobals "_law_like" = some (some (.ref f16)))
    (l16 : K.lookup f16 = some ⟨oc16, od16, .func (PySem.W.fnOf "_law_like" "_law_like" (defArgs s__law_like) (defBody s__law_like) (defScope s__law_like) .none kV16 dc16 pm16 an16 cd16 ct16), sl16⟩)
    (c16 : PySem.W.codeIn K cd16 "_law_like" = true)
    (k16 : PySem.W.keepIn K (.ref f16) = true)
    (a17 : PySem.W.nsIn K mainGlobals "law" = some (some (.ref f17)))
    (l17 : K.lookup f17 = some ⟨oc17, od17, .func (PySem.W.fnOf "law" "law" (defArgs s_law) (defBody s_law) (defScope s_law) .none kV17 dc17 pm17 an17 cd17 ct17), sl17⟩)
    (c17 : PySem.W.codeIn K cd17 "law" = true)
    (k17 : PySem.W.keepIn K (.ref f17) = true)
    (aC3 : PySem.W.nsIn K mainGlobals "Encoding" = some (some (.ref C3)))
    (kC3 : PySem.W.keepIn K (.ref C3) = true)
    (aC1 : PySem.W.nsIn K mainGlobals "BadName" = some (some (.ref C1)))
    (kC1 : PySem.W.keepIn K (.ref C1) = true)
    (aC2 : PySem.W.nsIn K mainGlobals "BadCodes" = some (some (.ref C2)))
    (kC2 : PySem.W.keepIn K (.ref C2) = true)
    (aC4 : PySem.W.nsIn K mainGlobals "CannotDecode" = some (some (.ref C4)))
    (kC4 : PySem.W.keepIn K (.ref C4) = true)
    (aC5 : PySem.W.nsIn K mainGlobals "CannotEncode" = some (some (.ref C5)))
    (kC5 : PySem.W.keepIn K (.ref C5) = true)
    (pg : PySem.W.plainGet K C3 Str.empty = true)
    (hd : PySem.W.hasDictIn K C3 = true)
    (po : PySem.W.plainOver K C3 = true)
    (sa : PySem.W.findIn K (.ref C3) "__setattr__" = some (some (.builtin "object.__setattr__")))
    (mk : PySem.W.makesIn K C3 = true)
    (ha : PySem.W.findIn K (.ref C3) "__class__" = some (some (.builtin "object.__class__")))
    (hm : PySem.W.mroIn K C3 (.type "object") = some true)
    (n0 : PySem.W.findIn K (.ref C3) "name" = some none)
    (n1 : PySem.W.findIn K (.ref C3) "table" = some none)
    (n2 : PySem.W.findIn K (.ref C3) "back" = some none)
    (ic : PySem.W.isClsIn K C3 = true)
    (tc : PySem.W.typeIn K (.ref C3) = some (.type "type"))
    (hn : PySem.W.specialIn K (.builtin "object.__class__") "__get__" = some (some (.builtin "getset_descriptor.__get__")))
    (htk : PySem.W.takesIn K (.builtin "object.__class__") = some true)
    (ot0 : PySem.W.subIn K (.ref C3) (.type "NoneType") = some false)
    (ot1 : PySem.W.subIn K (.ref C3) (.type "bool") = some false)
    (ot2 : PySem.W.subIn K (.ref C3) (.type "int") = some false)
    (ot3 : PySem.W.subIn K (.ref C3) (.type "str") = some false)
    (ot4 : PySem.W.subIn K (.ref C3) (.type "list") = some false)
    (ot5 : PySem.W.subIn K (.ref C3) (.type "tuple") = some false)
    (ot6 : PySem.W.subIn K (.ref C3) (.type "dict") = some false)
    (z0 : PySem.W.nsIn K mainGlobals "len" = some none)
    (z1 : PySem.W.nsIn K mainGlobals "list" = some none)
    (z2 : PySem.W.nsIn K mainGlobals "tuple" = some none)
    (z3 : PySem.W.nsIn K mainGlobals "dict" = some none)
    (z4 : PySem.W.nsIn K mainGlobals "int" = some none)
    (z5 : PySem.W.nsIn K mainGlobals "str" = some none)
    (z6 : PySem.W.nsIn K mainGlobals "bool" = some none)
    (z7 : PySem.W.nsIn K mainGlobals "min" = some none)
    (z8 : PySem.W.nsIn K mainGlobals "all" = some none)
    (z9 : PySem.W.nsIn K mainGlobals "any" = some none)
    (z10 : PySem.W.nsIn K mainGlobals "range" = some none)
    (z11 : PySem.W.nsIn K mainGlobals "enumerate" = some none)
    (z12 : PySem.W.nsIn K mainGlobals "isinstance" = some none)
    (z13 : PySem.W.nsIn K mainGlobals "sorted" = some none)
    (z14 : PySem.W.nsIn K mainGlobals "set" = some none)
    (ug0 : PySem.W.nsIn K mainGlobals "BYTES" = some (some (.str "0123" t0)))
    (ug1 : PySem.W.nsIn K mainGlobals "LETTERS" = some (some (.str "abcde?" t1)))
    (ug2 : PySem.W.nsIn K mainGlobals "SMALL" = some (some (.str "abcdefghijklmnopqrstuvwxyz" t2)))
    (ax4 : PySem.W.findIn K (.ref C4) "__init__" = some (some (.ref fx4)))
    (ix4 : PySem.W.typeIn K (.ref fx4) = some (.type "function"))
    (lx4 : K.lookup fx4 = some ⟨ocx4, odx4, .func (PySem.W.fnOf "__init__" "CannotDecode.__init__" (defArgs s_xCannotDecode) (defBody s_xCannotDecode) (defScope s_xCannotDecode) .none kVx4 dcx4 pmx4 anx4 cdx4 ctx4), slx4⟩)
    (cx4 : PySem.W.codeIn K cdx4 "CannotDecode.__init__" = true)
    (kx4 : PySem.W.keepIn K (.ref fx4) = true)
    (xo4 : PySem.W.subIn K (.ref C4) (.type "BaseException") = some true)
    (xt4 : PySem.W.typeIn K (.ref C4) = some (.type "type"))
    (xs4 : PySem.W.findIn K (.ref C4) "__setattr__" = some (some (.builtin "object.__setattr__")))
    (xl4 : K.lookup C4 = some (excClassObj nmx4 qx4 C4 Nx4 bsx4 bmx4 true snx4 subx4 abx4 colx4 ddx4 k0x4 k1x4 k2x4 k3x4 k5x4 "ValueError.__new__"))
    (xm4 : PySem.HandSPX.refsVE bmx4 = true)
    (xn4 : PySem.W.findIn K (.ref C4) "place" = some none)
    (xg4 : PySem.W.findIn K (.ref C4) "__getattribute__" = some (some (.builtin "BaseException.__getattribute__")))
    (xh4 : PySem.W.findIn K (.ref C4) "__getattr__" = some none)
    (xd4 : PySem.W.hasDictIn K C4 = true)
    (ax5 : PySem.W.findIn K (.ref C5) "__init__" = some (some (.ref fx5)))
    (ix5 : PySem.W.typeIn K (.ref fx5) = some (.type "function"))
    (lx5 : K.lookup fx5 = some ⟨ocx5, odx5, .func (PySem.W.fnOf "__init__" "CannotEncode.__init__" (defArgs s_xCannotEncode) (defBody s_xCannotEncode) (defScope s_xCannotEncode) .none kVx5 dcx5 pmx5 anx5 cdx5 ctx5), slx5⟩)
    (cx5 : PySem.W.codeIn K cdx5 "CannotEncode.__init__" = true)
    (kx5 : PySem.W.keepIn K (.ref fx5) = true)
    (xo5 : PySem.W.subIn K (.ref C5) (.type "BaseException") = some true)
    (xt5 : PySem.W.typeIn K (.ref C5) = some (.type "type"))
    (xs5 : PySem.W.findIn K (.ref C5) "__setattr__" = some (some (.builtin "object.__setattr__")))
    (xl5 : K.lookup C5 = some (excClassObj nmx5 qx5 C5 Nx5 bsx5 bmx5 true snx5 subx5 abx5 colx5 ddx5 k0x5 k1x5 k2x5 k3x5 k5x5 "ValueError.__new__"))
    (xm5 : PySem.HandSPX.refsVE bmx5 = true)
    (xn5 : PySem.W.findIn K (.ref C5) "place" = some none)
    (xg5 : PySem.W.findIn K (.ref C5) "__getattribute__" = some (some (.builtin "BaseException.__getattribute__")))
    (xh5 : PySem.W.findIn K (.ref C5) "__getattr__" = some none)
    (xd5 : PySem.W.hasDictIn K C5 = true)
    (xq1 : PySem.W.excIn K C1 [.type "ValueError", .type "Exception", .type "BaseException", .type "object"] "ValueError.__new__" = true)
    (xo1 : PySem.W.subIn K (.ref C1) (.type "BaseException") = some true)
    (xt1 : PySem.W.typeIn K (.ref C1) = some (.type "type"))
    (xq2 : PySem.W.excIn K C2 [.type "ValueError", .type "Exception", .type "BaseException", .type "object"] "ValueError.__new__" = true)
    (xo2 : PySem.W.subIn K (.ref C2) (.type "BaseException") = some true)
    (xt2 : PySem.W.typeIn K (.ref C2) = some (.type "type"))
    (e1_4 : PySem.W.subIn K (.ref C1) (.ref C4) = some false)
    (e1_5 : PySem.W.subIn K (.ref C1) (.ref C5) = some false)
    (e2_4 : PySem.W.subIn K (.ref C2) (.ref C4) = some false)
    (e2_5 : PySem.W.subIn K (.ref C2) (.ref C5) = some false)
    (e4_4 : PySem.W.subIn K (.ref C4) (.ref C4) = some true)
    (e4_5 : PySem.W.subIn K (.ref C4) (.ref C5) = some false)
    (e5_4 : PySem.W.subIn K (.ref C5) (.ref C4) = some false)
    (e5_5 : PySem.W.subIn K (.ref C5) (.ref C5) = some true)
    (xc4 : PySem.W.isClsIn K C4 = true)
    (xc5 : PySem.W.isClsIn K C5 = true) :
    ∃ fd : FuncData, (∀ (s : Shared) (v : Value), BindsTo s fd ⟨[v], []⟩ [("_law_script", v)]) ∧ ∀ base0 : Heap, K.In base0 → base0.Ns mainGlobals mg → FnOk l.prog w K mg base0 (L2.CX l.prog w) 5 fa fd ["_law_script"] (spLawV K) := by
  have e := hfa.symm.trans (PySem.W.mg_of X G a17)
  cases e
  have F_is_of := fun_mk (st := s_is_of) l0 c0 k0
  have B_is_of := F_is_of.binds (ps := p_is_of) fun _ _ _ _ _ _ us hl => match us, hl with | [_, _], _ => rfl
  have F_is_name := fun_mk (st := s_is_name) l1 c1 k1
  have B_is_name := F_is_name.binds (ps := p_is_name) fun _ _ _ _ _ _ us hl => match us, hl with | [_], _ => rfl
  have F_are_codes := fun_mk (st := s_are_codes) l2 c2 k2
  have B_are_codes := F_are_codes.binds (ps := p_are_codes) fun _ _ _ _ _ _ us hl => match us, hl with | [_], _ => rfl
  have F_Encoding_init := fun_mk (st := s_Encoding_init) l3 c3 k3
  have B_Encoding_init := F_Encoding_init.binds (ps := p_Encoding_init) fun _ _ _ _ _ _ us hl => match us, hl with | [_, _, _], _ => rfl
  have F_Encoding_letter_at := fun_mk (st := s_Encoding_letter_at) l4 c4 k4
  have B_Encoding_letter_at := F_Encoding_letter_at.binds (ps := p_Encoding_letter_at) fun _ _ _ _ _ _ us hl => match us, hl with | [_, _], _ => rfl
  have F_Encoding_is_begun := fun_mk (st := s_Encoding_is_begun) l5 c5 k5
  have B_Encoding_is_begun := F_Encoding_is_begun.binds (ps := p_Encoding_is_begun) fun _ _ _ _ _ _ us hl => match us, hl with | [_, _], _ => rfl
  have F_Encoding_parsed := fun_mk (st := s_Encoding_parsed) l6 c6 k6
  have B_Encoding_parsed := F_Encoding_parsed.binds (ps := p_Encoding_parsed) fun _ _ _ _ _ _ us hl => match us, hl with | [_, _, _], _ => rfl
  have F_Encoding_as_text := fun_mk (st := s_Encoding_as_text) l7 c7 k7
  have B_Encoding_as_text := F_Encoding_as_text.binds (ps := p_Encoding_as_text) fun _ _ _ _ _ _ us hl => match us, hl with | [_, _, _], _ => rfl
  have F_Encoding_code_of := fun_mk (st := s_Encoding_code_of) l8 c8 k8
  have B_Encoding_code_of := F_Encoding_code_of.binds (ps := p_Encoding_code_of) fun _ _ _ _ _ _ us hl => match us, hl with | [_, _, _], _ => rfl
  have F_Encoding_as_bytes := fun_mk (st := s_Encoding_as_bytes) l9 c9 k9
  have B_Encoding_as_bytes := F_Encoding_as_bytes.binds (ps := p_Encoding_as_bytes) fun _ _ _ _ _ _ us hl => match us, hl with | [_, _, _], _ => rfl
  have F__law_draw := fun_mk (st := s__law_draw) l10 c10 k10
  have B__law_draw := F__law_draw.binds (ps := p__law_draw) fun _ _ _ _ _ _ us hl => match us, hl with | [_, _], _ => rfl
  have F__law_codes := fun_mk (st := s__law_codes) l11 c11 k11
  have B__law_codes := F__law_codes.binds (ps := p__law_codes) fun _ _ _ _ _ _ us hl => match us, hl with | [_], _ => rfl
  have F__law_text := fun_mk (st := s__law_text) l12 c12 k12
  have B__law_text := F__law_text.binds (ps := p__law_text) fun _ _ _ _ _ _ us hl => match us, hl with | [_, _, _], _ => rfl
  have F__law_bytes := fun_mk (st := s__law_bytes) l13 c13 k13
  have B__law_bytes := F__law_bytes.binds (ps := p__law_bytes) fun _ _ _ _ _ _ us hl => match us, hl with | [_, _, _], _ => rfl
  have F__law_told := fun_mk (st := s__law_told) l14 c14 k14
  have B__law_told := F__law_told.binds (ps := p__law_told) fun _ _ _ _ _ _ us hl => match us, hl with | [_, _, _, _], _ => rfl
  have F__law_begin := fun_mk (st := s__law_begin) l15 c15 k15
  have B__law_begin := F__law_begin.binds (ps := p__law_begin) fun _ _ _ _ _ _ us hl => match us, hl with | [_], _ => rfl
  have F__law_like := fun_mk (st := s__law_like) l16 c16 k16
  have B__law_like := F__law_like.binds (ps := p__law_like) fun _ _ _ _ _ _ us hl => match us, hl with | [_, _], _ => rfl
  have F_law := fun_mk (st := s_law) l17 c17 k17
  have B_law := F_law.binds (ps := p_law) fun _ _ _ _ _ _ us hl => match us, hl with | [_], _ => rfl
  obtain ⟨ct, hct⟩ : ∃ ct : Nat → Addr, ct = fun i => match i with | 3 => C3 | 1 => C1 | 2 => C2 | 4 => C4 | 5 => C5 | _ => 0 := ⟨_, rfl⟩
  have ec3 : ct 3 = C3 := by rw [hct] <;> rfl
  have ec1 : ct 1 = C1 := by rw [hct] <;> rfl
  have ec2 : ct 2 = C2 := by rw [hct] <;> rfl
  have ec4 : ct 4 = C4 := by rw [hct] <;> rfl
  have ec5 : ct 5 = C5 := by rw [hct] <;> rfl
  subst ec3 ec1 ec2 ec4 ec5
  clear hct
  have S : St K mg ct := by
    refine ⟨fun x hx => ?blt, ⟨t0, PySem.W.mg_of X G ug0⟩, ⟨t1, PySem.W.mg_of X G ug1⟩, ⟨t2, PySem.W.mg_of X G ug2⟩, ⟨⟨pg, hd, po, sa⟩, ha, hn, htk, hm⟩, PySem.W.mg_of X G aC3, n0, n1, n2, fun n hn => ?kOT, fun n hn => ?kTO, kit_self⟩
    case blt =>
      simp only [bltNames, List.mem_cons, List.not_mem_nil, or_false] at hx
      rcases hx with e | e | e | e | e | e | e | e | e | e | e | e | e | e | e <;> subst e
      · exact PySem.W.mg_none_of X G z0
      · exact PySem.W.mg_none_of X G z1
      · exact PySem.W.mg_none_of X G z2
      · exact PySem.W.mg_none_of X G z3
      · exact PySem.W.mg_none_of X G z4
      · exact PySem.W.mg_none_of X G z5
      · exact PySem.W.mg_none_of X G z6
      · exact PySem.W.mg_none_of X G z7
      · exact PySem.W.mg_none_of X G z8
      · exact PySem.W.mg_none_of X G z9
      · exact PySem.W.mg_none_of X G z10
      · exact PySem.W.mg_none_of X G z11
      · exact PySem.W.mg_none_of X G z12
      · exact PySem.W.mg_none_of X G z13
      · exact PySem.W.mg_none_of X G z14
    case kOT =>
      simp only [tyNames, List.mem_cons, List.not_mem_nil, or_false] at hn
      rcases hn with e | e | e | e | e | e | e <;> subst e
      · exact kit_ot rfl rfl ot0
      · exact kit_ot rfl rfl ot1
      · exact kit_ot rfl rfl ot2
      · exact kit_ot rfl rfl ot3
      · exact kit_ot rfl rfl ot4
      · exact kit_ot rfl rfl ot5
      · exact kit_ot rfl rfl ot6
    case kTO =>
      simp only [tyNames, List.mem_cons, List.not_mem_nil, or_false] at hn
      rcases hn with e | e | e | e | e | e | e <;> subst e
      · exact kit_to rfl ic tc rfl
      · exact kit_to rfl ic tc rfl
      · exact kit_to rfl ic tc rfl
      · exact kit_to rfl ic tc rfl
      · exact kit_to rfl ic tc rfl
      · exact kit_to rfl ic tc rfl
      · exact kit_to rfl ic tc rfl
  refine ⟨PySem.W.fnOf "law" "law" (defArgs s_law) (defBody s_law) (defScope s_law) .none kV17 dc17 pm17 an17 cd17 ct17, fun s v => .of_eq rfl, fun base0 _ _ => ?_⟩
  have ox4 : OexC K (ct 4) := ⟨⟨_, _, _, _, _, _, _, _, _, _, _, _, _, _, _, xl4, xm4⟩, xs4, xo4, xt4, kC4⟩
  have Fx4 := fun_mk (st := s_xCannotDecode) lx4 cx4 kx4
  have ix4' := init_x (P := l.prog) (w := w) (mg := mg) (base := base0) (x := "place") Fx4 (fns_of (by decide +kernel)) rfl ox4 xn4 (by decide) (by decide)
  have bx4 := Fx4.binds (ps := ["self", "place"]) fun _ _ _ _ _ _ us hl => match us, hl with | [_, _], _ => rfl
  have xP4 : XcP l.prog w K mg base0 (tab ct) 4 := ⟨⟨fx4, _, "place", ax4, ix4, ix4', bx4⟩, ox4, PySem.W.mg_of X G aC4, rfl, xn4, ⟨xg4, xh4, xo4, xd4⟩⟩
  have ox5 : OexC K (ct 5) := ⟨⟨_, _, _, _, _, _, _, _, _, _, _, _, _, _, _, xl5, xm5⟩, xs5, xo5, xt5, kC5⟩
  have Fx5 := fun_mk (st := s_xCannotEncode) lx5 cx5 kx5
  have ix5' := init_x (P := l.prog) (w := w) (mg := mg) (base := base0) (x := "place") Fx5 (fns_of (by decide +kernel)) rfl ox5 xn5 (by decide) (by decide)
  have bx5 := Fx5.binds (ps := ["self", "place"]) fun _ _ _ _ _ _ us hl => match us, hl with | [_, _], _ => rfl
  have xP5 : XcP l.prog w K mg base0 (tab ct) 5 := ⟨⟨fx5, _, "place", ax5, ix5, ix5', bx5⟩, ox5, PySem.W.mg_of X G aC5, rfl, xn5, ⟨xg5, xh5, xo5, xd5⟩⟩
  have xZ1 : Xc0 K mg (tab ct) 1 := ⟨xq1, kC1, xo1, xt1, PySem.W.mg_of X G aC1, rfl⟩
  have xZ2 : Xc0 K mg (tab ct) 2 := ⟨xq2, kC2, xo2, xt2, PySem.W.mg_of X G aC2, rfl⟩
  have xf : ∀ sp8, XF l.prog w K mg base0 (tab ct) (Gam sp8) xps xzs xhs := fun sp8 => by
    refine ⟨fun c hc => ?p, fun c hc => ?z, fun c hc => ?h, fun c _ c' h => of_decide_eq_true h⟩
    case p =>
      simp only [xps, List.mem_cons, List.not_mem_nil, or_false] at hc
      rcases hc with e | e <;> subst e
      · exact xP4
      · exact xP5
    case z =>
      simp only [xzs, List.mem_cons, List.not_mem_nil, or_false] at hc
      rcases hc with e | e <;> subst e
      · exact xZ1
      · exact xZ2
    case h =>
      have ecs : ∀ c', (tab ct).ec c' = true → c' = 4 ∨ c' = 5 ∨ c' = 1 ∨ c' = 2 := fun c' h => by
        have h2 : c' ∈ xps ++ xzs := List.contains_iff_mem.mp h
        simpa [xps, xzs, or_assoc] using h2
      simp only [xhs, List.mem_cons, List.not_mem_nil, or_false] at hc
      rcases hc with e | e <;> subst e
      · refine ⟨PySem.W.mg_of X G aC4, fun c' h => ?_⟩
        rcases ecs c' h with e | e | e | e <;> subst e
        · exact exm_by xo4 xc4 xt4 e4_4
        · exact exm_by xo4 xc4 xt4 e5_4
        · exact exm_by xo4 xc4 xt4 e1_4
        · exact exm_by xo4 xc4 xt4 e2_4
      · refine ⟨PySem.W.mg_of X G aC5, fun c' h => ?_⟩
        rcases ecs c' h with e | e | e | e <;> subst e
        · exact exm_by xo5 xc5 xt5 e4_5
        · exact exm_by xo5 xc5 xt5 e5_5
        · exact exm_by xo5 xc5 xt5 e1_5
        · exact exm_by xo5 xc5 xt5 e2_5
  have G_is_of := ok_is_of (P := l.prog) (w := w) (mg := mg) (base0 := base0) (ct := ct) (sp8 := sp_like1) F_is_of (fx0 (k := 0) (sp8 := sp_like1) S [] [] (by decide))
  have mF_is_of : FnF l.prog w K mg base0 (tab ct) 1 ((tab ct).fnN 1) ((Gam sp_like1).fn 1) := mk_fn F_is_of (PySem.W.mg_of X G a0) B_is_of G_is_of len_is_of
  have G_is_name := ok_is_name (P := l.prog) (w := w) (mg := mg) (base0 := base0) (ct := ct) (sp8 := sp_like1) F_is_name ((fx0 (k := 1) (sp8 := sp_like1) S [2] [] (by decide)).addF (g := 1) (mF_is_of.mono (by decide)))
  have mF_is_name : FnF l.prog w K mg base0 (tab ct) 2 ((tab ct).fnN 2) ((Gam sp_like1).fn 2) := mk_fn F_is_name (PySem.W.mg_of X G a1) B_is_name G_is_name len_is_name
  have G_are_codes := ok_are_codes (P := l.prog) (w := w) (mg := mg) (base0 := base0) (ct := ct) (sp8 := sp_like1) F_are_codes ((fx0 (k := 1) (sp8 := sp_like1) S [1, 0] [] (by decide)).addF (g := 1) (mF_is_of.mono (by decide)))
  have mF_are_codes : FnF l.prog w K mg base0 (tab ct) 2 ((tab ct).fnN 3) ((Gam sp_like1).fn 3) := mk_fn F_are_codes (PySem.W.mg_of X G a2) B_are_codes G_are_codes len_are_codes
  have G_Encoding_init := ok_Encoding_init (P := l.prog) (w := w) (mg := mg) (base0 := base0) (ct := ct) (sp8 := sp_like1) F_Encoding_init (xf _) (((fx0 (k := 2) (sp8 := sp_like1) S [1] [0, 1, 2] (by decide)).addF (g := 3) (mF_are_codes.mono (by decide))).addF (g := 2) (mF_is_name.mono (by decide)))
  have mN_3 : NeF l.prog w K mg base0 (tab ct) 4 3 ((tab ct).clN 3) sp_enc := mk_ne (PySem.W.mg_of X G aC3) ⟨mk, a3, i3, kC3⟩ B_Encoding_init G_Encoding_init enc_new
  have G_Encoding_letter_at := ok_Encoding_letter_at (P := l.prog) (w := w) (mg := mg) (base0 := base0) (ct := ct) (sp8 := sp_like1) F_Encoding_letter_at (fx0 (k := 0) (sp8 := sp_like1) S [] [2] (by decide))
  have mM_Encoding_letter_at : MeF l.prog w K mg base0 (tab ct) 1 ((tab ct).ct 3) ((tab ct).meN 3) ((Gam sp_like1).meth 3 3) := mk_me ⟨a4, i4, k4⟩ B_Encoding_letter_at G_Encoding_letter_at len_Encoding_letter_at
  have G_Encoding_is_begun := ok_Encoding_is_begun (P := l.prog) (w := w) (mg := mg) (base0 := base0) (ct := ct) (sp8 := sp_like1) F_Encoding_is_begun (fx0 (k := 0) (sp8 := sp_like1) S [] [2] (by decide))
  have mM_Encoding_is_begun : MeF l.prog w K mg base0 (tab ct) 1 ((tab ct).ct 3) ((tab ct).meN 4) ((Gam sp_like1).meth 3 4) := mk_me ⟨a5, i5, k5⟩ B_Encoding_is_begun G_Encoding_is_begun len_Encoding_is_begun
  have G_Encoding_parsed := ok_Encoding_parsed (P := l.prog) (w := w) (mg := mg) (base0 := base0) (ct := ct) (sp8 := sp_like1) F_Encoding_parsed (((fx0 (k := 1) (sp8 := sp_like1) S [] [1] (by decide)).addM (g := 4) (c0 := 3) (fun c _ h => has_one h) (fd_me (by decide)) (mM_Encoding_is_begun.mono (by decide))).addM (g := 3) (c0 := 3) (fun c _ h => has_one h) (fd_me (by decide)) (mM_Encoding_letter_at.mono (by decide)))
  have mM_Encoding_parsed : MeF l.prog w K mg base0 (tab ct) 2 ((tab ct).ct 3) ((tab ct).meN 5) ((Gam sp_like1).meth 3 5) := mk_me ⟨a6, i6, k6⟩ B_Encoding_parsed G_Encoding_parsed len_Encoding_parsed
  have G_Encoding_code_of := ok_Encoding_code_of (P := l.prog) (w := w) (mg := mg) (base0 := base0) (ct := ct) (sp8 := sp_like1) F_Encoding_code_of (fx0 (k := 0) (sp8 := sp_like1) S [] [1] (by decide))
  have mM_Encoding_code_of : MeF l.prog w K mg base0 (tab ct) 1 ((tab ct).ct 3) ((tab ct).meN 7) ((Gam sp_like1).meth 3 7) := mk_me ⟨a8, i8, k8⟩ B_Encoding_code_of G_Encoding_code_of len_Encoding_code_of
  have G_Encoding_as_text := ok_Encoding_as_text (P := l.prog) (w := w) (mg := mg) (base0 := base0) (ct := ct) (sp8 := sp_like1) F_Encoding_as_text (xf _) ((fx0 (k := 2) (sp8 := sp_like1) S [] [1] (by decide)).addM (g := 5) (c0 := 3) (fun c _ h => has_one h) (fd_me (by decide)) (mM_Encoding_parsed.mono (by decide)))
  have mM_Encoding_as_text : MeF l.prog w K mg base0 (tab ct) 3 ((tab ct).ct 3) ((tab ct).meN 6) ((Gam sp_like1).meth 3 6) := mk_me ⟨a7, i7, k7⟩ B_Encoding_as_text G_Encoding_as_text len_Encoding_as_text
  have G_Encoding_as_bytes := ok_Encoding_as_bytes (P := l.prog) (w := w) (mg := mg) (base0 := base0) (ct := ct) (sp8 := sp_like1) F_Encoding_as_bytes (xf _) ((fx0 (k := 2) (sp8 := sp_like1) S [] [] (by decide)).addM (g := 7) (c0 := 3) (fun c _ h => has_one h) (fd_me (by decide)) (mM_Encoding_code_of.mono (by decide)))
  have mM_Encoding_as_bytes : MeF l.prog w K mg base0 (tab ct) 3 ((tab ct).ct 3) ((tab ct).meN 8) ((Gam sp_like1).meth 3 8) := mk_me ⟨a9, i9, k9⟩ B_Encoding_as_bytes G_Encoding_as_bytes len_Encoding_as_bytes
  have G__law_draw := ok__law_draw (P := l.prog) (w := w) (mg := mg) (base0 := base0) (ct := ct) (sp8 := sp_like1) F__law_draw (fx0 (k := 0) (sp8 := sp_like1) S [] [] (by decide))
  have mF__law_draw : FnF l.prog w K mg base0 (tab ct) 1 ((tab ct).fnN 5) ((Gam sp_like1).fn 5) := mk_fn F__law_draw (PySem.W.mg_of X G a10) B__law_draw G__law_draw len__law_draw
  have G__law_codes := ok__law_codes (P := l.prog) (w := w) (mg := mg) (base0 := base0) (ct := ct) (sp8 := sp_like1) F__law_codes ((fx0 (k := 1) (sp8 := sp_like1) S [] [] (by decide)).addF (g := 5) (mF__law_draw.mono (by decide)))
  have mF__law_codes : FnF l.prog w K mg base0 (tab ct) 2 ((tab ct).fnN 6) ((Gam sp_like1).fn 6) := mk_fn F__law_codes (PySem.W.mg_of X G a11) B__law_codes G__law_codes len__law_codes
  have G__law_text := ok__law_text (P := l.prog) (w := w) (mg := mg) (base0 := base0) (ct := ct) (sp8 := sp_like1) F__law_text (fx0 (k := 0) (sp8 := sp_like1) S [] [] (by decide))
  have mF__law_text : FnF l.prog w K mg base0 (tab ct) 1 ((tab ct).fnN 12) ((Gam sp_like1).fn 12) := mk_fn F__law_text (PySem.W.mg_of X G a12) B__law_text G__law_text len__law_text
  have G__law_bytes := ok__law_bytes (P := l.prog) (w := w) (mg := mg) (base0 := base0) (ct := ct) (sp8 := sp_like1) F__law_bytes (fx0 (k := 0) (sp8 := sp_like1) S [] [] (by decide))
  have mF__law_bytes : FnF l.prog w K mg base0 (tab ct) 1 ((tab ct).fnN 13) ((Gam sp_like1).fn 13) := mk_fn F__law_bytes (PySem.W.mg_of X G a13) B__law_bytes G__law_bytes len__law_bytes
  have G__law_told := ok__law_told (P := l.prog) (w := w) (mg := mg) (base0 := base0) (ct := ct) (sp8 := sp_like1) F__law_told (xf _) (((fx0 (k := 3) (sp8 := sp_like1) S [] [] (by decide)).addM (g := 8) (c0 := 3) (fun c _ h => has_one h) (fd_me (by decide)) (mM_Encoding_as_bytes.mono (by decide))).addM (g := 6) (c0 := 3) (fun c _ h => has_one h) (fd_me (by decide)) (mM_Encoding_as_text.mono (by decide)))
  have mF__law_told : FnF l.prog w K mg base0 (tab ct) 4 ((tab ct).fnN 10) ((Gam sp_like1).fn 10) := mk_fn F__law_told (PySem.W.mg_of X G a14) B__law_told G__law_told len__law_told
  have mL0 : FnF l.prog w K mg base0 (tab ct) 0 ((tab ct).fnN 8) ((Gam never).fn 8) := mk_fn (n := 2) F__law_like (PySem.W.mg_of X G a16) B__law_like never_ok (fun _ _ _ _ z => z.elim)
  have GL0 : FnOk l.prog w K mg base0 (L2.CX l.prog w) 1 f16 _ p__law_like (spM (tab ct) K 2 sp_like0) := def_ok F__law_like sc__law_like ((fx0 (k := 0) (sp8 := never) S [] [] (by decide)).addF (g := 8) mL0) rfl rfl (fun vs h Q E q _ => wp_like0 _ vs h Q E q) (fun cdv A outer s H E ok => bb__law_like cdv A outer s H E ok)
  have mL1 : FnF l.prog w K mg base0 (tab ct) 1 ((tab ct).fnN 8) ((Gam sp_like0).fn 8) := mk_fn (n := 2) F__law_like (PySem.W.mg_of X G a16) B__law_like GL0 len_like0
  have GL1 : FnOk l.prog w K mg base0 (L2.CX l.prog w) 2 f16 _ p__law_like (spM (tab ct) K 2 sp_like1) := def_ok F__law_like sc__law_like ((fx0 (k := 1) (sp8 := sp_like0) S [] [] (by decide)).addF (g := 8) mL1) rfl rfl (fun vs h Q E q _ => wp_like1 _ rfl vs h Q E q) (fun cdv A outer s H E ok => bb__law_like cdv A outer s H E ok)
  have mF__law_like : FnF l.prog w K mg base0 (tab ct) 2 ((tab ct).fnN 8) ((Gam sp_like1).fn 8) := mk_fn (n := 2) F__law_like (PySem.W.mg_of X G a16) B__law_like GL1 len_like1
  have GB := beg_ok (P := l.prog) (w := w) (base := base0) F__law_begin sc__law_begin rfl (by decide +kernel) (PySem.W.mg_none_of X G z1) (by decide) (by decide)
  have mBeg : FnF l.prog w K mg base0 (tab ct) 4 ((tab ct).fnN 4) ((Gam sp_like1).fn 4) := mk_fn (n := 1) F__law_begin (PySem.W.mg_of X G a15) B__law_begin (never_ok.mono (Nat.zero_le 4)) (fun _ _ _ _ z => z.elim)
  exact law_ok F_law sc_law (((((((((((fx0 (k := 4) (sp8 := sp_like1) S [] [] (by decide)).addM (g := 6) (c0 := 3) (fun c _ h => has_one h) (fd_me (by decide)) (mM_Encoding_as_text.mono (by decide))).addM (g := 8) (c0 := 3) (fun c _ h => has_one h) (fd_me (by decide)) (mM_Encoding_as_bytes.mono (by decide))).addC (g := 3) rfl (mN_3.mono (by decide))).addF (g := 13) (mF__law_bytes.mono (by decide))).addF (g := 8) (mF__law_like.mono (by decide))).addF (g := 12) (mF__law_text.mono (by decide))).addF (g := 10) (mF__law_told.mono (by decide))).addF (g := 5) (mF__law_draw.mono (by decide))).addF (g := 6) (mF__law_codes.mono (by decide))).addF (g := 4) mBeg) rfl rfl (by first | exact .inl (by decide +kernel) | exact .inr (by decide +kernel)) rfl (by decide +kernel) (by decide) (PySem.W.mg_of X G a15) k15 B__law_begin (by decide) GB (by decide) (by decide) (fun cdv A outer s H E ok => bb_law cdv A outer s H E ok) (fun p q ns Q E pq k => wp_lawR (Gam sp_like1) rfl rfl rfl rfl rfl rfl rfl rfl rfl rfl rfl ⟨p, ns, 0, 0, 7, Bc.upd_same, Int.le_refl 0, pq, by show begH p q ns p = _; unfold begH; rw [Bc.upd_ne pq]; exact Bc.upd_same⟩ k)
end Bk
set_option Elab.async false
set_option linter.all false
set_option maxRecDepth 100000
set_option maxHeartbeats 4000000
namespace Bk
open PySem L2 PyProof.Rows Bs
theorem walk {l : PySem.W.OpenLaw} {q : Program} {loose : List Str} {XP : (Str → Option Value) → Heap → Prop} {YP : World → Heap → Prop} {d : DefRec} {K : Params → PySem.W.Frag} (hn : l.most = some 63) (hdf : d.params.defaults = [])
    (hY : ∀ (w : World) (h : Heap), YP w h → (K w.params).In h)
    (F : ∀ (w : World) (mg : Str → Option Value) (fa : Addr) (h : Heap), (K w.params).In h → h.Ns mainGlobals mg → mg d.name = some (.ref fa) →
      ∃ fd : FuncData, (∀ (s : Shared) (u : Value), BindsTo s fd ⟨[u], []⟩ [("_law_script", u)]) ∧ ∀ base : Heap, (K w.params).In base → base.Ns mainGlobals mg → FnOk l.prog w (K w.params) mg base (L2.CX l.prog w) 5 fa fd ["_law_script"] (spLawV (K w.params))) :
    PySem.W.WalkO q loose XP YP l.row.toRowW d [] (fun f vs => PySem.call f vs) :=
  L2.walk_of (n := 63) (k := 5) (x := "_law_script") (CX := fun w => L2.CX l.prog w) (sp := fun w => spLawV (K w.params)) hn (by decide) hdf ⟨rfl, by decide, by decide⟩ hY F (fun _ _ a ns hl _ hS => ⟨a, ns, rfl, hS, fun _ => rfl⟩)
    fun _ _ _ _ _ z => by
      obtain ⟨_, _, _, _, _, _, _, _, _, _, _, _, z⟩ := z
      exact z
end Bk
open PySem PySem.W PyProof.Rows
set_option maxRecDepth 100000 in
set_option maxHeartbeats 0 in
theorem PySem.Challenge.cw_bytecuts_k02_whole_coding_holds : PySem.Challenge.rw_bytecuts_k02_whole_coding.Holds := by
  w_on; o_law; k_head; (case hw => w_witness2)
  k_fill
  refine Bk.walk (l := PySem.Challenge.rw_bytecuts_k02_whole_coding) rfl rfl (fun w h Y => PySem.W.kIn_of Y) ?F
  case F =>
    intro w mg fa h KX G hmg
    refine' Bk.all_mk KX G hmg ?a0 ?l0 ?c0 ?k0 ?a1 ?l1 ?c1 ?k1 ?a2 ?l2 ?c2 ?k2 ?a3 ?i3 ?l3 ?c3 ?k3 ?a4 ?i4 ?l4 ?c4 ?k4 ?a5 ?i5 ?l5 ?c5 ?k5 ?a6 ?i6 ?l6 ?c6 ?k6 ?a7 ?i7 ?l7 ?c7 ?k7 ?a8 ?i8 ?l8 ?c8 ?k8 ?a9 ?i9 ?l9 ?c9 ?k9 ?a10 ?l10 ?c10 ?k10 ?a11 ?l11 ?c11 ?k11 ?a12 ?l12 ?c12 ?k12 ?a13 ?l13 ?c13 ?k13 ?a14 ?l14 ?c14 ?k14 ?a15 ?l15 ?c15 ?k15 ?a16 ?l16 ?c16 ?k16 ?a17 ?l17 ?c17 ?k17 ?aC3 ?kC3 ?aC1 ?kC1 ?aC2 ?kC2 ?aC4 ?kC4 ?aC5 ?kC5 ?pg ?hd ?po ?sa ?mk ?ha ?hm ?n0 ?n1 ?n2 ?ic ?tc ?hn ?htk ?ot0 ?ot1 ?ot2 ?ot3 ?ot4 ?ot5 ?ot6 ?z0 ?z1 ?z2 ?z3 ?z4 ?z5 ?z6 ?z7 ?z8 ?z9 ?z10 ?z11 ?z12 ?z13 ?z14 ?ug0 ?ug1 ?ug2 ?ax4 ?ix4 ?lx4 ?cx4 ?kx4 ?xo4 ?xt4 ?xs4 ?xl4 ?xm4 ?xn4 ?xg4 ?xh4 ?xd4 ?ax5 ?ix5 ?lx5 ?cx5 ?kx5 ?xo5 ?xt5 ?xs5 ?xl5 ?xm5 ?xn5 ?xg5 ?xh5 ?xd5 ?xq1 ?xo1 ?xt1 ?xq2 ?xo2 ?xt2 ?e1_4 ?e1_5 ?e2_4 ?e2_5 ?e4_4 ?e4_5 ?e5_4 ?e5_5 ?xc4 ?xc5
    (case aC3 => k_is)
    (case aC1 => k_is)
    (case aC2 => k_is)
    (case aC4 => k_is)
    (case aC5 => k_is)
    (case a0 => k_is)
    (case l0 => k_is)
    (case c0 => k_is)
    (case k0 => k_is)
    (case a1 => k_is)
    (case l1 => k_is)
    (case c1 => k_is)
    (case k1 => k_is)
    (case a2 => k_is)
    (case l2 => k_is)
    (case c2 => k_is)
    (case k2 => k_is)
    (case a3 => k_is)
    (case i3 => k_is)
    (case l3 => k_is)
    (case c3 => k_is)
    (case k3 => k_is)
    (case a4 => k_is)
    (case i4 => k_is)
    (case l4 => k_is)
    (case c4 => k_is)
    (case k4 => k_is)
    (case a5 => k_is)
    (case i5 => k_is)
    (case l5 => k_is)
    (case c5 => k_is)
    (case k5 => k_is)
    (case a6 => k_is)
    (case i6 => k_is)
    (case l6 => k_is)
    (case c6 => k_is)
    (case k6 => k_is)
    (case a7 => k_is)
    (case i7 => k_is)
    (case l7 => k_is)
    (case c7 => k_is)
    (case k7 => k_is)
    (case a8 => k_is)
    (case i8 => k_is)
    (case l8 => k_is)
    (case c8 => k_is)
    (case k8 => k_is)
    (case a9 => k_is)
    (case i9 => k_is)
    (case l9 => k_is)
    (case c9 => k_is)
    (case k9 => k_is)
    (case a10 => k_is)
    (case l10 => k_is)
    (case c10 => k_is)
    (case k10 => k_is)
    (case a11 => k_is)
    (case l11 => k_is)
    (case c11 => k_is)
    (case k11 => k_is)
    (case a12 => k_is)
    (case l12 => k_is)
    (case c12 => k_is)
    (case k12 => k_is)
    (case a13 => k_is)
    (case l13 => k_is)
    (case c13 => k_is)
    (case k13 => k_is)
    (case a14 => k_is)
    (case l14 => k_is)
    (case c14 => k_is)
    (case k14 => k_is)
    (case a15 => k_is)
    (case l15 => k_is)
    (case c15 => k_is)
    (case k15 => k_is)
    (case a16 => k_is)
    (case l16 => k_is)
    (case c16 => k_is)
    (case k16 => k_is)
    (case a17 => k_is)
    (case l17 => k_is)
    (case c17 => k_is)
    (case k17 => k_is)
    (case kC3 => k_is)
    (case kC1 => k_is)
    (case kC2 => k_is)
    (case kC4 => k_is)
    (case kC5 => k_is)
    (case pg => k_is)
    (case hd => k_is)
    (case po => k_is)
    (case sa => k_is)
    (case mk => k_is)
    (case ha => k_is)
    (case hm => k_is)
    (case n0 => k_is)
    (case n1 => k_is)
    (case n2 => k_is)
    (case ic => k_is)
    (case tc => k_is)
    (case hn => k_is)
    (case htk => k_is)
    (case ot0 => k_is)
    (case ot1 => k_is)
    (case ot2 => k_is)
    (case ot3 => k_is)
    (case ot4 => k_is)
    (case ot5 => k_is)
    (case ot6 => k_is)
    (case z0 => k_is)
    (case z1 => k_is)
    (case z2 => k_is)
    (case z3 => k_is)
    (case z4 => k_is)
    (case z5 => k_is)
    (case z6 => k_is)
    (case z7 => k_is)
    (case z8 => k_is)
    (case z9 => k_is)
    (case z10 => k_is)
    (case z11 => k_is)
    (case z12 => k_is)
    (case z13 => k_is)
    (case z14 => k_is)
    (case ug0 => k_is)
    (case ug1 => k_is)
    (case ug2 => k_is)
    (case ax4 => k_is)
    (case ix4 => k_is)
    (case lx4 => k_is)
    (case cx4 => k_is)
    (case kx4 => k_is)
    (case xo4 => k_is)
    (case xt4 => k_is)
    (case xs4 => k_is)
    (case xl4 => k_is)
    (case xm4 => decide +kernel)
    (case xn4 => k_is)
    (case xg4 => k_is)
    (case xh4 => k_is)
    (case xd4 => k_is)
    (case ax5 => k_is)
    (case ix5 => k_is)
    (case lx5 => k_is)
    (case cx5 => k_is)
    (case kx5 => k_is)
    (case xo5 => k_is)
    (case xt5 => k_is)
    (case xs5 => k_is)
    (case xl5 => k_is)
    (case xm5 => decide +kernel)
    (case xn5 => k_is)
    (case xg5 => k_is)
    (case xh5 => k_is)
    (case xd5 => k_is)
    (case xq1 => k_exc)
    (case xo1 => k_is)
    (case xt1 => k_is)
    (case xq2 => k_exc)
    (case xo2 => k_is)
    (case xt2 => k_is)
    (case e1_4 => k_is)
    (case e1_5 => k_is)
    (case e2_4 => k_is)
    (case e2_5 => k_is)
    (case e4_4 => k_is)
    (case e4_5 => k_is)
    (case e5_4 => k_is)
    (case e5_5 => k_is)
    (case xc4 => k_is)
    (case xc5 => k_is)
