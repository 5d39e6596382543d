import PyProof.Rows.All
import HandS.ForMost
import HandS.Walk
import HandS.Deep
import HandS.TupAny
import HandS.Strs
import HandS.Style
import HandS.Zip
import HandS.IsInst
import HandS.Wide
import HandS.Conv
import HandS.More
import HandS.RaiseMore
import HandS.TupMul
import KE.KStar
import KE.GoesEnum
import HandS.Ends
import HandS.Words
import HandS.HeadEnd
import HandS.LawCells
import HandS.TryOnly
import KE.KDictZip
import KE.KDictPairs
import KE.KDictSum
import PyProof.Rows.SortShellK
import PyProof.Rows.SortStr
import HandS.ExcValue
import PyProof.DictUpdate
import PySem.Challenge.RW_keptvalues_k06_pipes_and_promises_told_a
set_option Elab.async false
set_option linter.all false
set_option maxRecDepth 100000
/-! KVA: denotations. A def of the program becomes a plain function on slots that hold data. -/
namespace KV
open PySem L2

abbrev D := PyData

/-- what a denotation gives: a value, an exception, or no word about it -/
inductive R (α : Type) where
  | ok (a : α)
  | ex (c : Str) (ds : List PyData)
  | no
namespace R
variable {α β γ : Type}
def bind : R α → (α → R β) → R β
  | .ok a, f => f a
  | .ex c ds, _ => .ex c ds
  | .no, _ => .no
/-- it gives a value, and Q holds of it -/
def W : R α → (α → Prop) → Prop
  | .ok a, Q => Q a
  | .ex _ _, _ => False
  | .no, _ => False
@[simp] theorem bind_ok (a : α) (f : α → R β) : (R.ok a).bind f = f a := rfl
@[simp] theorem bind_no (f : α → R β) : (R.no : R α).bind f = .no := rfl
@[simp] theorem bind_ex (c : Str) (ds : List PyData) (f : α → R β) : (R.ex c ds : R α).bind f = .ex c ds := rfl
@[simp] theorem W_ok (a : α) (Q : α → Prop) : (R.ok a).W Q = Q a := rfl
@[simp] theorem W_no (Q : α → Prop) : (R.no : R α).W Q = False := rfl
@[simp] theorem W_ex (c : Str) (ds : List PyData) (Q : α → Prop) : (R.ex c ds : R α).W Q = False := rfl
theorem W_bind (r : R α) (f : α → R β) (Q : β → Prop) : (r.bind f).W Q = r.W (fun a => (f a).W Q) := by
  cases r <;> rfl
theorem bind_assoc (r : R α) (f : α → R β) (g : β → R γ) : (r.bind f).bind g = r.bind (fun a => (f a).bind g) := by
  cases r <;> rfl
theorem W_mono {r : R α} {Q Q' : α → Prop} (h : r.W Q) (hq : ∀ a, Q a → Q' a) : r.W Q' := by
  cases r with
  | ok a => exact hq a h
  | ex c ds => exact h
  | no => exact h
theorem W_iff {r : R α} {Q : α → Prop} : r.W Q ↔ ∃ a, r = .ok a ∧ Q a := by
  cases r with
  | ok a => exact ⟨fun h => ⟨a, rfl, h⟩, fun ⟨b, e, h⟩ => by cases e; exact h⟩
  | ex c ds => exact ⟨fun h => h.elim, fun ⟨b, e, h⟩ => nomatch e⟩
  | no => exact ⟨fun h => h.elim, fun ⟨b, e, h⟩ => nomatch e⟩
theorem bind_eq_ok {r : R α} {f : α → R β} {b : β} : r.bind f = .ok b ↔ ∃ a, r = .ok a ∧ f a = .ok b := by
  cases r with
  | ok a => exact ⟨fun h => ⟨a, rfl, h⟩, fun ⟨_, e, h⟩ => by cases e; exact h⟩
  | ex c ds => exact ⟨(fun h => nomatch h), (fun ⟨_, e, _⟩ => nomatch e)⟩
  | no => exact ⟨(fun h => nomatch h), (fun ⟨_, e, _⟩ => nomatch e)⟩
@[simp] theorem bind_ite (c : Prop) [Decidable c] (a b : R α) (f : α → R β) : (if c then a else b).bind f = if c then a.bind f else b.bind f := by
  split <;> rfl
@[simp] theorem W_ite (c : Prop) [Decidable c] (a b : R α) (Q : α → Prop) : (if c then a else b).W Q = if c then a.W Q else b.W Q := by
  split <;> rfl
end R

/-- the law's source of numbers -/
structure Src where
  cells : List Int
  left : Int
  mixed : Int
  turn : Int

/-- three dicts of one's own under three names -/
structure Tab where
  x : Str
  y : Str
  z : Str
  p : List (D × D)
  q : List (D × D)
  r : List (D × D)
/-- what a slot holds: a value that may be shared; a list, a dict of one's own; the source; a function -/
inductive T where
  | val (d : D)
  | lst (xs : List D)
  | dct (kvs : List (D × D))
  | src (s : Src)
  | scr (ns : List Int)
  | clo (n : Nat) (f : List D → R D)
  | tab (t : Tab)
abbrev Sl := List (Option T)
/-- a value on the way: data; what a slot owns; something new -/
inductive L where
  | d (x : D)
  | o (i : Nat)
  | t (x : T)
def T.toD : T → R D
  | .val d => .ok d
  | .lst xs => .ok (.list xs)
  | .dct kvs => .ok (.dict kvs)
  | _ => .no
/-- read -/
def L.get : L → Sl → R D
  | .d x, _ => .ok x
  | .o i, s => (match s[i]? with
    | some (some u) => u.toD
    | _ => .no)
  | .t x, _ => x.toD
/-- read for good: what was owned is shared from now on -/
def L.take : L → Sl → R (D × Sl)
  | .d x, s => .ok (x, s)
  | .o i, s => (match s[i]? with
    | some (some u) => u.toD.bind fun d => .ok (d, s.set i (some (.val d)))
    | _ => .no)
  | .t x, s => x.toD.bind fun d => .ok (d, s)
abbrev EV := Sl → R (L × Sl)
abbrev DV := Sl → R (D × Sl)
abbrev AV := Sl → R (List D × Sl)
abbrev BV := Sl → R (Bool × Sl)
inductive Fl where
  | nx | bk | ct
  | rt (t : T)
abbrev SV := Sl → R (Fl × Sl)
abbrev GV := D → Sl → R Sl

/-! ### expressions -/
def kC (d : D) : EV := fun s => .ok (.d d, s)
def kX (i : Nat) : EV := fun s => match s[i]? with
  | some (some (.val d)) => .ok (.d d, s)
  | some (some (.lst _)) => .ok (.o i, s)
  | some (some (.dct _)) => .ok (.o i, s)
  | _ => .no
/-- an expression's value, for good -/
def kD (f : EV) : DV := fun s => (f s).bind fun r => r.1.take r.2
/-- .., read now -/
def kG (f : EV) : DV := fun s => (f s).bind fun r => (r.1.get r.2).bind fun d => .ok (d, r.2)
def k1 (p : D → R L) (f : EV) : EV := fun s => (f s).bind fun r => (r.1.get r.2).bind fun d => (p d).bind fun l => .ok (l, r.2)
def k2 (p : D → D → R L) (f g : EV) : EV := fun s => (f s).bind fun r => (g r.2).bind fun q =>
  (r.1.get q.2).bind fun d => (q.1.get q.2).bind fun e => (p d e).bind fun l => .ok (l, q.2)
def aNil : AV := fun s => .ok ([], s)
def aCons (f : EV) (g : AV) : AV := fun s => (kD f s).bind fun r => (g r.2).bind fun q => .ok (r.1 :: q.1, q.2)
def seqOf : D → R (List D)
  | .list xs => .ok xs
  | .tuple xs => .ok xs
  | _ => .no
def aStar (f : EV) (g : AV) : AV := fun s => (kG f s).bind fun r => (seqOf r.1).bind fun xs => (g r.2).bind fun q => .ok (xs ++ q.1, q.2)
def szOk (n : Nat) : Bool := decide (n ≤ 16000000)
def kTup (g : AV) : EV := fun s => (g s).bind fun r => if szOk r.1.length then .ok (.d (.tuple r.1), r.2) else .no
def kLst (g : AV) : EV := fun s => (g s).bind fun r => if szOk r.1.length then .ok (.t (.lst r.1), r.2) else .no
def boolOf : D → R Bool
  | .bool b => .ok b
  | _ => .no
def kAnd (f g : EV) : EV := fun s => (kG f s).bind fun r => (boolOf r.1).bind fun b => if b then g r.2 else .ok (.d (.bool false), r.2)
def kOr (f g : EV) : EV := fun s => (kG f s).bind fun r => (boolOf r.1).bind fun b => if b then .ok (.d (.bool true), r.2) else g r.2
def kNot (f : EV) : EV := fun s => (kG f s).bind fun r => (boolOf r.1).bind fun b => .ok (.d (.bool !b), r.2)
def bVal (f : EV) : BV := fun s => (kG f s).bind fun r => (boolOf r.1).bind fun b => .ok (b, r.2)
def bAnd (f g : BV) : BV := fun s => (f s).bind fun r => if r.1 then g r.2 else .ok (false, r.2)
def bOr (f g : BV) : BV := fun s => (f s).bind fun r => if r.1 then .ok (true, r.2) else g r.2
def bNot (f : BV) : BV := fun s => (f s).bind fun r => .ok (!r.1, r.2)
def kIf (c : BV) (f g : EV) : EV := fun s => (c s).bind fun r => if r.1 then f r.2 else g r.2
/-- a number, a text -/
def scl : D → Bool
  | .int _ => true
  | .str _ => true
  | _ => false
def kS (f : EV) : DV := fun s => (kG f s).bind fun r => if scl r.1 then .ok r else .no
/-- a < b < c -/
def kChn (p q : D → D → R L) (f g h : EV) : EV := fun s => (kS f s).bind fun r => (kS g r.2).bind fun t => (p r.1 t.1).bind fun l => match l with
  | .d (.bool true) => (kS h t.2).bind fun u => (q t.1 u.1).bind fun m => .ok (m, u.2)
  | .d (.bool false) => .ok (.d (.bool false), t.2)
  | _ => .no

/-! ### what Python does on data -/
def bl (b : Bool) : R L := .ok (.d (.bool b))
def nm (i : Int) : R L := .ok (.d (.int i))
def pAdd : D → D → R L
  | .int a, .int b => nm (a + b)
  | .str a, .str b => if szOk (a.length + b.length) then .ok (.d (.str (a ++ b))) else .no
  | .tuple a, .tuple b => if szOk (a.length + b.length) then .ok (.d (.tuple (a ++ b))) else .no
  | .list a, .list b => if szOk (a.length + b.length) then .ok (.t (.lst (a ++ b))) else .no
  | _, _ => .no
def pSub : D → D → R L
  | .int a, .int b => nm (a - b)
  | _, _ => .no
def pMul : D → D → R L
  | .int a, .int b => if (-(2 ^ 64) < a ∧ a < 2 ^ 64) ∨ (-(2 ^ 64) < b ∧ b < 2 ^ 64) then nm (a * b) else .no
  | .tuple a, .int b => if 0 ≤ b ∧ b ≤ 1000 ∧ a.length ≤ 1000 then .ok (.d (.tuple (List.replicate b.toNat a).flatten)) else .no
  | .list a, .int b => if 0 ≤ b ∧ b ≤ 1000 ∧ a.length ≤ 1000 then .ok (.t (.lst (List.replicate b.toNat a).flatten)) else .no
  | _, _ => .no
def pMod : D → D → R L
  | .int a, .int b => if 0 < b then nm (a % b) else .no
  | _, _ => .no
def pDiv : D → D → R L
  | .int a, .int b => if 0 < b ∧ b < 1000000000 then nm (a / b) else .no
  | _, _ => .no
def pNeg : D → R L
  | .int a => nm (-a)
  | _ => .no
def eqOk (d : D) : Bool := SeqAt.shaped d
def pEq (d e : D) : R L := if eqOk d && eqOk e then bl (PyData.eqv d e) else .no
def pNe (d e : D) : R L := if eqOk d && eqOk e then bl (!PyData.eqv d e) else .no
def pLt : D → D → R L
  | .int a, .int b => bl (decide (a < b))
  | .str a, .str b => bl (decide (a.cps.toList < b.cps.toList))
  | _, _ => .no
def pLe : D → D → R L
  | .int a, .int b => bl (decide (a ≤ b))
  | .str a, .str b => bl (!decide (b.cps.toList < a.cps.toList))
  | _, _ => .no
def pGt : D → D → R L
  | .int a, .int b => bl (decide (b < a))
  | .str a, .str b => bl (decide (b.cps.toList < a.cps.toList))
  | _, _ => .no
def pGe : D → D → R L
  | .int a, .int b => bl (decide (b ≤ a))
  | .str a, .str b => bl (!decide (a.cps.toList < b.cps.toList))
  | _, _ => .no
def isNone : D → Bool
  | .none => true
  | _ => false
def pIsN (d : D) : R L := bl (isNone d)
def pNotN (d : D) : R L := bl (!isNone d)
/-- x is True (of a bool) -/
def pIsB (c : Bool) : D → R L
  | .bool b => bl (decide (b = c))
  | _ => .no
def pNotB (c : Bool) : D → R L
  | .bool b => bl (!decide (b = c))
  | _ => .no
def keyOf : D → Option Key
  | .int i => some (.inl i)
  | .str x => some (.inr x)
  | _ => none
def inB (d : D) (ds : List D) : Bool := ds.any fun z => PyData.eqv z d
def hasB (kvs : List (D × D)) (k : D) : Bool := kvs.any fun p => PyData.eqv p.1 k
def pIn : D → D → R L
  | d, .list ds => if eqOk d && eqOk (.list ds) then bl (inB d ds) else .no
  | d, .tuple ds => if eqOk d && eqOk (.tuple ds) then bl (inB d ds) else .no
  | d, .dict kvs => if (keyOf d).isSome then bl (hasB kvs d) else .no
  | .str a, .str b => bl (!(Builtin.Str.occurrences b a 0 b.length 1).isEmpty)
  | _, _ => .no
def pNotIn (d e : D) : R L := (pIn d e).bind fun l => match l with
  | .d (.bool b) => bl (!b)
  | _ => .no
/-- the place that an index tells -/
def ixD (n : Nat) (i : Int) : Option Nat := ixN n i
def lookD (kvs : List (D × D)) (k : D) : Option D := (kvs.find? fun p => PyData.eqv p.1 k).map (·.2)
def optD : Option D → R L
  | some d => .ok (.d d)
  | none => .no
def pIx : D → D → R L
  | .list xs, .int i => optD ((ixD xs.length i).bind fun j => xs[j]?)
  | .tuple xs, .int i => optD ((ixD xs.length i).bind fun j => xs[j]?)
  | .dict kvs, k => if (keyOf k).isSome then optD (lookD kvs k) else .no
  | _, _ => .no
def loOf (n : Nat) : Option Int → Nat
  | none => 0
  | some i => HT.sIx n 0 (some i)
def cutD (xs : List D) (lo hi : Option Int) : List D := (xs.drop (HT.sIx xs.length 0 lo)).take (HT.sIx xs.length xs.length hi - HT.sIx xs.length 0 lo)
def pSl (lo hi : Option Int) : D → R L
  | .list xs => .ok (.t (.lst (cutD xs lo hi)))
  | .tuple xs => .ok (.d (.tuple (cutD xs lo hi)))
  | _ => .no
def pRev : D → R L
  | .list xs => .ok (.t (.lst xs.reverse))
  | _ => .no
def pLen : D → R L
  | .list xs => nm xs.length
  | .tuple xs => nm xs.length
  | .dict kvs => nm kvs.length
  | .str x => if szOk x.length then nm x.length else .no
  | _ => .no
def pInt : D → R L
  | .int i => nm i
  | .bool b => nm (if b then 1 else 0)
  | _ => .no
def pAbs : D → R L
  | .int i => nm (if i < 0 then -i else i)
  | _ => .no
def pMax2 : D → D → R L
  | .int i, .int j => nm (if j > i then j else i)
  | _, _ => .no
def pMin2 : D → D → R L
  | .int i, .int j => nm (if j < i then j else i)
  | _, _ => .no
def pTuple : D → R L
  | .list xs => .ok (.d (.tuple xs))
  | .tuple xs => .ok (.d (.tuple xs))
  | _ => .no
def pList : D → R L
  | .list xs => .ok (.t (.lst xs))
  | .tuple xs => .ok (.t (.lst xs))
  | .dict kvs => .ok (.t (.lst (kvs.map (·.1))))
  | _ => .no
def showOk (d : D) : Bool := d.showable && decide (d.depth ≤ 64) && !d.hasDict && decide (d.shown.length ≤ sizeLine)
def pRepr (d : D) : R L := if showOk d then .ok (.d (.str d.shown)) else .no
def pStr : D → R L
  | .int i => if i.natAbs.log2 < 1920 then .ok (.d (.str (toString i))) else .no
  | .str x => .ok (.d (.str x))
  | _ => .no
def intsOf : List D → Option (List Int)
  | [] => some []
  | .int i :: r => (intsOf r).map (i :: ·)
  | _ :: _ => none
def boolsOf : List D → Option (List Bool)
  | [] => some []
  | .bool b :: r => (boolsOf r).map (b :: ·)
  | _ :: _ => none
def pSum : D → R L
  | .list xs => match intsOf xs with
    | some ns => nm ns.sum
    | none => .no
  | _ => .no
def pAll : D → R L
  | .list xs => match boolsOf xs with
    | some bs => bl (bs.all id)
    | none => .no
  | _ => .no
def tyOf : D → String
  | .none => "NoneType"
  | .bool _ => "bool"
  | .int _ => "int"
  | .str _ => "str"
  | .list _ => "list"
  | .tuple _ => "tuple"
  | .dict _ => "dict"
def pIsI (ty : String) (d : D) : R L := match d with
  | .dict _ => .no
  | _ => bl (tyOf d == ty || (ty == "int" && tyOf d == "bool"))
def firstAt (d : D) : List D → Option Nat
  | [] => none
  | z :: r => if PyData.eqv z d then some 0 else (firstAt d r).map (· + 1)
def pIndex : D → D → R L
  | .list ds, d => if eqOk d && eqOk (.list ds) then (match firstAt d ds with | some j => nm j | none => .no) else .no
  | .tuple ds, d => if eqOk d && eqOk (.tuple ds) then (match firstAt d ds with | some j => nm j | none => .no) else .no
  | _, _ => .no
/-- a key stored: its value changed where it stands, else put behind -/
def putD (kvs : List (D × D)) (k v : D) : List (D × D) :=
  if hasB kvs k then kvs.map fun p => if PyData.eqv p.1 k then (p.1, v) else p else kvs ++ [(k, v)]
def pairsOf : List D → Option (List (D × D))
  | [] => some []
  | .tuple [k, v] :: r => if (keyOf k).isSome then (pairsOf r).map ((k, v) :: ·) else none
  | _ :: _ => none
def mergeD (kvs : List (D × D)) : List (D × D) → List (D × D)
  | [] => kvs
  | (k, v) :: r => mergeD (putD kvs k v) r
/-- dict(list of pairs) -/
def pDict : D → R L
  | .list ds => match pairsOf ds with
    | some ps => .ok (.t (.dct (mergeD [] ps)))
    | none => .no
  | _ => .no
def pGet1 : D → D → R L
  | .dict kvs, k => if (keyOf k).isSome then .ok (.d ((lookD kvs k).getD .none)) else .no
  | _, _ => .no

/-- of one kind of sequence -/
def likeSeq : D → D → Bool
  | .list _, .list _ => true
  | .tuple _, .tuple _ => true
  | _, _ => false
/-- a.index(b) -/
def kIndex (f g : EV) : EV := fun s => (f s).bind fun r => (r.1.get r.2).bind fun d0 => (g r.2).bind fun q =>
  (r.1.get q.2).bind fun d => (q.1.get q.2).bind fun e => if likeSeq d0 d then (pIndex d e).bind fun l => .ok (l, q.2) else .no
def partOf : Option EV → Sl → R (Option Int × Sl)
  | none, s => .ok (none, s)
  | some f, s => (kG f s).bind fun r => match r.1 with
    | .int i => .ok (some i, r.2)
    | _ => .no
/-- a[lo:hi] -/
def kSl (f : EV) (lo hi : Option EV) : EV := fun s => (f s).bind fun r => (partOf lo r.2).bind fun a => (partOf hi a.2).bind fun b => (r.1.get b.2).bind fun d => (pSl a.1 b.1 d).bind fun l => .ok (l, b.2)
def isDct : D → Bool
  | .dict _ => true
  | _ => false
/-- d.get(k), d.get(k, x) -/
def kGet1 (f g : EV) : EV := fun s => (f s).bind fun r => (r.1.get r.2).bind fun d0 => if isDct d0 then (kS g r.2).bind fun q =>
  (r.1.get q.2).bind fun d => (match d with | .dict kvs => .ok (.d ((lookD kvs q.1).getD .none), q.2) | _ => .no) else .no
def kGet2 (f g h : EV) : EV := fun s => (f s).bind fun r => (r.1.get r.2).bind fun d0 => if isDct d0 then (kS g r.2).bind fun q => (kD h q.2).bind fun t =>
  (r.1.get t.2).bind fun d => (match d with | .dict kvs => .ok (.d ((lookD kvs q.1).getD t.1), t.2) | _ => .no) else .no

/-! ### calls -/
/-- a def: so many names, the places of the parameters that it changes, its body -/
structure Def where
  n : Nat
  io : List Nat
  body : SV
def outs (io : List Nat) (s : Sl) : R (List T) := match io with
  | [] => .ok []
  | i :: r => match s[i]? with
    | some (some t) => (outs r s).bind fun ts => .ok (t :: ts)
    | _ => .no
def endOf : Fl → R T
  | .nx => .ok (.val .none)
  | .rt t => .ok t
  | _ => .no
def Def.run (d : Def) (ts : List T) : R (T × List T) :=
  (d.body (ts.map some ++ List.replicate (d.n - ts.length) none)).bind fun r => (endOf r.1).bind fun t => (outs d.io r.2).bind fun os => .ok (t, os)
/-- an argument: a value; what a slot owns, to be changed; a function that a slot holds -/
inductive AR where
  | v (d : D)
  | io (i : Nat)
  | f (t : T)
abbrev CV := Sl → R (List AR × Sl)
def cNil : CV := fun s => .ok ([], s)
def cV (f : EV) (g : CV) : CV := fun s => (kD f s).bind fun r => (g r.2).bind fun q => .ok (.v r.1 :: q.1, q.2)
def cIo (i : Nat) (g : CV) : CV := fun s => (g s).bind fun q => .ok (.io i :: q.1, q.2)
/-- the arguments as the def gets them; the slots that are lent are empty meanwhile -/
def lend : List AR → Sl → R (List T × Sl)
  | [], s => .ok ([], s)
  | .v d :: r, s => (lend r s).bind fun q => .ok (.val d :: q.1, q.2)
  | .f t :: r, s => (lend r s).bind fun q => .ok (t :: q.1, q.2)
  | .io i :: r, s => match s[i]? with
    | some (some (.val _)) => .no
    | some (some t) => (lend r (s.set i none)).bind fun q => .ok (t :: q.1, q.2)
    | _ => .no
def back : List AR → List T → Sl → R Sl
  | [], [], s => .ok s
  | .io i :: r, t :: ts, s => back r ts (s.set i (some t))
  | .v _ :: r, ts, s => back r ts s
  | .f _ :: r, ts, s => back r ts s
  | _, _, _ => .no
def resL : T → L
  | .val d => .d d
  | t => .t t
def kCall (run : List T → R (T × List T)) (g : CV) : EV := fun s => (g s).bind fun q => (lend q.1 q.2).bind fun a => (run a.1).bind fun r =>
  (back q.1 r.2 a.2).bind fun s' => .ok (resL r.1, s')

/-! ### targets -/
def gN (i : Nat) : GV := fun d s => .ok (s.set i (some (.val d)))
def gAll : List GV → List D → Sl → R Sl
  | [], [], s => .ok s
  | g :: gs, d :: ds, s => (g d s).bind fun s' => gAll gs ds s'
  | _, _, _ => .no
def gT (gs : List GV) : GV := fun d s => match d with
  | .tuple ds => gAll gs ds s
  | _ => .no

/-! ### what is walked -/
abbrev IV := Sl → R (List D × Sl)
def iSeq (f : EV) : IV := fun s => (kD f s).bind fun r => (seqOf r.1).bind fun xs => .ok (xs, r.2)
def intR (lo : Int) (n : Nat) : List D := (List.range n).map fun i => .int (lo + (i : Nat))
def iRg1 (f : EV) : IV := fun s => (kD f s).bind fun r => match r.1 with
  | .int n => if n ≤ 16000000 ∧ -16000000 ≤ n then .ok (intR 0 n.toNat, r.2) else .no
  | _ => .no
def iRg2 (f g : EV) : IV := fun s => (kD f s).bind fun r => (kD g r.2).bind fun q => match r.1, q.1 with
  | .int a, .int b => if (-16000000 ≤ a ∧ a ≤ 16000000) ∧ (-16000000 ≤ b ∧ b ≤ 16000000) then .ok (intR a (b - a).toNat, q.2) else .no
  | _, _ => .no
def enumD (k : Nat) : List D → List D
  | [] => []
  | x :: r => .tuple [.int (k : Nat), x] :: enumD (k + 1) r
def iEnum (f : EV) : IV := fun s => (iSeq f s).bind fun r => .ok (enumD 0 r.1, r.2)
def zipD : List D → List D → List D
  | x :: r, y :: q => .tuple [x, y] :: zipD r q
  | _, _ => []
def iZip (f g : EV) : IV := fun s => (kD f s).bind fun r => (kD g r.2).bind fun q => match r.1, q.1 with
  | .list xs, .list ys => .ok (zipD xs ys, q.2)
  | .tuple xs, .tuple ys => .ok (zipD xs ys, q.2)
  | _, _ => .no

/-! ### statements -/
def sNil : SV := fun s => .ok (.nx, s)
def sCons (f g : SV) : SV := fun s => (f s).bind fun r => match r.1 with
  | .nx => g r.2
  | fl => .ok (fl, r.2)
/-- a value comes into a slot -/
def setL (i : Nat) : L → Sl → R Sl
  | .d x, s => .ok (s.set i (some (.val x)))
  | .t x, s => .ok (s.set i (some x))
  | .o j, s => match s[j]? with
    | some (some t) => .ok ((s.set j none).set i (some t))
    | _ => .no
def sSet (i : Nat) (f : EV) : SV := fun s => (f s).bind fun r => (setL i r.1 r.2).bind fun s' => .ok (.nx, s')
/-- a, b, .. = e -/
def sUnp (g : GV) (f : EV) : SV := fun s => (kD f s).bind fun r => (g r.1 r.2).bind fun s' => .ok (.nx, s')
/-- a, b = e, f -/
def sPar2 (i j : Nat) (f g : EV) : SV := fun s => (f s).bind fun r => (g r.2).bind fun q => (setL i r.1 q.2).bind fun s1 => (setL j q.1 s1).bind fun s2 => .ok (.nx, s2)
def sDrop (f : EV) : SV := fun s => (f s).bind fun r => .ok (.nx, r.2)
def retL : L → Sl → R T
  | .d x, _ => .ok (.val x)
  | .t x, _ => .ok x
  | .o j, s => match s[j]? with
    | some (some t) => .ok t
    | _ => .no
def dropL : L → Sl → Sl
  | .o j, s => s.set j none
  | _, s => s
def sRet (f : EV) : SV := fun s => (f s).bind fun r => (retL r.1 r.2).bind fun t => .ok (.rt t, dropL r.1 r.2)
def sRetN : SV := fun s => .ok (.rt (.val .none), s)
def sIf (c : BV) (f g : SV) : SV := fun s => (c s).bind fun r => if r.1 then f r.2 else g r.2
def sBrk : SV := fun s => .ok (.bk, s)
def sCnt : SV := fun s => .ok (.ct, s)
def forD (g : GV) (b : SV) : List D → SV
  | [], s => .ok (.nx, s)
  | x :: xs, s => (g x s).bind fun s1 => (b s1).bind fun r => match r.1 with
    | .nx => forD g b xs r.2
    | .ct => forD g b xs r.2
    | .bk => .ok (.nx, r.2)
    | .rt t => .ok (.rt t, r.2)
def sFor (it : IV) (g : GV) (b : SV) : SV := fun s => (it s).bind fun r => forD g b r.1 r.2
def whileD (c : BV) (b : SV) : Nat → SV
  | 0, _ => .no
  | n + 1, s => (c s).bind fun r => if r.1 then (b r.2).bind fun q => (match q.1 with
      | .nx => whileD c b n q.2
      | .ct => whileD c b n q.2
      | .bk => .ok (.nx, q.2)
      | .rt t => .ok (.rt t, q.2)) else .ok (.nx, r.2)
/-- so many turns at most -/
def fuel : Nat := 1000000
def sWhile (c : BV) (b : SV) : SV := whileD c b fuel
/-- x.append(e) -/
def sApp (i : Nat) (f : EV) : SV := fun s => (kD f s).bind fun r => match r.2[i]? with
  | some (some (.lst xs)) => if szOk (xs.length + 1) then .ok (.nx, r.2.set i (some (.lst (xs ++ [r.1])))) else .no
  | _ => .no
/-- x.extend(e), e a list or tuple that is not x -/
def sExt (i : Nat) (f : EV) : SV := fun s => (kD f s).bind fun r => (seqOf r.1).bind fun ys => match r.2[i]? with
  | some (some (.lst xs)) => if szOk (xs.length + ys.length) then .ok (.nx, r.2.set i (some (.lst (xs ++ ys)))) else .no
  | _ => .no
/-- x[k] = e -/
def sPut (i : Nat) (k f : EV) : SV := fun s => (kD f s).bind fun r => (kD k r.2).bind fun q => match q.2[i]? with
  | some (some (.lst xs)) => (match q.1 with
    | .int j => match ixD xs.length j with
      | some m => .ok (.nx, q.2.set i (some (.lst (xs.set m r.1))))
      | none => .no
    | _ => .no)
  | some (some (.dct kvs)) => if (keyOf q.1).isSome && szOk (kvs.length + 1) then .ok (.nx, q.2.set i (some (.dct (putD kvs q.1 r.1)))) else .no
  | _ => .no
/-- x.pop(), x.pop(k) -/
def kPop (i : Nat) : EV := fun s => match s[i]? with
  | some (some (.lst xs)) => match xs.getLast? with
    | some d => .ok (.d d, s.set i (some (.lst xs.dropLast)))
    | none => .no
  | _ => .no
def kPopI (i : Nat) (f : EV) : EV := fun s => (kD f s).bind fun r => match r.2[i]?, r.1 with
  | some (some (.lst xs)), .int j => if 0 ≤ j then (match xs[j.toNat]? with
    | some d => .ok (.d d, r.2.set i (some (.lst (xs.eraseIdx j.toNat))))
    | none => .no) else .no
  | _, _ => .no
/-- x += e of numbers, texts, tuples -/
def sAug (p : D → D → R L) (i : Nat) (f : EV) : SV := fun s => match s[i]? with
  | some (some (.val d)) => (kD f s).bind fun r => (p d r.1).bind fun l => match l with
    | .d x => .ok (.nx, r.2.set i (some (.val x)))
    | _ => .no
  | _ => .no

/-! ### comprehensions -/
def wipeD (s : Sl) : List Nat → Sl
  | [] => s
  | i :: r => (wipeD s r).set i none
def compD (g : GV) (c : Option BV) (f : EV) (own : List Nat) : List D → Sl → R (List D × Sl)
  | [], s => .ok ([], s)
  | x :: xs, s => (g x (wipeD s own)).bind fun s1 => (match c with | some b => b s1 | none => .ok (true, s1)).bind fun r =>
      if r.1 then (kD f r.2).bind fun q => (compD g c f own xs (wipeD q.2 own)).bind fun t => .ok (q.1 :: t.1, t.2)
      else compD g c f own xs (wipeD r.2 own)
def kComp (it : IV) (g : GV) (c : Option BV) (f : EV) (own : List Nat) : EV := fun s => (it s).bind fun r => (compD g c f own r.1 r.2).bind fun q =>
  if szOk q.1.length then .ok (.t (.lst q.1), q.2) else .no
end KV

set_option Elab.async false
set_option linter.all false
set_option maxRecDepth 100000
/-! KVB: what stands for what: values, slots, what a step leaves. -/
namespace KV
open PySem L2

def Sub (H H' : Hp) : Prop := ∀ a o, H a = some o → H' a = some o
theorem Sub.refl (H : Hp) : Sub H H := fun _ _ h => h
theorem Sub.trans {H H1 H2 : Hp} (a : Sub H H1) (b : Sub H1 H2) : Sub H H2 := fun x o h => b x o (a x o h)
theorem Sub.upd {H : Hp} {p : Addr} {o : HO} (h : H p = none) : Sub H (upd H p o) := fun a u e => by
  rw [upd_ne (ne_of_none e h)]; exact e
theorem Sub.updB {H H' : Hp} {p : Addr} {o : HO} (s : Sub H H') : Sub (L2.upd H p o) (L2.upd H' p o) := fun a u e => by
  by_cases h : a = p
  · subst h; rw [upd_same] at e ⊢; exact e
  · rw [upd_ne h] at e ⊢; exact s a u e
theorem Sub.rd {H H' : Hp} {a : Addr} {o : HO} (s : Sub H H') (h : Rd H a o) : Rd H' a o := by
  rcases h with h | ⟨u, h⟩
  · exact .inl (s _ _ h)
  · exact .inr ⟨u, s _ _ h⟩
theorem Sub.sqL {K : PySem.W.Frag} {H H' : Hp} {a : Addr} {xs : List V} (s : Sub H H') (h : SqL K H a xs) : SqL K H' a xs := by
  rcases h with h | h
  · exact .inl (s.rd h)
  · exact .inr h
theorem Sub.sqT {K : PySem.W.Frag} {H H' : Hp} {a : Addr} {xs : List V} (s : Sub H H') (h : SqT K H a xs) : SqT K H' a xs := by
  rcases h with h | h
  · exact .inl (s.rd h)
  · exact .inr h

/-- a tuple that stands, its object known to have no dict of its own -/
def STup (K : PySem.W.Frag) (H : Hp) (a : Addr) (vs : List V) : Prop :=
  (∃ o, H a = some (.frz o (.tup vs)) ∧ o.dict = none) ∨
    ∃ (o : Obj) (its : Array Value) (n : Nat), K.lookup a = some o ∧ o.cls = .type "tuple" ∧ o.dict = none ∧ o.data = .seq its n ∧ its.size ≤ sizeLine ∧ Vals vs its.toList
theorem Sub.stup {K : PySem.W.Frag} {H H' : Hp} {a : Addr} {xs : List V} (s : Sub H H') (h : STup K H a xs) : STup K H' a xs := by
  rcases h with ⟨o, h, d⟩ | h
  · exact .inl ⟨o, s _ _ h, d⟩
  · exact .inr h
theorem STup.sq {K : PySem.W.Frag} {H : Hp} {a : Addr} {xs : List V} (h : STup K H a xs) : SqT K H a xs := by
  rcases h with ⟨o, h, d⟩ | ⟨o, its, n, h1, h2, h3, h4, h5, h6⟩
  · exact .inl (.inr ⟨o, h⟩)
  · exact .inr ⟨o, its, n, h1, h2, h4, h5, h6⟩

def keyD : Key → D
  | .inl i => .int i
  | .inr x => .str x

mutual
/-- v stands for d in the heap H of what is shared -/
inductive Rp (K : PySem.W.Frag) (H : Hp) : V → D → Prop
  | non : Rp K H .non .none
  | bl (b : Bool) : Rp K H (.bl b) (.bool b)
  | int (i : Int) : Rp K H (.int i) (.int i)
  | str (x : Str) : Rp K H (.str x) (.str x)
  | lst {a : Addr} {vs : List V} {ds : List D} : H a = some (.lst vs) → RpA K H vs ds → Rp K H (.ref a) (.list ds)
  | tup {a : Addr} {vs : List V} {ds : List D} : STup K H a vs → RpA K H vs ds → Rp K H (.ref a) (.tuple ds)
  | dct {a : Addr} {kvs : List (Key × V)} {ds : List (D × D)} : Rd H a (.dK kvs) → RpKv K H kvs ds → Rp K H (.ref a) (.dict ds)
inductive RpA (K : PySem.W.Frag) (H : Hp) : List V → List D → Prop
  | nil : RpA K H [] []
  | cons {v : V} {d : D} {vs : List V} {ds : List D} : Rp K H v d → RpA K H vs ds → RpA K H (v :: vs) (d :: ds)
inductive RpKv (K : PySem.W.Frag) (H : Hp) : List (Key × V) → List (D × D) → Prop
  | nil : RpKv K H [] []
  | cons {k : Key} {v : V} {d : D} {kvs : List (Key × V)} {ds : List (D × D)} : Rp K H v d → RpKv K H kvs ds → RpKv K H ((k, v) :: kvs) ((keyD k, d) :: ds)
end
section
variable {K : PySem.W.Frag} {H H' : Hp}
mutual
theorem Rp.mono (s : Sub H H') : ∀ {v : V} {d : D}, Rp K H v d → Rp K H' v d
  | _, _, .non => .non
  | _, _, .bl b => .bl b
  | _, _, .int i => .int i
  | _, _, .str x => .str x
  | _, _, .lst h r => .lst (s _ _ h) (RpA.mono s r)
  | _, _, .tup h r => .tup (s.stup h) (RpA.mono s r)
  | _, _, .dct h r => .dct (s.rd h) (RpKv.mono s r)
theorem RpA.mono (s : Sub H H') : ∀ {vs : List V} {ds : List D}, RpA K H vs ds → RpA K H' vs ds
  | _, _, .nil => .nil
  | _, _, .cons h r => .cons (h.mono s) (RpA.mono s r)
theorem RpKv.mono (s : Sub H H') : ∀ {vs : List (Key × V)} {ds : List (D × D)}, RpKv K H vs ds → RpKv K H' vs ds
  | _, _, .nil => .nil
  | _, _, .cons h r => .cons (h.mono s) (RpKv.mono s r)
end
theorem RpA.length : ∀ {vs : List V} {ds : List D}, RpA K H vs ds → vs.length = ds.length
  | _, _, .nil => rfl
  | _, _, .cons _ r => by simp [RpA.length r]
theorem RpA.append : ∀ {vs ws : List V} {ds es : List D}, RpA K H vs ds → RpA K H ws es → RpA K H (vs ++ ws) (ds ++ es)
  | _, _, _, _, .nil, r => r
  | _, _, _, _, .cons h t, r => .cons h (RpA.append t r)
theorem RpA.get : ∀ {vs : List V} {ds : List D} {i : Nat} {d : D}, RpA K H vs ds → ds[i]? = some d → ∃ v, vs[i]? = some v ∧ Rp K H v d
  | _, _, _, _, .nil, e => by simp at e
  | _, _, 0, _, .cons h _, e => by simp at e; subst e; exact ⟨_, rfl, h⟩
  | _, _, i + 1, _, .cons _ t, e => by
    obtain ⟨v, h1, h2⟩ := RpA.get (i := i) t (by simpa using e)
    exact ⟨v, by simpa using h1, h2⟩
theorem RpA.drop : ∀ {vs : List V} {ds : List D} (n : Nat), RpA K H vs ds → RpA K H (vs.drop n) (ds.drop n)
  | _, _, 0, r => r
  | _, _, _ + 1, .nil => .nil
  | _, _, n + 1, .cons _ t => RpA.drop n t
theorem RpA.take : ∀ {vs : List V} {ds : List D} (n : Nat), RpA K H vs ds → RpA K H (vs.take n) (ds.take n)
  | _, _, 0, _ => .nil
  | _, _, _ + 1, .nil => .nil
  | _, _, n + 1, .cons h t => .cons h (RpA.take n t)
theorem RpA.rev : ∀ {vs : List V} {ds : List D}, RpA K H vs ds → RpA K H vs.reverse ds.reverse
  | _, _, .nil => .nil
  | _, _, .cons h t => by
    rw [List.reverse_cons, List.reverse_cons]
    exact RpA.append (RpA.rev t) (.cons h .nil)
theorem RpA.set {v : V} {d : D} (h : Rp K H v d) : ∀ {vs : List V} {ds : List D} (n : Nat), RpA K H vs ds → RpA K H (vs.set n v) (ds.set n d)
  | _, _, _, .nil => .nil
  | _, _, 0, .cons _ t => .cons h t
  | _, _, n + 1, .cons q t => .cons q (RpA.set h n t)
theorem RpA.erase : ∀ {vs : List V} {ds : List D} (n : Nat), RpA K H vs ds → RpA K H (vs.eraseIdx n) (ds.eraseIdx n)
  | _, _, _, .nil => .nil
  | _, _, 0, .cons _ t => t
  | _, _, n + 1, .cons q t => .cons q (RpA.erase n t)
theorem RpA.rep {vs : List V} {ds : List D} (h : RpA K H vs ds) : ∀ n : Nat, RpA K H (List.replicate n vs).flatten (List.replicate n ds).flatten
  | 0 => .nil
  | n + 1 => by
    rw [List.replicate_succ, List.replicate_succ, List.flatten_cons, List.flatten_cons]
    exact h.append (RpA.rep h n)
theorem RpA.dropLast : ∀ {vs : List V} {ds : List D}, RpA K H vs ds → RpA K H vs.dropLast ds.dropLast := fun {vs ds} h => by
  rw [List.dropLast_eq_take, List.dropLast_eq_take, h.length]
  exact h.take _
theorem RpKv.length : ∀ {vs : List (Key × V)} {ds : List (D × D)}, RpKv K H vs ds → vs.length = ds.length
  | _, _, .nil => rfl
  | _, _, .cons _ r => by simp [RpKv.length r]
end

/-- what is fixed: the written part; which functions may be called, and how they answer -/
structure Wd where
  K : PySem.W.Frag
  CL : Hp → V → Nat → (List D → R D) → Prop
  mono : ∀ {H H' : Hp} {v : V} {n : Nat} {f : List D → R D}, Sub H H' → CL H v n f → CL H' v n f

def srcKv (b : Addr) (S : Src) : List (Key × V) :=
  [(Sum.inr "cells", .ref b), (Sum.inr "left", .int S.left), (Sum.inr "mixed", .int S.mixed), (Sum.inr "turn", .int S.turn)]

def tabKv (t : Tab) (b c d : Addr) : List (Key × V) := [(Sum.inr t.x, .ref b), (Sum.inr t.y, .ref c), (Sum.inr t.z, .ref d)]

/-- v stands for what is owned: at these places, told by H; Hf is what is shared -/
inductive OR (w : Wd) (Hf H : Hp) : V → T → List Addr → Prop
  | val {v : V} {d : D} : Rp w.K Hf v d → OR w Hf H v (.val d) []
  | lst {a : Addr} {vs : List V} {ds : List D} : H a = some (.lst vs) → RpA w.K Hf vs ds → OR w Hf H (.ref a) (.lst ds) [a]
  | dct {a : Addr} {kvs : List (Key × V)} {ds : List (D × D)} : H a = some (.dK kvs) → RpKv w.K Hf kvs ds → OR w Hf H (.ref a) (.dct ds) [a]
  | src {a b : Addr} {S : Src} : H a = some (.dK (srcKv b S)) → H b = some (.lst (S.cells.map V.int)) → OR w Hf H (.ref a) (.src S) [a, b]
  | clo {v : V} {n : Nat} {f : List D → R D} : w.CL Hf v n f → OR w Hf H v (.clo n f) []
  | scr {a : Addr} {ns : List Int} : SqL w.K Hf a (ns.map V.int) → OR w Hf H (.ref a) (.scr ns) []
  | tab {a b c d : Addr} {kb kc kd : List (Key × V)} {t : Tab} : H a = some (.dK (tabKv t b c d)) → H b = some (.dK kb) → H c = some (.dK kc) → H d = some (.dK kd) → RpKv w.K Hf kb t.p → RpKv w.K Hf kc t.q → RpKv w.K Hf kd t.r → [a, b, c, d].Nodup → OR w Hf H (.ref a) (.tab t) [a, b, c, d]
section
variable {w : Wd} {Hf Hf' H H' : Hp} {v : V} {t : T} {F : List Addr}
theorem OR.there (h : OR w Hf H v t F) : ∀ a ∈ F, ∃ o, H a = some o := by
  cases h with
  | val _ => intro a ha; cases ha
  | lst h _ => intro a ha; rw [List.mem_singleton] at ha; subst ha; exact ⟨_, h⟩
  | dct h _ => intro a ha; rw [List.mem_singleton] at ha; subst ha; exact ⟨_, h⟩
  | src h1 h2 =>
    intro a ha
    rcases List.mem_cons.mp ha with e | ha
    · subst e; exact ⟨_, h1⟩
    · rw [List.mem_singleton] at ha; subst ha; exact ⟨_, h2⟩
  | clo _ => intro a ha; cases ha
  | scr _ => intro a ha; cases ha
  | tab h1 h2 h3 h4 _ _ _ _ =>
    intro a ha
    simp only [List.mem_cons, List.not_mem_nil, or_false] at ha
    rcases ha with e | e | e | e <;> subst e
    · exact ⟨_, h1⟩
    · exact ⟨_, h2⟩
    · exact ⟨_, h3⟩
    · exact ⟨_, h4⟩
theorem OR.stay (h : OR w Hf H v t F) (s : Sub Hf Hf') (k : ∀ a ∈ F, ∀ o, H a = some o → H' a = some o) : OR w Hf' H' v t F := by
  cases h with
  | val r => exact .val (r.mono s)
  | lst h r => exact .lst (k _ (by simp) _ h) (r.mono s)
  | dct h r => exact .dct (k _ (by simp) _ h) (r.mono s)
  | src h1 h2 => exact .src (k _ (by simp) _ h1) (k _ (by simp) _ h2)
  | clo c => exact .clo (w.mono s c)
  | scr c => exact .scr (s.sqL c)
  | tab h1 h2 h3 h4 r1 r2 r3 nd => exact .tab (k _ (by simp) _ h1) (k _ (by simp) _ h2) (k _ (by simp) _ h3) (k _ (by simp) _ h4) (r1.mono s) (r2.mono s) (r3.mono s) nd
end

/-- whose it is -/
def Own (s : Sl) (φ : Nat → List Addr) (a : Addr) : Prop := ∃ i t, s[i]? = some (some t) ∧ a ∈ φ i
structure Good (w : Wd) (σ : St) (H Hf : Hp) (s : Sl) (φ : Nat → List Addr) : Prop where
  sub : Sub Hf H
  len : s.length = σ.length
  here : ∀ i t, s[i]? = some (some t) → ∃ v, σ[i]? = some (some v) ∧ OR w Hf H v t (φ i)
  fr : ∀ i t a, s[i]? = some (some t) → a ∈ φ i → Hf a = none
  dj : ∀ i j t u a, s[i]? = some (some t) → s[j]? = some (some u) → a ∈ φ i → a ∈ φ j → i = j
structure Stp (H Hf : Hp) (P : Addr → Prop) (H' Hf' : Hp) (P' : Addr → Prop) : Prop where
  sub : Sub Hf Hf'
  keep : ∀ a o, H a = some o → ¬ P a → H' a = some o
  new : ∀ a, (P' a ∨ Hf' a ≠ none) → P a ∨ Hf a ≠ none ∨ H a = none
theorem Stp.refl {H Hf : Hp} {P : Addr → Prop} : Stp H Hf P H Hf P := ⟨Sub.refl _, fun _ _ h _ => h, fun _ h => h.elim .inl fun h => .inr (.inl h)⟩
theorem Stp.trans {H Hf H1 Hf1 H2 Hf2 : Hp} {P P1 P1' P2 : Addr → Prop} (a : Stp H Hf P H1 Hf1 P1') (b : Stp H1 Hf1 P1 H2 Hf2 P2) (hp : ∀ x, P1 x → P1' x) (hf : ∀ x, P1 x → Hf1 x = none) : Stp H Hf P H2 Hf2 P2 := by
  refine ⟨a.sub.trans b.sub, fun x o h hn => b.keep x o (a.keep x o h hn) fun hx => ?_, fun x hx => ?_⟩
  · rcases a.new x (.inl (hp x hx)) with h1 | h1 | h1
    · exact hn h1
    · cases e : Hf x with
      | none => exact h1 e
      | some u =>
        have := a.sub x u e
        rw [hf x hx] at this; cases this
    · rw [h] at h1; cases h1
  · rcases b.new x hx with h1 | h1 | h1
    · exact a.new x (.inl (hp x h1))
    · exact a.new x (.inr h1)
    · by_cases hP : P x
      · exact .inl hP
      · cases e : H x with
        | none => exact .inr (.inr rfl)
        | some u => rw [a.keep x u e hP] at h1; cases h1
theorem Stp.weak {H Hf H' Hf' : Hp} {P P' P2 : Addr → Prop} (a : Stp H Hf P H' Hf' P') (hp : ∀ x, P2 x → P' x) : Stp H Hf P H' Hf' P2 :=
  ⟨a.sub, a.keep, fun x h => a.new x (h.imp (hp x) id)⟩
section
variable {w : Wd} {σ : St} {H Hf H' Hf' : Hp} {s s' : Sl} {φ φ' : Nat → List Addr}
theorem Good.own_some (g : Good w σ H Hf s φ) {a : Addr} (h : Own s φ a) : ∃ o, H a = some o := by
  obtain ⟨i, t, e, m⟩ := h
  obtain ⟨v, _, r⟩ := g.here i t e
  exact r.there a m
theorem Good.own_free (g : Good w σ H Hf s φ) {a : Addr} (h : Own s φ a) : Hf a = none := by
  obtain ⟨i, t, e, m⟩ := h
  exact g.fr i t a e m
theorem Good.own_ne (g : Good w σ H Hf s φ) {a : Addr} (h : H a = none) : ¬ Own s φ a := fun q => by
  obtain ⟨o, e⟩ := g.own_some q
  rw [h] at e; cases e
theorem Good.hf_none (g : Good w σ H Hf s φ) {a : Addr} (h : H a = none) : Hf a = none := by
  cases e : Hf a with
  | none => rfl
  | some u => rw [g.sub a u e] at h; cases h

/-- a value on the way -/
inductive RL (w : Wd) (σ : St) (Hf H : Hp) (s : Sl) (φ : Nat → List Addr) : V → L → List Addr → Prop
  | d {v : V} {x : D} : Rp w.K Hf v x → RL w σ Hf H s φ v (.d x) []
  | o {v : V} {i : Nat} : σ[i]? = some (some v) → RL w σ Hf H s φ v (.o i) []
  | t {v : V} {x : T} {F : List Addr} : OR w Hf H v x F → (∀ a ∈ F, Hf a = none ∧ ¬ Own s φ a) → RL w σ Hf H s φ v (.t x) F
theorem RL.stay {v : V} {l : L} {F : List Addr} {P' : Addr → Prop} (r : RL w σ Hf H s φ v l F) (k : Stp H Hf (Own s φ) H' Hf' P') (hp : ∀ a, Own s' φ' a → P' a) : RL w σ Hf' H' s' φ' v l F := by
  cases r with
  | d r => exact .d (r.mono k.sub)
  | o e => exact .o e
  | t r c =>
    refine .t (r.stay k.sub fun a ha o e => k.keep a o e (c a ha).2) fun a ha => ?_
    obtain ⟨o, e⟩ := r.there a ha
    have no : ¬ (P' a ∨ Hf' a ≠ none) := fun q => by
      rcases k.new a q with h1 | h1 | h1
      · exact (c a ha).2 h1
      · exact h1 (c a ha).1
      · rw [e] at h1; cases h1
    refine ⟨?_, fun q => no (.inl (hp a q))⟩
    cases q : Hf' a with
    | none => rfl
    | some u => exact (no (.inr (by rw [q]; simp))).elim

/-- a value that may be read now, its parts shared -/
inductive Rw (K : PySem.W.Frag) (Hf H : Hp) : V → D → Prop
  | st {v : V} {d : D} : Rp K Hf v d → Rw K Hf H v d
  | lst {a : Addr} {vs : List V} {ds : List D} : H a = some (.lst vs) → RpA K Hf vs ds → Rw K Hf H (.ref a) (.list ds)
  | dct {a : Addr} {kvs : List (Key × V)} {ds : List (D × D)} : Rd H a (.dK kvs) → RpKv K Hf kvs ds → Rw K Hf H (.ref a) (.dict ds)
theorem OR.rw {v : V} {t : T} {F : List Addr} {d : D} (h : OR w Hf H v t F) (e : t.toD = .ok d) : Rw w.K Hf H v d := by
  cases h with
  | val r => cases e; exact .st r
  | lst h r => cases e; exact .lst h r
  | dct h r => cases e; exact .dct (.inl h) r
  | src _ _ => cases e
  | clo _ => cases e
  | scr _ => cases e
  | tab _ _ _ _ _ _ _ _ => cases e
theorem RL.rw {v : V} {l : L} {F : List Addr} {d : D} (r : RL w σ Hf H s φ v l F) (g : Good w σ H Hf s φ) (e : l.get s = .ok d) : Rw w.K Hf H v d := by
  cases r with
  | d r => cases e; exact .st r
  | o h =>
    rename_i i
    simp only [L.get] at e
    split at e
    · rename_i u hu
      obtain ⟨v', e1, r⟩ := g.here i u hu
      rw [h] at e1; cases e1
      exact r.rw e
    · cases e
  | t r c => exact r.rw e
theorem Rw.tup {K : PySem.W.Frag} {v : V} {ds : List D} (r : Rw K Hf H v (.tuple ds)) (s : Sub Hf H) : ∃ a vs, v = .ref a ∧ STup K H a vs ∧ RpA K Hf vs ds := by
  cases r with
  | st r => cases r with
    | tup h r => exact ⟨_, _, rfl, s.stup h, r⟩
theorem Rw.list {K : PySem.W.Frag} {v : V} {ds : List D} (r : Rw K Hf H v (.list ds)) (s : Sub Hf H) : ∃ a vs, v = .ref a ∧ H a = some (.lst vs) ∧ RpA K Hf vs ds := by
  cases r with
  | st r => cases r with
    | lst h r => exact ⟨_, _, rfl, s _ _ h, r⟩
  | lst h r => exact ⟨_, _, rfl, h, r⟩
theorem Rw.dict {K : PySem.W.Frag} {v : V} {ds : List (D × D)} (r : Rw K Hf H v (.dict ds)) (s : Sub Hf H) : ∃ a kvs, v = .ref a ∧ Rd H a (.dK kvs) ∧ RpKv K Hf kvs ds := by
  cases r with
  | st r => cases r with
    | dct h r => exact ⟨_, _, rfl, s.rd h, r⟩
  | dct h r => exact ⟨_, _, rfl, h, r⟩
theorem Rw.tupR {K : PySem.W.Frag} {v : V} {ds : List D} (r : Rw K Hf H v (.tuple ds)) : Rp K Hf v (.tuple ds) := by
  cases r with
  | st r => exact r
theorem Rw.int {K : PySem.W.Frag} {v : V} {i : Int} (r : Rw K Hf H v (.int i)) : v = .int i := by
  cases r with
  | st r => cases r; rfl
theorem Rw.str {K : PySem.W.Frag} {v : V} {x : Str} (r : Rw K Hf H v (.str x)) : v = .str x := by
  cases r with
  | st r => cases r; rfl
theorem Rw.bool {K : PySem.W.Frag} {v : V} {b : Bool} (r : Rw K Hf H v (.bool b)) : v = .bl b := by
  cases r with
  | st r => cases r; rfl
theorem Rw.none {K : PySem.W.Frag} {v : V} (r : Rw K Hf H v .none) : v = .non := by
  cases r with
  | st r => cases r; rfl

/-! ### new objects -/
theorem Good.updH (g : Good w σ H Hf s φ) {p : Addr} {o : HO} (h : H p = none) : Good w σ (upd H p o) Hf s φ := by
  refine ⟨g.sub.trans (Sub.upd h), g.len, fun i t e => ?_, g.fr, g.dj⟩
  obtain ⟨v, e1, r⟩ := g.here i t e
  exact ⟨v, e1, r.stay (Sub.refl _) fun a _ o e => Sub.upd h a o e⟩
theorem Good.updB (g : Good w σ H Hf s φ) {p : Addr} {o : HO} (h : H p = none) : Good w σ (upd H p o) (upd Hf p o) s φ := by
  have hf := g.hf_none h
  refine ⟨Sub.updB g.sub, g.len, fun i t e => ?_, fun i t a e m => ?_, g.dj⟩
  · obtain ⟨v, e1, r⟩ := g.here i t e
    exact ⟨v, e1, r.stay (Sub.upd hf) fun a _ o e => Sub.upd h a o e⟩
  · have : a ≠ p := fun z => g.own_ne h ⟨i, t, e, z ▸ m⟩
    rw [upd_ne this]
    exact g.fr i t a e m
theorem Stp.updH {P P' : Addr → Prop} {p : Addr} {o : HO} (h : H p = none) (hp : ∀ a, P' a → P a ∨ a = p) : Stp H Hf P (upd H p o) Hf P' :=
  ⟨Sub.refl _, fun a u e _ => Sub.upd h a u e, fun a q => q.elim (fun q => (hp a q).elim .inl fun z => .inr (.inr (z ▸ h))) fun q => .inr (.inl q)⟩
theorem Stp.updB {P : Addr → Prop} {p : Addr} {o : HO} (h : H p = none) (hf : Hf p = none) : Stp H Hf P (upd H p o) (upd Hf p o) P :=
  ⟨Sub.upd hf, fun a u e _ => Sub.upd h a u e, fun a q => q.elim .inl fun q => by
    by_cases z : a = p
    · exact .inr (.inr (z ▸ h))
    · rw [upd_ne z] at q; exact .inr (.inl q)⟩

/-- what follows an expression's value -/
def PQ (w : Wd) (σ : St) (H Hf : Hp) (s : Sl) (φ : Nat → List Addr) (s' : Sl) (l : L) (Q : VK) : Prop :=
  ∀ v H' Hf' φ' F, Good w σ H' Hf' s' φ' → RL w σ Hf' H' s' φ' v l F → Stp H Hf (Own s φ) H' Hf' (fun a => Own s' φ' a ∨ a ∈ F) → Q v H'
theorem PQ.d {v : V} {x : D} {Q : VK} (q : PQ w σ H Hf s φ s (.d x) Q) (g : Good w σ H Hf s φ) (r : Rp w.K Hf v x) : Q v H :=
  q v H Hf φ [] g (.d r) (Stp.refl.weak fun a h => h.elim id fun z => nomatch z)
theorem PQ.tup {vs : List V} {ds : List D} {Q : VK} {p : Addr} (q : PQ w σ H Hf s φ s (.d (.tuple ds)) Q) (g : Good w σ H Hf s φ) (r : RpA w.K Hf vs ds) (h : H p = none) {o : Obj} (ho : o.dict = none) : Q (.ref p) (upd H p (.frz o (.tup vs))) := by
  have hf := g.hf_none h
  exact q _ _ (upd Hf p (.frz o (.tup vs))) φ [] (g.updB h) (.d (.tup (.inl ⟨o, upd_same, ho⟩) (r.mono (Sub.upd hf)))) ((Stp.updB h hf).weak fun a h => h.elim id fun z => nomatch z)
theorem PQ.lst {vs : List V} {ds : List D} {Q : VK} {p : Addr} (q : PQ w σ H Hf s φ s (.t (.lst ds)) Q) (g : Good w σ H Hf s φ) (r : RpA w.K Hf vs ds) (h : H p = none) : Q (.ref p) (upd H p (.lst vs)) :=
  q _ _ Hf φ [p] (g.updH h) (.t (.lst upd_same r) fun a ha => by
    rw [List.mem_singleton] at ha; subst ha
    exact ⟨g.hf_none h, g.own_ne h⟩) (Stp.updH h fun a z => z.imp id fun z => by simpa using z)
theorem PQ.dct {kvs : List (Key × V)} {ds : List (D × D)} {Q : VK} {p : Addr} (q : PQ w σ H Hf s φ s (.t (.dct ds)) Q) (g : Good w σ H Hf s φ) (r : RpKv w.K Hf kvs ds) (h : H p = none) : Q (.ref p) (upd H p (.dK kvs)) :=
  q _ _ Hf φ [p] (g.updH h) (.t (.dct upd_same r) fun a ha => by
    rw [List.mem_singleton] at ha; subst ha
    exact ⟨g.hf_none h, g.own_ne h⟩) (Stp.updH h fun a z => z.imp id fun z => by simpa using z)
/-- the rest of a way, behind a first part -/
theorem PQ.later {Q : VK} {l : L} {s1 : Sl} {H1 Hf1 : Hp} {φ1 : Nat → List Addr} {P1 : Addr → Prop} (q : PQ w σ H Hf s φ s' l Q) (k : Stp H Hf (Own s φ) H1 Hf1 P1) (hp : ∀ a, Own s1 φ1 a → P1 a) (g1 : Good w σ H1 Hf1 s1 φ1) : PQ w σ H1 Hf1 s1 φ1 s' l Q :=
  fun v H' Hf' φ' F g r k' => q v H' Hf' φ' F g r (k.trans k' hp fun x hx => g1.own_free hx)

/-! ### for good: what was owned is shared -/
theorem freeze_slot (g : Good w σ H Hf s φ) {i : Nat} {t : T} {d : D} (h : s[i]? = some (some t)) (e : t.toD = .ok d) :
    ∃ v Hf', σ[i]? = some (some v) ∧ Rp w.K Hf' v d ∧ Good w σ H Hf' (s.set i (some (.val d))) (fun j => if j = i then [] else φ j) ∧
      Stp H Hf (Own s φ) H Hf' (Own (s.set i (some (.val d))) (fun j => if j = i then [] else φ j)) := by
  obtain ⟨v, e1, r⟩ := g.here i t h
  have hi : i < s.length := (List.getElem?_eq_some_iff.mp h).1
  have get : ∀ {j u}, (s.set i (some (.val d)))[j]? = some (some u) → j = i ∧ u = .val d ∨ j ≠ i ∧ s[j]? = some (some u) := fun {j u} q => by
    by_cases z : j = i
    · subst z
      rw [List.getElem?_set_self hi] at q
      cases q
      exact .inl ⟨rfl, rfl⟩
    · rw [List.getElem?_set_ne (Ne.symm z)] at q
      exact .inr ⟨z, q⟩
  have core : ∀ Hf', Sub Hf Hf' → Sub Hf' H → Rp w.K Hf' v d → (∀ a, Hf' a ≠ none → Hf a ≠ none ∨ a ∈ φ i) →
      Good w σ H Hf' (s.set i (some (.val d))) (fun j => if j = i then [] else φ j) ∧ Stp H Hf (Own s φ) H Hf' (Own (s.set i (some (.val d))) (fun j => if j = i then [] else φ j)) := by
    intro Hf' s1 s2 rp nw
    refine ⟨⟨s2, by rw [List.length_set]; exact g.len, fun j u q => ?_, fun j u a q m => ?_, fun j k u u' a q1 q2 m1 m2 => ?_⟩, s1, fun a o q _ => q, fun a q => ?_⟩
    · rcases get q with ⟨z, rfl⟩ | ⟨z, q⟩
      · subst z; rw [if_pos rfl]; exact ⟨v, e1, .val rp⟩
      · rw [if_neg z]
        obtain ⟨v', e2, r2⟩ := g.here j u q
        exact ⟨v', e2, r2.stay s1 fun a _ o e => e⟩
    · rcases get q with ⟨z, rfl⟩ | ⟨z, q⟩
      · simp only [if_pos z] at m; cases m
      · simp only [if_neg z] at m
        cases q2 : Hf' a with
        | none => rfl
        | some o =>
          rcases nw a (by rw [q2]; simp) with q3 | q3
          · exact (q3 (g.fr j u a q m)).elim
          · exact (z (g.dj j i u t a q h m q3)).elim
    · rcases get q1 with ⟨z, rfl⟩ | ⟨z, q1⟩
      · simp only [if_pos z] at m1; cases m1
      · rcases get q2 with ⟨z2, rfl⟩ | ⟨z2, q2⟩
        · simp only [if_pos z2] at m2; cases m2
        · simp only [if_neg z] at m1; simp only [if_neg z2] at m2
          exact g.dj j k u u' a q1 q2 m1 m2
    · rcases q with ⟨j, u, q, m⟩ | q
      · rcases get q with ⟨z, rfl⟩ | ⟨z, q⟩
        · simp only [if_pos z] at m; cases m
        · simp only [if_neg z] at m; exact .inl ⟨j, u, q, m⟩
      · rcases nw a q with q | q
        · exact .inr (.inl q)
        · exact .inl ⟨i, t, h, q⟩
  have one : ∀ (a : Addr) (o : HO), φ i = [a] → H a = some o → Sub Hf (upd Hf a o) ∧ Sub (upd Hf a o) H ∧ ∀ x, upd Hf a o x ≠ none → Hf x ≠ none ∨ x ∈ φ i := by
    intro a o ea ha
    have hn : Hf a = none := g.fr i t a h (by rw [ea]; simp)
    refine ⟨Sub.upd hn, fun x u q => ?_, fun x q => ?_⟩
    · by_cases z : x = a
      · subst z; rw [upd_same] at q; cases q; exact ha
      · rw [upd_ne z] at q; exact g.sub x u q
    · by_cases z : x = a
      · right; rw [ea, z]; simp
      · rw [upd_ne z] at q; exact .inl q
  generalize hF : φ i = F at r
  cases r with
  | val r =>
    cases e
    obtain ⟨c1, c2⟩ := core Hf (Sub.refl _) g.sub r fun a q => .inl q
    exact ⟨v, Hf, e1, r, c1, c2⟩
  | lst ha r =>
    cases e
    obtain ⟨o1, o2, o3⟩ := one _ _ hF ha
    have rp : Rp w.K (upd Hf _ (.lst _)) (.ref _) (.list _) := .lst upd_same (r.mono o1)
    obtain ⟨c1, c2⟩ := core _ o1 o2 rp o3
    exact ⟨_, _, e1, rp, c1, c2⟩
  | dct ha r =>
    cases e
    obtain ⟨o1, o2, o3⟩ := one _ _ hF ha
    have rp : Rp w.K (upd Hf _ (.dK _)) (.ref _) (.dict _) := .dct (.inl upd_same) (r.mono o1)
    obtain ⟨c1, c2⟩ := core _ o1 o2 rp o3
    exact ⟨_, _, e1, rp, c1, c2⟩
  | src _ _ => cases e
  | clo _ => cases e
  | scr _ => cases e
  | tab _ _ _ _ _ _ _ _ => cases e
/-- behind a value for good -/
theorem RL.take {v : V} {l : L} {F : List Addr} {d : D} {s1 : Sl} (r : RL w σ Hf H s φ v l F) (g : Good w σ H Hf s φ) (e : l.take s = .ok (d, s1)) :
    ∃ Hf' φ', Rp w.K Hf' v d ∧ Good w σ H Hf' s1 φ' ∧ Stp H Hf (fun a => Own s φ a ∨ a ∈ F) H Hf' (Own s1 φ') := by
  cases r with
  | d r =>
    cases e
    exact ⟨Hf, φ, r, g, Stp.refl.weak fun a h => .inl h⟩
  | o h =>
    rename_i i
    simp only [L.take] at e
    split at e
    · rename_i u hu
      obtain ⟨d', e1, e2⟩ := R.bind_eq_ok.mp e
      cases e2
      obtain ⟨v', Hf', h1, h2, h3, h4⟩ := freeze_slot g hu e1
      rw [h] at h1; cases h1
      refine ⟨Hf', _, h2, h3, h4.sub, fun a o q hn => q, fun a q => ?_⟩
      rcases h4.new a q with q | q | q
      · exact .inl (.inl q)
      · exact .inr (.inl q)
      · exact .inr (.inr q)
    · cases e
  | t r c =>
    rename_i x
    simp only [L.take] at e
    obtain ⟨d', e1, e2⟩ := R.bind_eq_ok.mp e
    cases e2
    have core : ∀ (a : Addr) (o : HO), F = [a] → H a = some o → Good w σ H (upd Hf a o) s φ ∧ Stp H Hf (fun a => Own s φ a ∨ a ∈ F) H (upd Hf a o) (Own s φ) := by
      intro a o ea ha
      obtain ⟨hn, no⟩ := c a (by rw [ea]; simp)
      refine ⟨⟨fun x u q => ?_, g.len, fun i t q => ?_, fun i t x q m => ?_, g.dj⟩, Sub.upd hn, fun x u q _ => q, fun x q => ?_⟩
      · by_cases z : x = a
        · subst z; rw [upd_same] at q; cases q; exact ha
        · rw [upd_ne z] at q; exact g.sub x u q
      · obtain ⟨v', h1, h2⟩ := g.here i t q
        exact ⟨v', h1, h2.stay (Sub.upd hn) fun _ _ _ e => e⟩
      · have z : x ≠ a := fun z => no ⟨i, t, q, z ▸ m⟩
        rw [upd_ne z]; exact g.fr i t x q m
      · rcases q with q | q
        · exact .inl (.inl q)
        · by_cases z : x = a
          · exact .inl (.inr (by rw [ea, z]; simp))
          · rw [upd_ne z] at q; exact .inr (.inl q)
    cases r with
    | val r => cases e1; exact ⟨Hf, φ, r, g, Stp.refl.weak fun a h => .inl h⟩
    | lst ha r =>
      cases e1
      obtain ⟨c1, c2⟩ := core _ _ rfl ha
      exact ⟨_, _, .lst upd_same (r.mono c2.sub), c1, c2⟩
    | dct ha r =>
      cases e1
      obtain ⟨c1, c2⟩ := core _ _ rfl ha
      exact ⟨_, _, .dct (.inl upd_same) (r.mono c2.sub), c1, c2⟩
    | src _ _ => cases e1
    | clo _ => cases e1
    | scr _ => cases e1
    | tab _ _ _ _ _ _ _ _ => cases e1
end
end KV

set_option Elab.async false
set_option linter.all false
set_option maxRecDepth 100000
/-! KVC: expressions: each rule says that the denotation is right. -/
namespace KV
open PySem L2
open PySem.Spec PyProof.Rows

/-- what an expression's reading asks -/
def tE (w : Wd) (f : EV) : TE := fun σ H Q => ∃ Hf s φ l s', Good w σ H Hf s φ ∧ f s = .ok (l, s') ∧ PQ w σ H Hf s φ s' l Q
def tB (w : Wd) (f : BV) : TT := fun σ H Q => ∃ Hf s φ b s', Good w σ H Hf s φ ∧ f s = .ok (b, s') ∧
  ∀ H' Hf' φ', Good w σ H' Hf' s' φ' → Stp H Hf (Own s φ) H' Hf' (Own s' φ') → Q b H'
def tA (w : Wd) (g : AV) : TA := fun σ H Q => ∃ Hf s φ ds s', Good w σ H Hf s φ ∧ g s = .ok (ds, s') ∧
  ∀ vs H' Hf' φ', Good w σ H' Hf' s' φ' → RpA w.K Hf' vs ds → Stp H Hf (Own s φ) H' Hf' (Own s' φ') → Q vs H'
abbrev GE (w : Wd) (X : Cx) (e : Expr) (f : EV) : Prop := PE X e (tE w f)
abbrev GB (w : Wd) (X : Cx) (e : Expr) (f : BV) : Prop := PT X e (tB w f)
abbrev GW (w : Wd) (X : Cx) (e : Expr) (f : BV) : Prop := PW X e (tB w f)
abbrev GA (w : Wd) (X : Cx) (es : List Expr) (f : AV) : Prop := PA X es (tA w f)

theorem pe_imp {X : Cx} {e : Expr} {t t' : TE} (h : PE X e t) (i : ∀ σ H Q, t' σ H Q → t σ H Q) : PE X e t' := ⟨fun pins s σ H Q I q => h.run pins s σ H Q I (i σ H Q q)⟩
theorem pt_imp {X : Cx} {e : Expr} {t t' : TT} (h : PT X e t) (i : ∀ σ H Q, t' σ H Q → t σ H Q) : PT X e t' := ⟨fun pins s σ H Q I q => h.run pins s σ H Q I (i σ H Q q)⟩
theorem pw_imp {X : Cx} {e : Expr} {t t' : TT} (h : PW X e t) (i : ∀ σ H Q, t' σ H Q → t σ H Q) : PW X e t' := ⟨fun wh pins s σ H Q I q => h.run wh pins s σ H Q I (i σ H Q q)⟩
theorem pa_imp {X : Cx} {e : List Expr} {t t' : TA} (h : PA X e t) (i : ∀ σ H Q, t' σ H Q → t σ H Q) : PA X e t' := ⟨fun pos pins s σ H Q I q => h.run pos pins s σ H Q I (i σ H Q q)⟩

section
variable {w : Wd} {X : Cx} {pos : Pos} {σ : L2.St} {H Hf : Hp} {s s' : Sl} {φ : Nat → List Addr} {Q : VK}

/-! ### constants, names -/
theorem tE_c {d : D} {v : V} (r : ∀ Hf, Rp w.K Hf v d) : tE w (kC d) σ H Q → Q v H := by
  rintro ⟨Hf, s, φ, l, s', g, e, q⟩
  cases e
  exact q.d g (r _)
theorem ge_int {i : Int} {j : Nat} : GE w X (.Constant (.int i) j pos) (kC (.int i)) := pe_imp pe_int fun _ _ _ h => tE_c (fun _ => .int i) h
theorem ge_bl {b : Bool} {j : Nat} : GE w X (.Constant (.bool b) j pos) (kC (.bool b)) := pe_imp pe_bl fun _ _ _ h => tE_c (fun _ => .bl b) h
theorem ge_non {j : Nat} : GE w X (.Constant .none j pos) (kC .none) := pe_imp pe_non fun _ _ _ h => tE_c (fun _ => .non) h
theorem ge_str {x : Str} {j : Nat} : GE w X (.Constant (.str x) j pos) (kC (.str x)) := pe_imp pe_str fun _ _ _ h => tE_c (fun _ => .str x) h
/-- a constant of the module -/
theorem ge_glob {x : Str} {d : D} {v : V} {u : Value} (r : ∀ Hf, Rp w.K Hf v d) (hm : X.mg x = some u) (ru : RelV v u) (hg : Gl X x := by rfl) (hd : (x == ("__debug__" : Str)) = false := by decide) : GE w X (.Name x pos) (kC d) :=
  pe_imp (pe_glob hg hm ru hd) fun _ _ _ h => tE_c r h
theorem ge_v (i : Nat) {x : Str} (hN : X.N[i]? = some x := by rfl) (hv : Vis X.env.scope x := by first | exact Or.inl rfl | exact Or.inr (Or.inl rfl) | exact Or.inr (Or.inr rfl)) (hd : (x == ("__debug__" : Str)) = false := by decide)
    (hcd : (x == ("__classdict__" : Str)) = false := by decide) : GE w X (.Name x pos) (kX i) := by
  refine pe_imp (pe_var hN hv hd hcd) fun σ H Q => ?_
  rintro ⟨Hf, s, φ, l, s', g, e, q⟩
  unfold kX at e
  split at e
  · rename_i d hd
    cases e
    obtain ⟨v, e1, r⟩ := g.here i _ hd
    refine ⟨v, e1, ?_⟩
    generalize φ i = F at r
    cases r with
    | val r => exact q.d g r
  · rename_i d hd
    cases e
    obtain ⟨v, e1, _⟩ := g.here i _ hd
    exact ⟨v, e1, q v H Hf φ [] g (.o e1) (Stp.refl.weak fun a h => h.elim id fun z => nomatch z)⟩
  · rename_i d hd
    cases e
    obtain ⟨v, e1, _⟩ := g.here i _ hd
    exact ⟨v, e1, q v H Hf φ [] g (.o e1) (Stp.refl.weak fun a h => h.elim id fun z => nomatch z)⟩
  · cases e

/-! ### one part, two parts -/
/-- a reading of one value, by its data -/
def U1 (w : Wd) (r : V → Hp → VK → Prop) (p : D → R L) : Prop := ∀ (σ : L2.St) (H Hf : Hp) (s : Sl) (φ : Nat → List Addr) (v : V) (d : D) (l : L) (Q : VK),
  Good w σ H Hf s φ → Rw w.K Hf H v d → p d = .ok l → PQ w σ H Hf s φ s l Q → r v H Q
def U2 (w : Wd) (r : R2) (p : D → D → R L) : Prop := ∀ (σ : L2.St) (H Hf : Hp) (s : Sl) (φ : Nat → List Addr) (v u : V) (d e : D) (l : L) (Q : VK),
  Good w σ H Hf s φ → Rw w.K Hf H v d → Rw w.K Hf H u e → p d e = .ok l → PQ w σ H Hf s φ s l Q → r v u H Q
/-- first a part, then what follows -/
theorem tE_then {f : EV} {l : L} {s1 : Sl} {k : V → Hp → Prop} (g : Good w σ H Hf s φ) (e : f s = .ok (l, s1)) (h : PQ w σ H Hf s φ s1 l (fun v H1 => k v H1)) : tE w f σ H k :=
  ⟨Hf, s, φ, l, s1, g, e, h⟩
theorem k1_ok {p : D → R L} {f : EV} {l : L} (h : k1 p f s = .ok (l, s')) : ∃ l1 d, f s = .ok (l1, s') ∧ l1.get s' = .ok d ∧ p d = .ok l := by
  obtain ⟨⟨l1, s1⟩, h1, h2⟩ := R.bind_eq_ok.mp h
  obtain ⟨d, h3, h4⟩ := R.bind_eq_ok.mp h2
  obtain ⟨l2, h5, h6⟩ := R.bind_eq_ok.mp h4
  cases h6
  exact ⟨l1, d, h1, h3, h5⟩
theorem k2_ok {p : D → D → R L} {f g : EV} {l : L} (h : k2 p f g s = .ok (l, s')) : ∃ l1 s1 l2 d e, f s = .ok (l1, s1) ∧ g s1 = .ok (l2, s') ∧ l1.get s' = .ok d ∧ l2.get s' = .ok e ∧ p d e = .ok l := by
  obtain ⟨⟨l1, s1⟩, h1, h2⟩ := R.bind_eq_ok.mp h
  obtain ⟨⟨l2, s2⟩, h3, h4⟩ := R.bind_eq_ok.mp h2
  obtain ⟨d, h5, h6⟩ := R.bind_eq_ok.mp h4
  obtain ⟨e, h7, h8⟩ := R.bind_eq_ok.mp h6
  obtain ⟨l3, h9, h10⟩ := R.bind_eq_ok.mp h8
  cases h10
  exact ⟨l1, s1, l2, d, e, h1, h3, h5, h7, h9⟩
theorem tE_1 {r : V → Hp → VK → Prop} {p : D → R L} {f : EV} (u : U1 w r p) (h : tE w (k1 p f) σ H Q) : tE w f σ H (fun v H1 => r v H1 Q) := by
  obtain ⟨Hf, s, φ, l, s', g, e, q⟩ := h
  obtain ⟨l1, d, h1, h2, h3⟩ := k1_ok e
  refine ⟨Hf, s, φ, l1, s', g, h1, fun v H1 Hf1 φ1 F1 g1 r1 k1 => ?_⟩
  exact u σ H1 Hf1 s' φ1 v d l Q g1 (r1.rw g1 h2) h3 (q.later k1 (fun a => .inl) g1)
theorem tE_2 {r : R2} {p : D → D → R L} {f f' : EV} (u : U2 w r p) (h : tE w (k2 p f f') σ H Q) : tE w f σ H (fun v H1 => tE w f' σ H1 (fun v' H2 => r v v' H2 Q)) := by
  obtain ⟨Hf, s, φ, l, s', g, e, q⟩ := h
  obtain ⟨l1, s1, l2, d, d', h1, h2, h3, h4, h5⟩ := k2_ok e
  refine ⟨Hf, s, φ, l1, s1, g, h1, fun v H1 Hf1 φ1 F1 g1 r1 k1 => ⟨Hf1, s1, φ1, l2, s', g1, h2, fun v' H2 Hf2 φ2 F2 g2 r2 k2 => ?_⟩⟩
  have r1' := r1.stay (s' := s') (φ' := φ2) k2 fun a => .inl
  exact u σ H2 Hf2 s' φ2 v v' d d' l Q g2 (r1'.rw g2 h3) (r2.rw g2 h4) h5 ((q.later k1 (fun a => .inl) g1).later k2 (fun a => .inl) g2)
theorem ge_op {op : Operator} {r : R2} {p : D → D → R L} {a b : Expr} {f f' : EV} (ho : OpR X (binaryOp op) r) (u : U2 w r p) (ha : GE w X a f) (hb : GE w X b f') : GE w X (.BinOp a op b pos) (k2 p f f') :=
  pe_imp (pe_op ho ha hb) fun _ _ _ h => tE_2 u h
theorem ge_cmp {op : CmpOp} {r : R2} {p : D → D → R L} {a b : Expr} {f f' : EV} (ho : OpR X (compareOp op) r) (u : U2 w r p) (ha : GE w X a f) (hb : GE w X b f') (hm : behindInMarks op b = false := by rfl) : GE w X (.Compare a [op] [b] pos) (k2 p f f') :=
  pe_imp (pe_cmpR ho ha hb hm) fun _ _ _ h => tE_2 u h
theorem ge_un {op : UnaryOp} {r : V → Hp → VK → Prop} {p : D → R L} {a : Expr} {f : EV} (ho : UnR X (unaryOp op) r) (u : U1 w r p) (ha : GE w X a f) : GE w X (.UnaryOp op a pos) (k1 p f) :=
  pe_imp (pe_un ho ha) fun _ _ _ h => tE_1 u h
/-- f(a), f a builtin -/
theorem ge_b1 {id : String} {r : List V → Hp → VK → Prop} {p : D → R L} {x : Str} {px : Pos} {a : Expr} {f : EV} (hc : CallR X (.builtin id) r) (u : U1 w (fun v H Q => r [v] H Q) p) (hm : X.mg x = none) (ha : GE w X a f)
    (hv : bootBuiltins x = some (.builtin id) := by decide +kernel) (hg : Gl X x := by rfl) (hn : x ≠ "__name__" := by decide) (hdb : (x == ("__debug__" : Str)) = false := by decide)
    (he : starEach [a] X.env = (false, eval a X.env) :: starEach [] X.env := by rfl) : GE w X (.Call (.Name x px) [a] [] pos) (k1 p f) :=
  pe_imp (pe_callB hc hg hm hv (pa_cons ha pa_nil he) hn hdb he) fun _ _ _ h => tE_1 u h
theorem ge_t1 {id : String} {r : List V → Hp → VK → Prop} {p : D → R L} {x : Str} {px : Pos} {a : Expr} {f : EV} (hc : CallR X (.type id) r) (u : U1 w (fun v H Q => r [v] H Q) p) (hm : X.mg x = none) (ha : GE w X a f)
    (hv : bootBuiltins x = some (.type id) := by decide +kernel) (hg : Gl X x := by rfl) (hn : x ≠ "__name__" := by decide) (hdb : (x == ("__debug__" : Str)) = false := by decide)
    (he : starEach [a] X.env = (false, eval a X.env) :: starEach [] X.env := by rfl) : GE w X (.Call (.Name x px) [a] [] pos) (k1 p f) :=
  pe_imp (pe_callTy hc hg hm hv (pa_cons ha pa_nil he) hn hdb he) fun _ _ _ h => tE_1 u h
theorem ge_b2 {id : String} {r : List V → Hp → VK → Prop} {p : D → D → R L} {x : Str} {px : Pos} {a b : Expr} {f f' : EV} (hc : CallR X (.builtin id) r) (u : U2 w (fun v v' H Q => r [v, v'] H Q) p) (hm : X.mg x = none) (ha : GE w X a f) (hb : GE w X b f')
    (hv : bootBuiltins x = some (.builtin id) := by decide +kernel) (hg : Gl X x := by rfl) (hn : x ≠ "__name__" := by decide) (hdb : (x == ("__debug__" : Str)) = false := by decide)
    (he : starEach [a, b] X.env = (false, eval a X.env) :: starEach [b] X.env := by rfl) (hb' : starEach [b] X.env = (false, eval b X.env) :: starEach [] X.env := by rfl) : GE w X (.Call (.Name x px) [a, b] [] pos) (k2 p f f') :=
  pe_imp (pe_callB hc hg hm hv (pa_cons ha (pa_cons hb pa_nil hb') he) hn hdb he (by rw [hb'] <;> rfl)) fun _ _ _ h => tE_2 u h
end
end KV

set_option Elab.async false
set_option linter.all false
set_option maxRecDepth 100000
set_option maxHeartbeats 1000000
/-! KVD: operators, comparisons, subscripts, built-in functions on data. -/
namespace KV
open PySem L2
open PySem.Spec PyProof.Rows

/-- a context in order -/
structure Cok (w : Wd) (k : Nat) (X : Cx) : Prop where
  K : X.K = w.K
  calm : X.calm = true
  nd : X.N.Nodup
  room : Room k X.A
  gd : X.A.guards = some []
theorem Cok.u {w : Wd} {k : Nat} {X : Cx} (c : Cok w k X) : X.A.units + 150 < cLine := by have := c.room.un; omega
theorem szOk_le {n : Nat} (h : szOk n = true) : n ≤ 16000000 := of_decide_eq_true h
theorem sz_line {n : Nat} (h : n ≤ 16000000) : n ≤ sizeLine := by rw [sizeLine_eq]; omega

/-! ### data as HandS has it -/
section
variable {K : PySem.W.Frag} {H : Hp}
mutual
theorem Rp.dp : ∀ {v : V} {d : D}, Rp K H v d → d.canLay0 = true → Dp K H v d
  | _, _, .non, _ => .non
  | _, _, .bl b, _ => .bl b
  | _, _, .int i, _ => .int i
  | _, _, .str x, _ => .str x
  | _, _, .lst h r, c => .lst (SqL.of h) (RpA.dp r (by simpa only [PyData.canLay0] using c))
  | _, _, .tup h r, c => .tup h.sq (RpA.dp r (by simpa only [PyData.canLay0] using c))
  | _, _, .dct _ _, c => by simp only [PyData.canLay0] at c; cases c
theorem RpA.dp : ∀ {vs : List V} {ds : List D}, RpA K H vs ds → PyData.canLayAll0 ds = true → DpAll K H vs ds
  | _, _, .nil, _ => .nil
  | _, _, .cons h r, c => by
    simp only [PyData.canLayAll0, Bool.and_eq_true] at c
    exact .cons (h.dp c.1) (RpA.dp r c.2)
end
theorem Rw.dp {Hf : Hp} {v : V} {d : D} (r : Rw K Hf H v d) (s : Sub Hf H) (c : d.canLay0 = true) : Dp K H v d := by
  cases r with
  | st r => exact (r.mono s).dp c
  | lst h r => exact .lst (SqL.of h) ((r.mono s).dp (by simpa only [PyData.canLay0] using c))
  | dct h r => simp only [PyData.canLay0] at c; cases c
end
theorem eqOk_lay {d : D} (h : eqOk d = true) : d.canLay0 = true := by
  have h : (d.canLay0 && decide (d.depth ≤ 64)) = true := h
  rw [Bool.and_eq_true] at h
  exact h.1

section
variable {w : Wd} {k : Nat} {X : Cx}

/-! ### + -/
def rCatF (K : PySem.W.Frag) : R2 := fun x y H Q => ∃ a b xs ys, x = .ref a ∧ y = .ref b ∧ STup K H a xs ∧ STup K H b ys ∧ xs.length + ys.length ≤ sizeLine ∧ (xs = [] → Q (.ref b) H) ∧
  (xs ≠ [] → ys = [] → Q (.ref a) H) ∧ (xs ≠ [] → ys ≠ [] → ∀ p, H p = none → ∀ o : Obj, o.dict = none → Q (.ref p) (upd H p (.frz o (.tup (xs ++ ys)))))
theorem op_catF : OpR X (binaryOp .Add) (rCatF X.K) := by
  intro pins s σ H x y v u Q I rx ry ⟨a, b, xs, ys, ex, ey, ha, hb, hz, q0, q1, q2⟩
  subst ex ey
  cases rx
  cases ry
  obtain ⟨ia, ra, pa, _⟩ := I.tuple ha.sq
  obtain ⟨ib, rb, pb, _⟩ := I.tuple hb.sq
  by_cases hx : xs = []
  · subst hx
    cases ra
    exact cat_tup0 pa pb ⟨.ref b, H, I, rfl, q0 rfl⟩
  · refine HT.cat_tup pa pb (fun z => hx (ra.nil_iff.mp z)) (fun z => ⟨.ref a, H, I, rfl, q1 hx (rb.nil_iff.mp z)⟩) (fun z => ?_) (by rw [← ra.length, ← rb.length]; exact hz)
    have hl := I.laid (t' := s.toks) (a := s.heap.objs.size) (h' := s.heap.push { cls := .type "tuple", data := .seq (ia ++ ib).toArray }) (o := .frz { cls := .type "tuple", data := .seq (ia ++ ib).toArray } (.tup (xs ++ ys))) (fun c ob q => Heap.get?_push_of_some _ q) (Nat.le_refl _)
      ⟨Heap.get?_push_size _ rfl, by rw [List.length_append]; exact hz, _, ra.append rb, IsTup.new _ _⟩
    exact ⟨.ref s.heap.objs.size, _, hl, rfl, q2 hx (fun z' => z (rb.nil_iff.mpr z')) _ (I.hok.fresh (Nat.le_refl _)) _ rfl⟩
def rAddS : R2 := fun x y H Q => ∃ i j, x = .str i ∧ y = .str j ∧ i.length + j.length ≤ sizeLine ∧ Q (.str (i ++ j)) H
def rAdd (K : PySem.W.Frag) : R2 := fun x y H Q => (rI0 (fun i j => .int (i + j))) x y H Q ∨ rAddS x y H Q ∨ rCatF K x y H Q ∨ rCat x y H Q
theorem op_addA : OpR X (binaryOp .Add) (rAdd X.K) := OpR.or op_add (OpR.or op_add_str (OpR.or op_catF op_cat))
theorem u_add (c : Cok w k X) : U2 w (rAdd X.K) pAdd := by
  intro σ H Hf s φ v u d e l Q g r1 r2 hp q
  unfold pAdd at hp
  split at hp
  · cases hp
    exact .inl ⟨_, _, r1.int, r2.int, q.d g (.int _)⟩
  · split at hp
    · rename_i hz
      cases hp
      exact .inr (.inl ⟨_, _, r1.str, r2.str, sz_line (szOk_le hz), q.d g (.str _)⟩)
    · cases hp
  · split at hp
    · rename_i hz
      cases hp
      have t1 := r1.tupR
      have t2 := r2.tupR
      obtain ⟨a, xs, rfl, ha, r1⟩ := r1.tup g.sub
      obtain ⟨b, ys, rfl, hb, r2⟩ := r2.tup g.sub
      rw [← c.K] at ha hb
      refine .inr (.inr (.inl ⟨a, b, xs, ys, rfl, rfl, ha, hb, by rw [r1.length, r2.length]; exact sz_line (szOk_le hz), fun e => ?_, fun _ e => ?_, fun _ _ p hp o ho => q.tup g (r1.append r2) hp ho⟩))
      · subst e
        cases r1
        exact q.d g t2
      · subst e
        cases r2
        rw [List.append_nil] at q
        exact q.d g t1
    · cases hp
  · split at hp
    · rename_i hz
      cases hp
      obtain ⟨a, xs, rfl, ha, r1⟩ := r1.list g.sub
      obtain ⟨b, ys, rfl, hb, r2⟩ := r2.list g.sub
      exact .inr (.inr (.inr ⟨a, b, xs, ys, rfl, rfl, ha, hb, by rw [r1.length, r2.length]; exact sz_line (szOk_le hz), fun p hp => q.lst g (r1.append r2) hp⟩))
    · cases hp
  · cases hp
theorem ge_add (c : Cok w k X) {pos : Pos} {a b : Expr} {f f' : EV} (ha : GE w X a f) (hb : GE w X b f') : GE w X (.BinOp a .Add b pos) (k2 pAdd f f') := ge_op op_addA (u_add c) ha hb

/-! ### -, *, %, // -/
theorem u_sub : U2 w (rI0 fun i j => .int (i - j)) pSub := by
  intro σ H Hf s φ v u d e l Q g r1 r2 hp q
  unfold pSub at hp
  split at hp
  · cases hp
    exact ⟨_, _, r1.int, r2.int, q.d g (.int _)⟩
  · cases hp
theorem ge_sub {pos : Pos} {a b : Expr} {f f' : EV} (ha : GE w X a f) (hb : GE w X b f') : GE w X (.BinOp a .Sub b pos) (k2 pSub f f') := ge_op op_sub u_sub ha hb
theorem u_mod : U2 w (rI (fun _ j => 0 < j) fun i j => .int (i % j)) pMod := by
  intro σ H Hf s φ v u d e l Q g r1 r2 hp q
  unfold pMod at hp
  split at hp
  · split at hp
    · rename_i h
      cases hp
      exact ⟨_, _, r1.int, r2.int, h, q.d g (.int _)⟩
    · cases hp
  · cases hp
theorem ge_mod {pos : Pos} {a b : Expr} {f f' : EV} (ha : GE w X a f) (hb : GE w X b f') : GE w X (.BinOp a .Mod b pos) (k2 pMod f f') := ge_op op_mod u_mod ha hb
theorem u_div : U2 w (rI CDiv fun i j => .int (i / j)) pDiv := by
  intro σ H Hf s φ v u d e l Q g r1 r2 hp q
  unfold pDiv at hp
  split at hp
  · split at hp
    · rename_i h
      cases hp
      exact ⟨_, _, r1.int, r2.int, ⟨h.1, by omega⟩, q.d g (.int _)⟩
    · cases hp
  · cases hp
theorem ge_div {pos : Pos} {a b : Expr} {f f' : EV} (ha : GE w X a f) (hb : GE w X b f') : GE w X (.BinOp a .FloorDiv b pos) (k2 pDiv f f') := ge_op op_fdiv u_div ha hb
theorem u_neg : U1 w (rU fun i => .int (-i)) pNeg := by
  intro σ H Hf s φ v d l Q g r hp q
  unfold pNeg at hp
  split at hp
  · cases hp
    exact ⟨_, r.int, q.d g (.int _)⟩
  · cases hp
theorem ge_neg {pos : Pos} {a : Expr} {f : EV} (ha : GE w X a f) : GE w X (.UnaryOp .USub a pos) (k1 pNeg f) := ge_un un_neg u_neg ha

/-! ### comparisons -/
theorem u_eq (c : Cok w k X) : U2 w (rEqD X.K) pEq := by
  intro σ H Hf s φ v u d e l Q g r1 r2 hp q
  unfold pEq at hp
  split at hp
  · rename_i h
    rw [Bool.and_eq_true] at h
    cases hp
    rw [c.K]
    exact ⟨d, e, r1.dp g.sub (eqOk_lay h.1), r2.dp g.sub (eqOk_lay h.2), h.1, h.2, q.d g (.bl _)⟩
  · cases hp
theorem ge_eq (c : Cok w k X) {pos : Pos} {a b : Expr} {f f' : EV} (ha : GE w X a f) (hb : GE w X b f') (hm : behindInMarks .Eq b = false := by rfl) : GE w X (.Compare a [.Eq] [b] pos) (k2 pEq f f') :=
  ge_cmp (op_eqD (by have := c.u; omega)) (u_eq c) ha hb hm
theorem u_ne (c : Cok w k X) : U2 w (rNeD X.K) pNe := by
  intro σ H Hf s φ v u d e l Q g r1 r2 hp q
  unfold pNe at hp
  split at hp
  · rename_i h
    rw [Bool.and_eq_true] at h
    cases hp
    rw [c.K]
    exact ⟨d, e, r1.dp g.sub (eqOk_lay h.1), r2.dp g.sub (eqOk_lay h.2), h.1, h.2, q.d g (.bl _)⟩
  · cases hp
theorem ge_ne (c : Cok w k X) {pos : Pos} {a b : Expr} {f f' : EV} (ha : GE w X a f) (hb : GE w X b f') (hm : behindInMarks .NotEq b = false := by rfl) : GE w X (.Compare a [.NotEq] [b] pos) (k2 pNe f f') :=
  ge_cmp (op_neD (by have := c.u; omega)) (u_ne c) ha hb hm
def rCmp (p : Int → Int → Bool) (q : Str → Str → Bool) : R2 := fun x y H Q => (rI0 (fun i j => .bl (p i j))) x y H Q ∨ (∃ i j, x = .str i ∧ y = .str j ∧ Q (.bl (q i j)) H)
theorem o_lt : OpR X (compareOp .Lt) (rCmp (fun i j => decide (i < j)) fun i j => decide (i.cps.toList < j.cps.toList)) := OpR.or op_lt op_lt_str
theorem o_le : OpR X (compareOp .LtE) (rCmp (fun i j => decide (i ≤ j)) fun i j => !decide (j.cps.toList < i.cps.toList)) := OpR.or op_le op_le_str
theorem o_gt : OpR X (compareOp .Gt) (rCmp (fun i j => decide (j < i)) fun i j => decide (j.cps.toList < i.cps.toList)) := OpR.or op_gt op_gt_str
theorem o_ge : OpR X (compareOp .GtE) (rCmp (fun i j => decide (j ≤ i)) fun i j => !decide (i.cps.toList < j.cps.toList)) := OpR.or op_ge op_ge_str
theorem u_cmp {P : D → D → R L} {p : Int → Int → Bool} {q : Str → Str → Bool} (h : ∀ d e l, P d e = .ok l → (∃ i j, d = .int i ∧ e = .int j ∧ l = .d (.bool (p i j))) ∨ ∃ i j, d = .str i ∧ e = .str j ∧ l = .d (.bool (q i j))) : U2 w (rCmp p q) P := by
  intro σ H Hf s φ v u d e l Q g r1 r2 hp qq
  rcases h d e l hp with ⟨i, j, rfl, rfl, rfl⟩ | ⟨i, j, rfl, rfl, rfl⟩
  · exact .inl ⟨i, j, r1.int, r2.int, qq.d g (.bl _)⟩
  · exact .inr ⟨i, j, r1.str, r2.str, qq.d g (.bl _)⟩
theorem u_lt : U2 w (rCmp (fun i j => decide (i < j)) fun i j => decide (i.cps.toList < j.cps.toList)) pLt := u_cmp fun d e l h => by
  unfold pLt at h
  split at h
  · cases h; exact .inl ⟨_, _, rfl, rfl, rfl⟩
  · cases h; exact .inr ⟨_, _, rfl, rfl, rfl⟩
  · cases h
theorem u_le : U2 w (rCmp (fun i j => decide (i ≤ j)) fun i j => !decide (j.cps.toList < i.cps.toList)) pLe := u_cmp fun d e l h => by
  unfold pLe at h
  split at h
  · cases h; exact .inl ⟨_, _, rfl, rfl, rfl⟩
  · cases h; exact .inr ⟨_, _, rfl, rfl, rfl⟩
  · cases h
theorem u_gt : U2 w (rCmp (fun i j => decide (j < i)) fun i j => decide (j.cps.toList < i.cps.toList)) pGt := u_cmp fun d e l h => by
  unfold pGt at h
  split at h
  · cases h; exact .inl ⟨_, _, rfl, rfl, rfl⟩
  · cases h; exact .inr ⟨_, _, rfl, rfl, rfl⟩
  · cases h
theorem u_ge : U2 w (rCmp (fun i j => decide (j ≤ i)) fun i j => !decide (i.cps.toList < j.cps.toList)) pGe := u_cmp fun d e l h => by
  unfold pGe at h
  split at h
  · cases h; exact .inl ⟨_, _, rfl, rfl, rfl⟩
  · cases h; exact .inr ⟨_, _, rfl, rfl, rfl⟩
  · cases h
section
variable {pos : Pos} {a b : Expr} {f f' : EV}
theorem ge_lt (ha : GE w X a f) (hb : GE w X b f') (hm : behindInMarks .Lt b = false := by rfl) : GE w X (.Compare a [.Lt] [b] pos) (k2 pLt f f') := ge_cmp o_lt u_lt ha hb hm
theorem ge_le (ha : GE w X a f) (hb : GE w X b f') (hm : behindInMarks .LtE b = false := by rfl) : GE w X (.Compare a [.LtE] [b] pos) (k2 pLe f f') := ge_cmp o_le u_le ha hb hm
theorem ge_gt (ha : GE w X a f) (hb : GE w X b f') (hm : behindInMarks .Gt b = false := by rfl) : GE w X (.Compare a [.Gt] [b] pos) (k2 pGt f f') := ge_cmp o_gt u_gt ha hb hm
theorem ge_ge (ha : GE w X a f) (hb : GE w X b f') (hm : behindInMarks .GtE b = false := by rfl) : GE w X (.Compare a [.GtE] [b] pos) (k2 pGe f f') := ge_cmp o_ge u_ge ha hb hm
end
theorem Rw.isN {K : PySem.W.Frag} {H Hf : Hp} {v : V} {d : D} (r : Rw K Hf H v d) : decide (v = .non) = isNone d := by
  cases r with
  | st r => cases r <;> rfl
  | lst _ _ => rfl
  | dct _ _ => rfl
theorem ge_isN {pos p2 : Pos} {j : Nat} {a : Expr} {f : EV} (ha : GE w X a f) : GE w X (.Compare a [.Is] [.Constant .none j p2] pos) (k1 pIsN f) :=
  pe_imp (pe_cmpR op_isN ha pe_non rfl) fun σ H Q h => tE_1 (r := fun v H1 Q => V.non = .non ∧ Q (.bl (decide (v = .non))) H1) (fun σ H Hf s φ v d l Q g r hp q => by
    cases hp
    rw [r.isN]
    exact ⟨rfl, q.d g (.bl _)⟩) h
theorem ge_notN {pos p2 : Pos} {j : Nat} {a : Expr} {f : EV} (ha : GE w X a f) : GE w X (.Compare a [.IsNot] [.Constant .none j p2] pos) (k1 pNotN f) :=
  pe_imp (pe_cmpR op_notN ha pe_non rfl) fun σ H Q h => tE_1 (r := fun v H1 Q => V.non = .non ∧ Q (.bl (!decide (v = .non))) H1) (fun σ H Hf s φ v d l Q g r hp q => by
    cases hp
    rw [r.isN]
    exact ⟨rfl, q.d g (.bl _)⟩) h
theorem ge_isB {pos p2 : Pos} {j : Nat} {b : Bool} {a : Expr} {f : EV} (ha : GE w X a f) : GE w X (.Compare a [.Is] [.Constant (.bool b) j p2] pos) (k1 (pIsB b) f) :=
  pe_imp (pe_cmpR op_isBl ha pe_bl rfl) fun σ H Q h => tE_1 (r := fun v H1 Q => rIsB v (.bl b) H1 Q) (fun σ H Hf s φ v d l Q g r hp q => by
    unfold pIsB at hp
    split at hp
    · cases hp
      exact ⟨_, _, r.bool, rfl, q.d g (.bl _)⟩
    · cases hp) h
theorem ge_notB {pos p2 : Pos} {j : Nat} {b : Bool} {a : Expr} {f : EV} (ha : GE w X a f) : GE w X (.Compare a [.IsNot] [.Constant (.bool b) j p2] pos) (k1 (pNotB b) f) :=
  pe_imp (pe_cmpR op_notBl ha pe_bl rfl) fun σ H Q h => tE_1 (r := fun v H1 Q => rNotB v (.bl b) H1 Q) (fun σ H Hf s φ v d l Q g r hp q => by
    unfold pNotB at hp
    split at hp
    · cases hp
      exact ⟨_, _, r.bool, rfl, q.d g (.bl _)⟩
    · cases hp) h

/-! ### dicts: what stands at a key -/
theorem keyOf_some {d : D} {c : Key} (h : keyOf d = some c) : d = keyD c := by
  unfold keyOf at h
  split at h <;> cases h <;> rfl
theorem key_eqv (a b : Key) : PyData.eqv (keyD a) (keyD b) = decide (a = b) := by
  cases a <;> cases b
  · rename_i i j
    show (i == j) = decide ((Sum.inl i : Key) = Sum.inl j)
    by_cases e : i = j
    · subst e; simp
    · rw [decide_eq_false (fun z => e (Sum.inl.inj z))]; exact beq_eq_false_iff_ne.mpr e
  · show false = _
    exact (decide_eq_false fun z => nomatch z).symm
  · show false = _
    exact (decide_eq_false fun z => nomatch z).symm
  · rename_i i j
    show (i == j) = decide ((Sum.inr i : Key) = Sum.inr j)
    by_cases e : i = j
    · subst e; simp
    · rw [decide_eq_false (fun z => e (Sum.inr.inj z))]; exact beq_eq_false_iff_ne.mpr e
theorem Rw.key {K : PySem.W.Frag} {H Hf : Hp} {v : V} {c : Key} (r : Rw K Hf H v (keyD c)) : v = kV c := by
  cases c
  · exact r.int
  · exact r.str
theorem lookD_cons (k d : D) (r : List (D × D)) (c : D) : lookD ((k, d) :: r) c = if PyData.eqv k c = true then some d else lookD r c := by
  unfold lookD
  rw [List.find?_cons]
  cases h : PyData.eqv (k, d).1 c with
  | true => rfl
  | false => rfl
section
variable {K : PySem.W.Frag} {H : Hp}
theorem RpKv.look : ∀ {kvs : List (Key × V)} {ds : List (D × D)} (c : Key), RpKv K H kvs ds → (lookD ds (keyD c) = none ∧ valV kvs c = none) ∨ ∃ d v, lookD ds (keyD c) = some d ∧ valV kvs c = some v ∧ Rp K H v d
  | _, _, _, .nil => .inl ⟨rfl, rfl⟩
  | _, _, c, .cons (k := k) (v := v) (d := d) (kvs := kvs) (ds := ds) r t => by
    rw [lookD_cons, key_eqv]
    by_cases e : k = c
    · rw [if_pos (decide_eq_true e)]
      exact .inr ⟨d, v, rfl, valV_pos (p := (k, v)) e, r⟩
    · rw [if_neg (by rw [decide_eq_false e]; exact Bool.false_ne_true), valV_neg (p := (k, v)) e]
      exact RpKv.look c t
theorem RpKv.has : ∀ {kvs : List (Key × V)} {ds : List (D × D)} (c : Key), RpKv K H kvs ds → hasB ds (keyD c) = (valV kvs c).isSome
  | _, _, _, .nil => rfl
  | _, _, c, .cons (k := k) (v := v) (d := d) r t => by
    have ih := RpKv.has c t
    unfold hasB at ih ⊢
    rw [List.any_cons, ih]
    show (PyData.eqv (keyD k) (keyD c) || _) = _
    rw [key_eqv]
    by_cases e : k = c
    · rw [decide_eq_true e, valV_pos (p := (k, v)) e]; rfl
    · rw [decide_eq_false e, valV_neg (p := (k, v)) e]; rfl
theorem RpKv.append : ∀ {kvs ks : List (Key × V)} {ds es : List (D × D)}, RpKv K H kvs ds → RpKv K H ks es → RpKv K H (kvs ++ ks) (ds ++ es)
  | _, _, _, _, .nil, r => r
  | _, _, _, _, .cons h t, r => .cons h (RpKv.append t r)
theorem RpKv.map {c : Key} {x : V} {y : D} (hx : Rp K H x y) : ∀ {kvs : List (Key × V)} {ds : List (D × D)}, RpKv K H kvs ds →
    RpKv K H (kvs.map fun kv => if kv.1 = c then (kv.1, x) else kv) (ds.map fun p => if PyData.eqv p.1 (keyD c) then (p.1, y) else p)
  | _, _, .nil => .nil
  | _, _, .cons (k := k) (v := v) (d := d) r t => by
    have ih := RpKv.map (c := c) hx t
    rw [List.map_cons, List.map_cons]
    simp only [key_eqv]
    by_cases e : k = c
    · rw [if_pos e, if_pos (decide_eq_true e)]
      exact .cons hx ih
    · rw [if_neg e, if_neg (by rw [decide_eq_false e]; exact Bool.false_ne_true)]
      exact .cons r ih
theorem RpKv.put {kvs : List (Key × V)} {ds : List (D × D)} {x : V} {y : D} (c : Key) (r : RpKv K H kvs ds) (hx : Rp K H x y) : RpKv K H (putK kvs c x) (putD ds (keyD c) y) := by
  unfold putK putD
  rw [r.has c, valV_any]
  cases (valV kvs c).isSome with
  | true => rw [if_pos rfl, if_pos rfl]; exact r.map hx
  | false => rw [if_neg Bool.false_ne_true, if_neg Bool.false_ne_true]; exact r.append (.cons hx .nil)
theorem RpKv.keys : ∀ {kvs : List (Key × V)} {ds : List (D × D)}, RpKv K H kvs ds → RpA K H (kvs.map fun kv => kV kv.1) (ds.map (·.1))
  | _, _, .nil => .nil
  | _, _, .cons (k := k) r t => by
    refine .cons ?_ (RpKv.keys t)
    cases k
    · exact .int _
    · exact .str _
end

/-! ### in -/
def rInT (K : PySem.W.Frag) (neg : Bool) : R2 := fun x y H Q => ∃ d ds, Dp K H x d ∧ Dp K H y (.tuple ds) ∧ SeqAt.shaped d = true ∧ SeqAt.shaped (.tuple ds) = true ∧ Q (.bl (if neg then !(inB d ds) else inB d ds)) H
theorem op_inT (c : Cok w k X) : OpR X (compareOp .In) (rInT X.K false) := by
  intro pins s σ H x y v u Q I rx ry ⟨d, ds, hd, he, sd, se, q⟩
  obtain ⟨as, r1⟩ := Dp.reads I d x v hd rx
  obtain ⟨bs, r2⟩ := Dp.reads I (.tuple ds) y u he ry
  have hu : X.A.units + 65 < cLine := by have := c.u; omega
  exact SeqAt.in_tuple_reads r2 r1 (by have := SeqAt.canLay_of_shaped se; simpa only [PyData.canLay0] using this) (SeqAt.canLay_of_shaped sd) (room_in_shaped sd hu) ⟨.bl _, H, I, rfl, q⟩
theorem op_notInT (c : Cok w k X) : OpR X (compareOp .NotIn) (rInT X.K true) := by
  intro pins s σ H x y v u Q I rx ry ⟨d, ds, hd, he, sd, se, q⟩
  obtain ⟨as, r1⟩ := Dp.reads I d x v hd rx
  obtain ⟨bs, r2⟩ := Dp.reads I (.tuple ds) y u he ry
  have hu : X.A.units + 65 < cLine := by have := c.u; omega
  exact SeqAt.notIn_tuple_reads r2 r1 (by have := SeqAt.canLay_of_shaped se; simpa only [PyData.canLay0] using this) (SeqAt.canLay_of_shaped sd) (room_in_shaped sd hu) ⟨.bl _, H, I, rfl, q⟩
def rInDict (neg : Bool) : R2 := fun x y H Q => ∃ a o, y = .ref a ∧ DGet H a x o ∧ Q (.bl (if neg then !o.isSome else o.isSome)) H
theorem op_inDict (c : Cok w k X) : OpR X (compareOp .In) (rInDict false) := by
  intro pins s σ H x y v u Q I rx ry ⟨a, o, ey, g, q⟩
  subst ey
  cases ry
  exact d_in (by have := c.u; omega) I g rx fun s' I' => ⟨.bl o.isSome, H, I', rfl, q⟩
theorem op_notInDict (c : Cok w k X) : OpR X (compareOp .NotIn) (rInDict true) := by
  intro pins s σ H x y v u Q I rx ry ⟨a, o, ey, g, q⟩
  subst ey
  cases ry
  exact d_notIn (by have := c.u; omega) I g rx fun s' I' => ⟨.bl (!o.isSome), H, I', rfl, q⟩
def rInS (neg : Bool) : R2 := fun x y H Q => ∃ i j, x = .str i ∧ y = .str j ∧ Q (.bl (if neg then !(!(Builtin.Str.occurrences j i 0 j.length 1).isEmpty) else !(Builtin.Str.occurrences j i 0 j.length 1).isEmpty)) H
def rInL (K : PySem.W.Frag) (neg : Bool) : R2 := fun x y H Q => ∃ d ds, Dp K H x d ∧ Dp K H y (.list ds) ∧ SeqAt.shaped d = true ∧ SeqAt.shaped (.list ds) = true ∧ Q (.bl (if neg then !(inB d ds) else inB d ds)) H
def rInA (K : PySem.W.Frag) (neg : Bool) : R2 := fun x y H Q => rInL K neg x y H Q ∨ rInT K neg x y H Q ∨ rInDict neg x y H Q ∨ rInS neg x y H Q
theorem op_inA (c : Cok w k X) : OpR X (compareOp .In) (rInA X.K false) := OpR.or (op_inD (by have := c.u; omega)) (OpR.or (op_inT c) (OpR.or (op_inDict c) op_in_str))
theorem op_notInA (c : Cok w k X) : OpR X (compareOp .NotIn) (rInA X.K true) := OpR.or (op_notInD (by have := c.u; omega)) (OpR.or (op_notInT c) (OpR.or (op_notInDict c) op_notin_str))
theorem u_inN (c : Cok w k X) (neg : Bool) {P : D → D → R L} (hP : ∀ d e l, P d e = .ok l → ∃ b, pIn d e = .ok (.d (.bool b)) ∧ l = .d (.bool (if neg then !b else b))) : U2 w (rInA X.K neg) P := by
  intro σ H Hf s φ v u d e l Q g r1 r2 hp q
  obtain ⟨b, hp', el⟩ := hP d e l hp
  clear hp
  subst el
  unfold pIn at hp'
  split at hp'
  · split at hp'
    · rename_i h
      rw [Bool.and_eq_true] at h
      cases hp'
      rw [c.K]
      exact .inl ⟨_, _, r1.dp g.sub (eqOk_lay h.1), r2.dp g.sub (eqOk_lay h.2), h.1, h.2, q.d g (.bl _)⟩
    · cases hp'
  · split at hp'
    · rename_i h
      rw [Bool.and_eq_true] at h
      cases hp'
      rw [c.K]
      exact .inr (.inl ⟨_, _, r1.dp g.sub (eqOk_lay h.1), r2.dp g.sub (eqOk_lay h.2), h.1, h.2, q.d g (.bl _)⟩)
    · cases hp'
  · split at hp'
    · rename_i h
      obtain ⟨ky, hk⟩ := Option.isSome_iff_exists.mp h
      cases hp'
      have e := keyOf_some hk
      subst e
      obtain ⟨a, kvs, rfl, ha, r2⟩ := r2.dict g.sub
      rw [r2.has ky] at q
      have ev := r1.key
      subst ev
      exact .inr (.inr (.inl ⟨a, _, rfl, .inl ⟨_, _, ha, rfl, rfl⟩, q.d g (.bl _)⟩))
    · cases hp'
  · cases hp'
    exact .inr (.inr (.inr ⟨_, _, r1.str, r2.str, q.d g (.bl _)⟩))
  · cases hp'
theorem pIn_bool {d e : D} {l : L} (h : pIn d e = .ok l) : ∃ b, l = .d (.bool b) := by
  unfold pIn at h
  split at h
  · split at h
    · cases h; exact ⟨_, rfl⟩
    · cases h
  · split at h
    · cases h; exact ⟨_, rfl⟩
    · cases h
  · split at h
    · cases h; exact ⟨_, rfl⟩
    · cases h
  · cases h; exact ⟨_, rfl⟩
  · cases h
theorem ge_in (c : Cok w k X) {pos : Pos} {a b : Expr} {f f' : EV} (ha : GE w X a f) (hb : GE w X b f') (hm : behindInMarks .In b = false := by rfl) : GE w X (.Compare a [.In] [b] pos) (k2 pIn f f') :=
  ge_cmp (op_inA c) (u_inN c false fun d e l h => by obtain ⟨b, rfl⟩ := pIn_bool h; exact ⟨b, h, rfl⟩) ha hb hm
theorem ge_notIn (c : Cok w k X) {pos : Pos} {a b : Expr} {f f' : EV} (ha : GE w X a f) (hb : GE w X b f') (hm : behindInMarks .NotIn b = false := by rfl) : GE w X (.Compare a [.NotIn] [b] pos) (k2 pNotIn f f') :=
  ge_cmp (op_notInA c) (u_inN c true fun d e l h => by
    unfold pNotIn at h
    obtain ⟨l', h1, h2⟩ := R.bind_eq_ok.mp h
    obtain ⟨b, rfl⟩ := pIn_bool h1
    cases h2
    exact ⟨b, h1, rfl⟩) ha hb hm

/-! ### subscripts -/
def rIxDict : R2 := fun x y H Q => ∃ a v, x = .ref a ∧ DGet H a y (some v) ∧ Q v H
theorem ix_dict (c : Cok w k X) : IxR X rIxDict := by
  intro value slice pins s σ H x y v u Q I rx ry ⟨a, z, ex, g, q⟩ hs
  subst ex
  cases rx
  exact tail_any (dict_typeIs I g) PySem.F.slot_dict_getitem.lookup (d_getItem (by have := c.u; omega) I g ry fun w' s' I' rw' => ⟨z, H, I', rw', q⟩) hs
def rIxA (K : PySem.W.Frag) : R2 := fun x y H Q => rIxL K x y H Q ∨ rIxT K x y H Q ∨ rIxDict x y H Q
theorem ix_all (c : Cok w k X) : IxR X (rIxA X.K) := IxR.or ix_list (IxR.or ix_tup (ix_dict c))
theorem atI_of {vs : List V} {xs : List D} {i : Int} {d : D} {K : PySem.W.Frag} {H : Hp} (r : RpA K H vs xs) (h : (ixD xs.length i).bind (fun j => xs[j]?) = some d) : ∃ v, atI vs i = some v ∧ Rp K H v d := by
  unfold atI
  rw [r.length]
  unfold ixD at h
  cases e : ixN xs.length i with
  | none => rw [e] at h; cases h
  | some j =>
    rw [e] at h
    obtain ⟨v, h1, h2⟩ := r.get (i := j) h
    exact ⟨v, h1, h2⟩
theorem optD_ok {o : Option D} {l : L} (h : optD o = .ok l) : ∃ d, o = some d ∧ l = .d d := by
  cases o with
  | none => cases h
  | some d => cases h; exact ⟨d, rfl, rfl⟩
theorem u_ix (c : Cok w k X) : U2 w (rIxA X.K) pIx := by
  intro σ H Hf s φ v u d e l Q g r1 r2 hp q
  unfold pIx at hp
  split at hp
  · obtain ⟨d, h, rfl⟩ := optD_ok hp
    obtain ⟨a, vs, rfl, ha, r1⟩ := r1.list g.sub
    obtain ⟨x, h1, h2⟩ := atI_of r1 h
    exact .inl ⟨a, vs, _, x, rfl, r2.int, SqL.of ha, h1, q.d g h2⟩
  · obtain ⟨d, h, rfl⟩ := optD_ok hp
    obtain ⟨a, vs, rfl, ha, r1⟩ := r1.tup g.sub
    obtain ⟨x, h1, h2⟩ := atI_of r1 h
    rw [c.K]
    exact .inr (.inl ⟨a, vs, _, x, rfl, r2.int, ha.sq, h1, q.d g h2⟩)
  · split at hp
    · rename_i h
      obtain ⟨ky, hk⟩ := Option.isSome_iff_exists.mp h
      obtain ⟨d, h, rfl⟩ := optD_ok hp
      have e := keyOf_some hk
      subst e
      obtain ⟨a, kvs, rfl, ha, r1⟩ := r1.dict g.sub
      have ev := r2.key
      subst ev
      rcases r1.look ky with ⟨h1, h2⟩ | ⟨d', v', h1, h2, h3⟩
      · rw [h1] at h; cases h
      · rw [h1] at h; cases h
        exact .inr (.inr ⟨a, v', rfl, .inl ⟨_, _, ha, rfl, h2.symm⟩, q.d g h3⟩)
    · cases hp
  · cases hp
theorem ge_ix (c : Cok w k X) {pos : Pos} {a b : Expr} {f f' : EV} (ha : GE w X a f) (hb : GE w X b f') (hs : PlainIx b := by exact fun _ _ => rfl) : GE w X (.Subscript a b pos) (k2 pIx f f') :=
  pe_imp (pe_ix (ix_all c) ha hb hs) fun _ _ _ h => tE_2 (u_ix c) h
end
end KV

set_option Elab.async false
set_option linter.all false
set_option maxRecDepth 100000
set_option maxHeartbeats 1000000
/-! KVE: slices, built-in functions, displays, tests. -/
namespace KV
open PySem L2
open PySem.Spec PyProof.Rows

section
variable {w : Wd} {k : Nat} {X : Cx} {pos : Pos} {σ : L2.St} {H Hf : Hp} {s s' : Sl} {φ : Nat → List Addr} {Q : VK}

/-! ### and, or, not, a if t else b -/
theorem kG_ok {f : EV} {d : D} (h : kG f s = .ok (d, s')) : ∃ l, f s = .ok (l, s') ∧ l.get s' = .ok d := by
  obtain ⟨⟨l, s1⟩, h1, h2⟩ := R.bind_eq_ok.mp h
  obtain ⟨d', h3, h4⟩ := R.bind_eq_ok.mp h2
  cases h4
  exact ⟨l, h1, h3⟩
theorem boolOf_ok {d : D} {b : Bool} (h : boolOf d = .ok b) : d = .bool b := by
  unfold boolOf at h
  split at h
  · cases h; rfl
  · cases h
theorem ge_and {a b : Expr} {rest : List Expr} {f f' : EV} (ha : GE w X a f) (hb : GE w X (.BoolOp .And (b :: rest) pos) f') : GE w X (.BoolOp .And (a :: b :: rest) pos) (kAnd f f') := by
  refine pe_imp (pe_and ha hb) fun σ H Q => ?_
  rintro ⟨Hf, s, φ, l, s', g, e, q⟩
  obtain ⟨⟨d, s1⟩, h1, h2⟩ := R.bind_eq_ok.mp e
  obtain ⟨c, h3, h4⟩ := R.bind_eq_ok.mp h2
  obtain ⟨l1, h5, h6⟩ := kG_ok h1
  cases boolOf_ok h3
  refine ⟨Hf, s, φ, l1, s1, g, h5, fun v H1 Hf1 φ1 F1 g1 r1 k1 => ⟨c, (r1.rw g1 h6).bool, ?_⟩⟩
  have q1 := q.later k1 (fun a => .inl) g1
  cases c with
  | true =>
    rw [if_pos rfl]
    exact ⟨Hf1, s1, φ1, l, s', g1, h4, q1⟩
  | false =>
    rw [if_neg Bool.false_ne_true]
    cases h4
    exact q1.d g1 (.bl _)
theorem ge_or {a b : Expr} {rest : List Expr} {f f' : EV} (ha : GE w X a f) (hb : GE w X (.BoolOp .Or (b :: rest) pos) f') : GE w X (.BoolOp .Or (a :: b :: rest) pos) (kOr f f') := by
  refine pe_imp (pe_or ha hb) fun σ H Q => ?_
  rintro ⟨Hf, s, φ, l, s', g, e, q⟩
  obtain ⟨⟨d, s1⟩, h1, h2⟩ := R.bind_eq_ok.mp e
  obtain ⟨c, h3, h4⟩ := R.bind_eq_ok.mp h2
  obtain ⟨l1, h5, h6⟩ := kG_ok h1
  cases boolOf_ok h3
  refine ⟨Hf, s, φ, l1, s1, g, h5, fun v H1 Hf1 φ1 F1 g1 r1 k1 => ⟨c, (r1.rw g1 h6).bool, ?_⟩⟩
  have q1 := q.later k1 (fun a => .inl) g1
  cases c with
  | true =>
    rw [if_pos rfl]
    cases h4
    exact q1.d g1 (.bl _)
  | false =>
    rw [if_neg Bool.false_ne_true]
    exact ⟨Hf1, s1, φ1, l, s', g1, h4, q1⟩
theorem ge_one {op : BoolOp} {a : Expr} {f : EV} (ha : GE w X a f) : GE w X (.BoolOp op [a] pos) f := pe_one ha
theorem ge_not {a : Expr} {f : EV} (ha : GE w X a f) : GE w X (.UnaryOp .Not a pos) (kNot f) := by
  refine pe_imp (pe_not ha) fun σ H Q => ?_
  rintro ⟨Hf, s, φ, l, s', g, e, q⟩
  obtain ⟨⟨d, s1⟩, h1, h2⟩ := R.bind_eq_ok.mp e
  obtain ⟨c, h3, h4⟩ := R.bind_eq_ok.mp h2
  obtain ⟨l1, h5, h6⟩ := kG_ok h1
  have ed := boolOf_ok h3
  simp only at ed
  subst ed
  cases h4
  exact ⟨Hf, s, φ, l1, _, g, h5, fun v H1 Hf1 φ1 F1 g1 r1 k1 => ⟨_, (r1.rw g1 h6).bool, (q.later k1 (fun a => .inl) g1).d g1 (.bl _)⟩⟩

/-! ### tests -/
theorem tB_val {f : EV} {Qb : Bool → Hp → Prop} (h : tB w (bVal f) σ H Qb) : tE w f σ H (fun v H' => ∃ c, v = .bl c ∧ Qb c H') := by
  obtain ⟨Hf, s, φ, b, s', g, e, q⟩ := h
  obtain ⟨⟨d, s1⟩, h1, h2⟩ := R.bind_eq_ok.mp e
  obtain ⟨c, h3, h4⟩ := R.bind_eq_ok.mp h2
  obtain ⟨l1, h5, h6⟩ := kG_ok h1
  cases boolOf_ok h3
  cases h4
  exact ⟨Hf, s, φ, l1, _, g, h5, fun v H1 Hf1 φ1 F1 g1 r1 k1 => ⟨_, (r1.rw g1 h6).bool, q H1 Hf1 φ1 g1 (k1.weak fun a => .inl)⟩⟩
theorem gb_val {e : Expr} {f : EV} (h : GE w X e f) (he : ∀ whole, isTrue e X.env whole = (do let v ← whole; standAt e.pos; holding [v] (truthy v)) := by intro _; rfl) : GB w X e (bVal f) :=
  pt_imp (pt_val h he) fun _ _ _ q => tB_val q
theorem pt_cmpE {op : CmpOp} {a b : Expr} {t : TE} (h : PT X (.Compare a [op] [b] pos) (tTest t)) : PT X (.Compare a [op] [b] pos) (L2.tB t) := pt_imp h fun _ _ _ q => q
/-- a comparison as a test -/
theorem gb_cmp {op : CmpOp} {r : R2} {p : D → D → R L} {a b : Expr} {f f' : EV} (ho : OpR X (compareOp op) r) (u : U2 w r p) (ha : GE w X a f) (hb : GE w X b f') (hm : behindInMarks op b = false) : GB w X (.Compare a [op] [b] pos) (bVal (k2 p f f')) :=
  pt_imp (pt_cmpR ho ha hb hm) fun σ H Q q => tE_2 u (tB_val q)
theorem gb_and {a b : Expr} {rest : List Expr} {f f' : BV} (ha : GB w X a f) (hb : GW w X (.BoolOp .And (b :: rest) pos) f') : GW w X (.BoolOp .And (a :: b :: rest) pos) (bAnd f f') := by
  refine pw_imp (pw_and ha hb) fun σ H Q => ?_
  rintro ⟨Hf, s, φ, b, s', g, e, q⟩
  obtain ⟨⟨c, s1⟩, h1, h2⟩ := R.bind_eq_ok.mp e
  refine ⟨Hf, s, φ, c, s1, g, h1, fun H1 Hf1 φ1 g1 k1 => ?_⟩
  cases c with
  | true =>
    rw [if_pos rfl]
    exact ⟨Hf1, s1, φ1, b, s', g1, h2, fun H2 Hf2 φ2 g2 k2 => q H2 Hf2 φ2 g2 (k1.trans k2 (fun _ => id) fun x hx => g1.own_free hx)⟩
  | false =>
    rw [if_neg Bool.false_ne_true]
    cases h2
    exact q H1 Hf1 φ1 g1 k1
theorem gb_or {a b : Expr} {rest : List Expr} {f f' : BV} (ha : GB w X a f) (hb : GW w X (.BoolOp .Or (b :: rest) pos) f') : GW w X (.BoolOp .Or (a :: b :: rest) pos) (bOr f f') := by
  refine pw_imp (pw_or ha hb) fun σ H Q => ?_
  rintro ⟨Hf, s, φ, b, s', g, e, q⟩
  obtain ⟨⟨c, s1⟩, h1, h2⟩ := R.bind_eq_ok.mp e
  refine ⟨Hf, s, φ, c, s1, g, h1, fun H1 Hf1 φ1 g1 k1 => ?_⟩
  cases c with
  | true =>
    rw [if_pos rfl]
    cases h2
    exact q H1 Hf1 φ1 g1 k1
  | false =>
    rw [if_neg Bool.false_ne_true]
    exact ⟨Hf1, s1, φ1, b, s', g1, h2, fun H2 Hf2 φ2 g2 k2 => q H2 Hf2 φ2 g2 (k1.trans k2 (fun _ => id) fun x hx => g1.own_free hx)⟩
theorem gb_and1 {a : Expr} {f : BV} (ha : GB w X a f) : GW w X (.BoolOp .And [a] pos) f := pw_and1 ha
theorem gb_or1 {a : Expr} {f : BV} (ha : GB w X a f) : GW w X (.BoolOp .Or [a] pos) f := pw_or1 ha
theorem gb_not {a : Expr} {f : BV} (ha : GB w X a f) : GB w X (.UnaryOp .Not a pos) (bNot f) := by
  refine pt_imp (pt_not ha) fun σ H Q => ?_
  rintro ⟨Hf, s, φ, b, s', g, e, q⟩
  obtain ⟨⟨c, s1⟩, h1, h2⟩ := R.bind_eq_ok.mp e
  cases h2
  exact ⟨Hf, s, φ, c, _, g, h1, q⟩
theorem ge_if {c a b : Expr} {t : BV} {f f' : EV} (hc : GB w X c t) (ha : GE w X a f) (hb : GE w X b f') : GE w X (.IfExp c a b pos) (kIf t f f') := by
  refine pe_imp (pe_ifExp hc ha hb) fun σ H Q => ?_
  rintro ⟨Hf, s, φ, l, s', g, e, q⟩
  obtain ⟨⟨d, s1⟩, h1, h2⟩ := R.bind_eq_ok.mp e
  refine ⟨Hf, s, φ, d, s1, g, h1, fun H1 Hf1 φ1 g1 k1 => ?_⟩
  have q1 := q.later k1 (fun _ => id) g1
  cases d with
  | true => exact iteT (show tE w f σ H1 Q from ⟨Hf1, s1, φ1, l, s', g1, h2, q1⟩)
  | false => exact iteF (show tE w f' σ H1 Q from ⟨Hf1, s1, φ1, l, s', g1, h2, q1⟩)

/-! ### a < b < c -/
/-- the value of a number, a text -/
inductive Vs : V → D → Prop
  | int (i : Int) : Vs (.int i) (.int i)
  | str (x : Str) : Vs (.str x) (.str x)
theorem Vs.of {K : PySem.W.Frag} {Hf H : Hp} {v : V} {d : D} (r : Rw K Hf H v d) (h : scl d = true) : Vs v d := by
  cases d with
  | int i => cases r.int; exact .int i
  | str x => cases r.str; exact .str x
  | none => cases h
  | bool b => cases h
  | list xs => cases h
  | tuple xs => cases h
  | dict xs => cases h
/-- an operator on scalars alone -/
def U2s (r : R2) (p : D → D → R L) : Prop := ∀ (H : Hp) (v u : V) (d e : D) (l : L) (Q : VK), Vs v d → Vs u e → p d e = .ok l → ∃ b, l = .d (.bool b) ∧ (Q (.bl b) H → r v u H Q)
theorem s_cmp {P : D → D → R L} {p : Int → Int → Bool} {q : Str → Str → Bool} (h : ∀ d e l, P d e = .ok l → (∃ i j, d = .int i ∧ e = .int j ∧ l = .d (.bool (p i j))) ∨ ∃ i j, d = .str i ∧ e = .str j ∧ l = .d (.bool (q i j))) : U2s (rCmp p q) P := by
  intro H v u d e l Q r1 r2 hp
  rcases h d e l hp with ⟨i, j, rfl, rfl, rfl⟩ | ⟨i, j, rfl, rfl, rfl⟩
  · cases r1; cases r2
    exact ⟨_, rfl, fun q => .inl ⟨i, j, rfl, rfl, q⟩⟩
  · cases r1; cases r2
    exact ⟨_, rfl, fun q => .inr ⟨i, j, rfl, rfl, q⟩⟩
theorem s_lt : U2s (rCmp (fun i j => decide (i < j)) fun i j => decide (i.cps.toList < j.cps.toList)) pLt := s_cmp fun d e l h => by
  unfold pLt at h
  split at h
  · cases h; exact .inl ⟨_, _, rfl, rfl, rfl⟩
  · cases h; exact .inr ⟨_, _, rfl, rfl, rfl⟩
  · cases h
theorem s_le : U2s (rCmp (fun i j => decide (i ≤ j)) fun i j => !decide (j.cps.toList < i.cps.toList)) pLe := s_cmp fun d e l h => by
  unfold pLe at h
  split at h
  · cases h; exact .inl ⟨_, _, rfl, rfl, rfl⟩
  · cases h; exact .inr ⟨_, _, rfl, rfl, rfl⟩
  · cases h
theorem kS_ok {f : EV} {d : D} (h : kS f s = .ok (d, s')) : ∃ l, f s = .ok (l, s') ∧ l.get s' = .ok d ∧ scl d = true := by
  obtain ⟨⟨d', s1⟩, h1, h2⟩ := R.bind_eq_ok.mp h
  simp only at h2
  split at h2
  · rename_i hs
    cases h2
    obtain ⟨l, h3, h4⟩ := kG_ok h1
    exact ⟨l, h3, h4, hs⟩
  · cases h2
theorem tE_chn {r r' : R2} {p p' : D → D → R L} {f f' f'' : EV} (u : U2s r p) (u' : U2s r' p') (h : tE w (kChn p p' f f' f'') σ H Q) : tChain r r' (tE w f) (tE w f') (tE w f'') σ H Q := by
  obtain ⟨Hf, s, φ, l, s', g, e, q⟩ := h
  obtain ⟨⟨d, s1⟩, h1, h2⟩ := R.bind_eq_ok.mp e
  obtain ⟨⟨d', s2⟩, h3, h4⟩ := R.bind_eq_ok.mp h2
  obtain ⟨lb, h5, h6⟩ := R.bind_eq_ok.mp h4
  obtain ⟨l1, h7, h8, h8'⟩ := kS_ok h1
  obtain ⟨l2, h9, h10, h10'⟩ := kS_ok h3
  refine ⟨Hf, s, φ, l1, s1, g, h7, fun v H1 Hf1 φ1 F1 g1 r1 k1 => ⟨Hf1, s1, φ1, l2, s2, g1, h9, fun v' H2 Hf2 φ2 F2 g2 r2 k2 => ?_⟩⟩
  have q2 := (q.later k1 (fun a => .inl) g1).later k2 (fun a => .inl) g2
  have w2 := Vs.of (r2.rw g2 h10) h10'
  have w1 := Vs.of (r1.rw g1 h8) h8'
  obtain ⟨b, rfl, hr⟩ := u H2 v v' d d' lb (fun z H3 => ∃ k, z = .bl k ∧ (if k = true then tE w f'' σ H3 fun w' H4 => r' v' w' H4 Q else Q (.bl false) H3)) w1 w2 h5
  refine hr ⟨b, rfl, ?_⟩
  cases b with
  | false =>
    rw [if_neg Bool.false_ne_true]
    cases h6
    exact q2.d g2 (.bl _)
  | true =>
    rw [if_pos rfl]
    obtain ⟨⟨d3, s3⟩, h11, h12⟩ := R.bind_eq_ok.mp h6
    obtain ⟨lm, h13, h14⟩ := R.bind_eq_ok.mp h12
    obtain ⟨l3, h15, h16, h16'⟩ := kS_ok h11
    cases h14
    refine ⟨Hf2, s2, φ2, l3, _, g2, h15, fun v3 H3 Hf3 φ3 F3 g3 r3 k3 => ?_⟩
    have q3 := q2.later k3 (fun a => .inl) g3
    obtain ⟨b, rfl, hr⟩ := u' H3 v' v3 d' d3 _ Q w2 (Vs.of (r3.rw g3 h16) h16') h13
    exact hr (q3.d g3 (.bl _))
theorem ge_chn {op op' : CmpOp} {r r' : R2} {p p' : D → D → R L} {a b c : Expr} {f f' f'' : EV} (ho : OpR X (compareOp op) r) (u : U2s r p) (ho' : OpR X (compareOp op') r') (u' : U2s r' p') (ha : GE w X a f) (hb : GE w X b f') (hc : GE w X c f'')
    (hm : lastMarks [op, op'] [b, c] = false := by with_unfolding_all rfl) : GE w X (.Compare a [op, op'] [b, c] pos) (kChn p p' f f' f'') := pe_imp (pe_chain ho ho' ha hb hc hm) fun _ _ _ h => tE_chn u u' h
theorem gb_chn {op op' : CmpOp} {r r' : R2} {p p' : D → D → R L} {a b c : Expr} {f f' f'' : EV} (ho : OpR X (compareOp op) r) (u : U2s r p) (ho' : OpR X (compareOp op') r') (u' : U2s r' p') (ha : GE w X a f) (hb : GE w X b f') (hc : GE w X c f'')
    (hm : lastMarks [op, op'] [b, c] = false := by with_unfolding_all rfl) : GB w X (.Compare a [op, op'] [b, c] pos) (bVal (kChn p p' f f' f'')) := by
  refine pt_imp (pt_chain ho ho' ha hb hc hm) fun σ H Q q => ?_
  have q' := tB_val q
  exact tE_chn u u' q'

/-! ### built-in functions -/
section
variable {K : PySem.W.Frag} {H : Hp}
mutual
theorem Rp.dpN : ∀ {v : V} {d : D}, Rp K H v d → d.hasDict = false → Dp K H v d
  | _, _, .non, _ => .non
  | _, _, .bl b, _ => .bl b
  | _, _, .int i, _ => .int i
  | _, _, .str x, _ => .str x
  | _, _, .lst h r, c => .lst (SqL.of h) (RpA.dpN r (by simpa only [PyData.hasDict] using c))
  | _, _, .tup h r, c => .tup h.sq (RpA.dpN r (by simpa only [PyData.hasDict] using c))
  | _, _, .dct _ _, c => by simp only [PyData.hasDict] at c; cases c
theorem RpA.dpN : ∀ {vs : List V} {ds : List D}, RpA K H vs ds → PyData.hasDictAll ds = false → DpAll K H vs ds
  | _, _, .nil, _ => .nil
  | _, _, .cons h r, c => by
    simp only [PyData.hasDictAll, Bool.or_eq_false_iff] at c
    exact .cons (h.dpN c.1) (RpA.dpN r c.2)
end
theorem Rw.dpN {Hf : Hp} {v : V} {d : D} (r : Rw K Hf H v d) (s : Sub Hf H) (c : d.hasDict = false) : Dp K H v d := by
  cases r with
  | st r => exact (r.mono s).dpN c
  | lst h r => exact .lst (SqL.of h) ((r.mono s).dpN (by simpa only [PyData.hasDict] using c))
  | dct h r => simp only [PyData.hasDict] at c; cases c
end
theorem ints_rp {K : PySem.W.Frag} {H : Hp} : ∀ {vs : List V} {ds : List D} {ns : List Int}, RpA K H vs ds → intsOf ds = some ns → vs = ns.map V.int
  | _, _, _, .nil, h => by cases h; rfl
  | _, _, _, .cons (d := d) (ds := ds) r t, h => by
    cases d with
    | int i =>
      simp only [intsOf] at h
      obtain ⟨ms, h1, rfl⟩ := Option.map_eq_some_iff.mp h
      cases r
      rw [List.map_cons, ints_rp t h1]
    | none => cases h
    | bool b => cases h
    | str x => cases h
    | list xs => cases h
    | tuple xs => cases h
    | dict xs => cases h
theorem bools_rp {K : PySem.W.Frag} {H : Hp} : ∀ {vs : List V} {ds : List D} {ns : List Bool}, RpA K H vs ds → boolsOf ds = some ns → vs = ns.map V.bl
  | _, _, _, .nil, h => by cases h; rfl
  | _, _, _, .cons (d := d) (ds := ds) r t, h => by
    cases d with
    | bool i =>
      simp only [boolsOf] at h
      obtain ⟨ms, h1, rfl⟩ := Option.map_eq_some_iff.mp h
      cases r
      rw [List.map_cons, bools_rp t h1]
    | none => cases h
    | int b => cases h
    | str x => cases h
    | list xs => cases h
    | tuple xs => cases h
    | dict xs => cases h
section
variable {a b : Expr} {f f' : EV} {px : Pos}
theorem call_lenR : CallR X (.builtin "len") (fun xs H Q => ∃ a kvs, xs = [V.ref a] ∧ Rd H a (.dK kvs) ∧ Q (.int kvs.length) H) := by
  intro pins s σ H xs us Q I r h
  obtain ⟨a, kvs, rfl, ha, q⟩ := h
  obtain ⟨u, rfl, ru⟩ := vals1 r
  cases ru
  exact d_len I ha fun t s' I' => ⟨.int kvs.length, H, I', ⟨t, rfl⟩, q⟩
theorem ge_len (hm : X.mg "len" = none) (c : Cok w k X) (ha : GE w X a f) (hg : Gl X "len" := by rfl) (he : starEach [a] X.env = (false, eval a X.env) :: starEach [] X.env := by rfl) : GE w X (.Call (.Name "len" px) [a] [] pos) (k1 pLen f) := by
  refine ge_b1 (r := fun xs H Q => (∃ x n, xs = [x] ∧ LenV X.K x H n ∧ Q (.int n) H) ∨ ∃ a kvs, xs = [V.ref a] ∧ Rd H a (.dK kvs) ∧ Q (.int kvs.length) H) (CallR.or call_len call_lenR) ?_ hm ha PySem.boot_len hg (by decide) (by decide) he
  intro σ H Hf s φ v d l Q g r hp q
  unfold pLen at hp
  split at hp
  · cases hp
    obtain ⟨p, vs, rfl, hv, r⟩ := r.list g.sub
    exact .inl ⟨_, vs.length, rfl, .inl ⟨vs, SqL.of hv, rfl⟩, by rw [r.length]; exact q.d g (.int _)⟩
  · cases hp
    obtain ⟨p, vs, rfl, hv, r⟩ := r.tup g.sub
    exact .inl ⟨_, vs.length, rfl, .inr ⟨vs, by rw [c.K]; exact hv.sq, rfl⟩, by rw [r.length]; exact q.d g (.int _)⟩
  · cases hp
    obtain ⟨p, kvs, rfl, hv, r⟩ := r.dict g.sub
    exact .inr ⟨p, kvs, rfl, hv, by rw [r.length]; exact q.d g (.int _)⟩
  · split at hp
    · rename_i hz
      cases hp
      cases r.str
      exact .inl ⟨_, _, rfl, ⟨sz_line (szOk_le hz), rfl⟩, q.d g (.int _)⟩
    · cases hp
  · cases hp
theorem ge_intF (hm : X.mg "int" = none) (ha : GE w X a f) (hg : Gl X "int" := by rfl) (he : starEach [a] X.env = (false, eval a X.env) :: starEach [] X.env := by rfl) : GE w X (.Call (.Name "int" px) [a] [] pos) (k1 pInt f) := by
  refine ge_t1 call_int1 ?_ hm ha PyProof.Rows.boot_int hg (by decide) (by decide) he
  intro σ H Hf s φ v d l Q g r hp q
  unfold pInt at hp
  split at hp
  · cases hp
    exact .inl ⟨_, by rw [r.int], q.d g (.int _)⟩
  · cases hp
    refine .inr ⟨_, by rw [r.bool], q.d g (.int _)⟩
  · cases hp
theorem ge_abs (hm : X.mg "abs" = none) (ha : GE w X a f) (hg : Gl X "abs" := by rfl) (he : starEach [a] X.env = (false, eval a X.env) :: starEach [] X.env := by rfl) : GE w X (.Call (.Name "abs" px) [a] [] pos) (k1 pAbs f) := by
  refine ge_b1 call_abs ?_ hm ha PyProof.Rows.boot_abs hg (by decide) (by decide) he
  intro σ H Hf s φ v d l Q g r hp q
  unfold pAbs at hp
  split at hp
  · cases hp
    exact ⟨_, by rw [r.int], q.d g (.int _)⟩
  · cases hp
theorem ge_max2 (hm : X.mg "max" = none) (c : Cok w k X) (ha : GE w X a f) (hb : GE w X b f') (hg : Gl X "max" := by rfl) (he : starEach [a, b] X.env = (false, eval a X.env) :: starEach [b] X.env := by rfl) (hb' : starEach [b] X.env = (false, eval b X.env) :: starEach [] X.env := by rfl) :
    GE w X (.Call (.Name "max" px) [a, b] [] pos) (k2 pMax2 f f') := by
  refine ge_b2 (call_max2 c.calm) ?_ hm ha hb PyProof.Rows.boot_max hg (by decide) (by decide) he hb'
  intro σ H Hf s φ v u d e l Q g r1 r2 hp q
  unfold pMax2 at hp
  split at hp
  · cases hp
    exact ⟨_, _, by rw [r1.int, r2.int], q.d g (.int _)⟩
  · cases hp
theorem ge_min2 (hm : X.mg "min" = none) (c : Cok w k X) (ha : GE w X a f) (hb : GE w X b f') (hg : Gl X "min" := by rfl) (he : starEach [a, b] X.env = (false, eval a X.env) :: starEach [b] X.env := by rfl) (hb' : starEach [b] X.env = (false, eval b X.env) :: starEach [] X.env := by rfl) :
    GE w X (.Call (.Name "min" px) [a, b] [] pos) (k2 pMin2 f f') := by
  refine ge_b2 (call_min2 c.calm) ?_ hm ha hb (by decide +kernel) hg (by decide) (by decide) he hb'
  intro σ H Hf s φ v u d e l Q g r1 r2 hp q
  unfold pMin2 at hp
  split at hp
  · cases hp
    exact ⟨_, _, by rw [r1.int, r2.int], q.d g (.int _)⟩
  · cases hp
/-- tuple(x): a new tuple of a list, a tuple itself -/
def rTupF (K : PySem.W.Frag) : List V → Hp → VK → Prop := fun xs H Q => ∃ p ys, xs = [.ref p] ∧ ((SqL K H p ys ∧ ∀ l, H l = none → ∀ o : Obj, o.dict = none → Q (.ref l) (upd H l (.frz o (.tup ys)))) ∨ (SqT K H p ys ∧ Q (.ref p) H))
theorem call_tupF : CallR X (.type "tuple") (rTupF X.K) := by
  intro pins s σ H xs us Q I r ⟨p, ys, ex, h⟩
  subst ex
  obtain ⟨u, rfl, rx⟩ := vals1 r
  cases rx
  rcases h with ⟨hq, q⟩ | ⟨hq, q⟩
  · obtain ⟨its, r', pl, hz⟩ := I.list hq
    have hlen := r'.length
    refine call_tuple_list pl.isList (fun h' kp => ?_) (by simp only [List.size_toArray] <;> omega)
    have I1 : Inv X pins σ H { s with heap := h' } := I.kept (t' := s.toks) kp
    have I2 := I1.laid (t' := s.toks) (a := h'.objs.size) (h' := h'.push { cls := .type "tuple", data := .seq its.toArray }) (o := .frz { cls := .type "tuple", data := .seq its.toArray } (.tup ys)) (fun b o e => Heap.get?_push_of_some _ e) (Nat.le_refl _)
      ⟨Heap.get?_push_size _ rfl, hz, its, r', IsTup.new _ _⟩
    exact ⟨.ref h'.objs.size, _, I2, rfl, q _ (I1.hok.fresh (Nat.le_refl _)) _ rfl⟩
  · obtain ⟨its, r', pl, hz⟩ := I.tuple hq
    exact call_tuple_same pl ⟨.ref p, H, I, rfl, q⟩
theorem ge_tuple (hm : X.mg "tuple" = none) (c : Cok w k X) (ha : GE w X a f) (hg : Gl X "tuple" := by rfl) (he : starEach [a] X.env = (false, eval a X.env) :: starEach [] X.env := by rfl) : GE w X (.Call (.Name "tuple" px) [a] [] pos) (k1 pTuple f) := by
  refine ge_t1 call_tupF ?_ hm ha PyProof.Rows.boot_tuple hg (by decide) (by decide) he
  intro σ H Hf s φ v d l Q g r hp q
  unfold pTuple at hp
  split at hp
  · cases hp
    obtain ⟨p, vs, rfl, hv, r⟩ := r.list g.sub
    exact ⟨p, vs, rfl, .inl ⟨SqL.of hv, fun l hl o ho => q.tup g r hl ho⟩⟩
  · cases hp
    have t := r.tupR
    obtain ⟨p, vs, rfl, hv, r⟩ := r.tup g.sub
    exact ⟨p, vs, rfl, .inr ⟨by rw [c.K]; exact hv.sq, q.d g t⟩⟩
  · cases hp
theorem ge_list (hm : X.mg "list" = none) (c : Cok w k X) (ha : GE w X a f) (hg : Gl X "list" := by rfl) (he : starEach [a] X.env = (false, eval a X.env) :: starEach [] X.env := by rfl) : GE w X (.Call (.Name "list" px) [a] [] pos) (k1 pList f) := by
  refine ge_t1 (CallR.or call_list_of (call_listD c.calm)) ?_ hm ha PyProof.Rows.boot_list hg (by decide) (by decide) he
  intro σ H Hf s φ v d l Q g r hp q
  unfold pList at hp
  split at hp
  · cases hp
    obtain ⟨p, vs, rfl, hv, r⟩ := r.list g.sub
    exact .inl ⟨p, vs, rfl, .inl (SqL.of hv), fun l hl => q.lst g r hl⟩
  · cases hp
    obtain ⟨p, vs, rfl, hv, r⟩ := r.tup g.sub
    exact .inl ⟨p, vs, rfl, .inr (by rw [c.K]; exact hv.sq), fun l hl => q.lst g r hl⟩
  · cases hp
    obtain ⟨p, kvs, rfl, hv, r⟩ := r.dict g.sub
    exact .inr ⟨p, kvs, rfl, hv, fun l hl => q.lst g r.keys hl⟩
  · cases hp
theorem ge_strF (hm : X.mg "str" = none) (ha : GE w X a f) (hg : Gl X "str" := by rfl) (he : starEach [a] X.env = (false, eval a X.env) :: starEach [] X.env := by rfl) : GE w X (.Call (.Name "str" px) [a] [] pos) (k1 pStr f) := by
  refine ge_t1 (CallR.or call_str_int SkE.call_str_str) ?_ hm ha PyProof.Rows.boot_str hg (by decide) (by decide) he
  intro σ H Hf s φ v d l Q g r hp q
  unfold pStr at hp
  split at hp
  · split at hp
    · rename_i hz
      cases hp
      exact .inl ⟨_, by rw [r.int], hz, q.d g (.str _)⟩
    · cases hp
  · cases hp
    exact .inr ⟨_, by rw [r.str], q.d g (.str _)⟩
  · cases hp
/-! ### repr -/
def rRepr (K : PySem.W.Frag) : List V → Hp → VK → Prop := fun xs H Q => ∃ x d, xs = [x] ∧ Dp K H x d ∧ d.showable = true ∧ d.depth ≤ 64 ∧ d.hasDict = false ∧ d.shown.length ≤ sizeLine ∧ Q (.str d.shown) H
theorem call_reprF (c : Cok w k X) : CallR X (.builtin "repr") (rRepr X.K) := by
  intro pins s σ H xs us Q I r ⟨x, d, ex, hd, h1, h2, h3, h4, q⟩
  subst ex
  obtain ⟨u, rfl, rx⟩ := vals1 r
  have hu := c.u
  obtain ⟨as, rd⟩ := Dp.reads I d x u hd rx
  have fin : ∀ (h' : Heap) (t : Tok) (tk : Nat), (∀ b o, s.heap.get? b = some o → h'.get? b = some o) → EP X pins σ Q (.str d.shown t) { s with heap := h', toks := tk } := fun h' t tk hk => ⟨.str d.shown, H, I.kept hk, ⟨t, rfl⟩, q⟩
  cases rd with
  | none => exact call_repr_gives (typeIs_none s) F.slot_NoneType_repr F.entry_NoneType_repr (F.args_NoneType_repr_1 _) gives_none_repr (fin _ _ _ fun _ _ e => e) (hx := by decide)
  | bool b => exact call_repr_gives (PySem.typeIs_bool s b) F.slot_bool_repr F.entry_bool_repr (F.args_bool_repr_1 _) (gives_bool_repr b) (fin _ _ _ fun _ _ e => e) (hx := by cases b <;> decide)
  | int i t => 
    have hz : i.natAbs.log2 < 1920 := by simpa [PyData.showable] using h1
    exact call_repr_gives (typeIs_int s i t) F.slot_int_repr F.entry_int_repr (F.args_int_repr_1 _) (gives_int_repr i t hz) (fin _ _ _ fun _ _ e => e) (hx := int_text_fits hz)
  | str y t => exact call_repr_gives (typeIs_str s y t) F.slot_str_repr F.entry_str_repr (F.args_str_repr_1 _) (gives_str_repr y t) (fin _ _ _ fun _ _ e => e) (hx := by simpa only [PyData.shown] using h4)
  | list e1 e2 e3 e4 =>
    exact repr_of_reads' (.list e1 e2 e3 e4) h1 (fun z => by rw [h3] at z; cases z) c.gd (by omega) (fun _ _ e => e) (fun h' t tk hk => fin h' t tk hk) h4
  | tuple e1 e2 e3 e4 =>
    exact repr_of_reads' (.tuple e1 e2 e3 e4) h1 (fun z => by rw [h3] at z; cases z) c.gd (by omega) (fun _ _ e => e) (fun h' t tk hk => fin h' t tk hk) h4
  | dict e1 e2 e3 e4 e5 => cases h3
theorem ge_repr (hm : X.mg "repr" = none) (c : Cok w k X) (ha : GE w X a f) (hg : Gl X "repr" := by rfl) (he : starEach [a] X.env = (false, eval a X.env) :: starEach [] X.env := by rfl) : GE w X (.Call (.Name "repr" px) [a] [] pos) (k1 pRepr f) := by
  refine ge_b1 (call_reprF c) ?_ hm ha PyProof.Rows.boot_repr hg (by decide) (by decide) he
  intro σ H Hf s φ v d l Q g r hp q
  unfold pRepr showOk at hp
  split at hp
  · rename_i hs
    simp only [Bool.and_eq_true, decide_eq_true_eq] at hs
    obtain ⟨⟨⟨h1, h2⟩, h3⟩, h4⟩ := hs
    cases hp
    rw [c.K]
    have h3' : d.hasDict = false := by simpa using h3
    exact ⟨v, d, rfl, r.dpN g.sub h3', h1, h2, h3', h4, q.d g (.str _)⟩
  · cases hp

theorem ge_sum (hm : X.mg "sum" = none) (c : Cok w k X) (ha : GE w X a f) (hg : Gl X "sum" := by rfl) (he : starEach [a] X.env = (false, eval a X.env) :: starEach [] X.env := by rfl) : GE w X (.Call (.Name "sum" px) [a] [] pos) (k1 pSum f) := by
  refine ge_b1 (cr_sum c.calm) ?_ hm ha (by decide +kernel) hg (by decide) (by decide) he
  intro σ H Hf s φ v d l Q g r hp q
  unfold pSum at hp
  split at hp
  · split at hp
    · rename_i xs ns hn
      cases hp
      obtain ⟨p, vs, rfl, hv, r⟩ := r.list g.sub
      have e : vs = ns.map V.int := ints_rp r hn
      subst e
      exact ⟨p, ns, rfl, SqL.of hv, q.d g (.int _)⟩
    · cases hp
  · cases hp
theorem ge_all (hm : X.mg "all" = none) (c : Cok w k X) (ha : GE w X a f) (hg : Gl X "all" := by rfl) (he : starEach [a] X.env = (false, eval a X.env) :: starEach [] X.env := by rfl) : GE w X (.Call (.Name "all" px) [a] [] pos) (k1 pAll f) := by
  refine ge_b1 (cr_all c.calm) ?_ hm ha (by decide +kernel) hg (by decide) (by decide) he
  intro σ H Hf s φ v d l Q g r hp q
  unfold pAll at hp
  split at hp
  · split at hp
    · rename_i xs bs hn
      cases hp
      obtain ⟨p, vs, rfl, hv, r⟩ := r.list g.sub
      have e : vs = bs.map V.bl := bools_rp r hn
      subst e
      exact ⟨p, bs, rfl, SqL.of hv, q.d g (.bl _)⟩
    · cases hp
  · cases hp
end
end
end KV

set_option Elab.async false
set_option linter.all false
set_option maxRecDepth 100000
set_option maxHeartbeats 1000000
/-! KVF: isinstance, index, slices, dicts, displays. -/
namespace KV
open PySem L2
open PySem.Spec PyProof.Rows

section
variable {w : Wd} {k : Nat} {X : Cx} {pos : Pos} {σ : L2.St} {H Hf : Hp} {s s' : Sl} {φ : Nat → List Addr} {Q : VK}

/-! ### isinstance -/
def isiOk (ty : String) : Prop := ∀ d : D, kitB (tyOf d) ty = some (tyOf d == ty || (ty == "int" && tyOf d == "bool"))
theorem isi_int : isiOk "int" := fun d => by cases d <;> (simp only [tyOf]; decide +kernel)
theorem isi_str : isiOk "str" := fun d => by cases d <;> (simp only [tyOf]; decide +kernel)
theorem isi_bool : isiOk "bool" := fun d => by cases d <;> (simp only [tyOf]; decide +kernel)
theorem isi_tuple : isiOk "tuple" := fun d => by cases d <;> (simp only [tyOf]; decide +kernel)
theorem isi_list : isiOk "list" := fun d => by cases d <;> (simp only [tyOf]; decide +kernel)
theorem isi_dict : isiOk "dict" := fun d => by cases d <;> (simp only [tyOf]; decide +kernel)
theorem Rp.ty {K : PySem.W.Frag} {v : V} {d : D} (r : Rp K H v d) (nd : ∀ kvs, d ≠ .dict kvs) : TyX K H v (.type (tyOf d)) := by
  cases r with
  | non => exact .base .non
  | bl b => exact .base (.bl b)
  | int i => exact .base (.int i)
  | str x => exact .base (.str x)
  | lst h _ => exact .base (.lst h)
  | tup h _ =>
    rcases h with ⟨o, h, _⟩ | ⟨o, its, n, h1, h2, _⟩
    · exact .fTuple h
    · exact .kTuple h1 h2
  | dct h _ => exact (nd _ rfl).elim
theorem Rw.ty {K : PySem.W.Frag} {v : V} {d : D} (r : Rw K Hf H v d) (s : Sub Hf H) (nd : ∀ kvs, d ≠ .dict kvs) : TyX K H v (.type (tyOf d)) := by
  cases r with
  | st r => exact (r.mono s).ty nd
  | lst h _ => exact .base (.lst h)
  | dct h _ => exact (nd _ rfl).elim
theorem ge_isi {ty : String} {x : Str} {a : Expr} {f : EV} {px p2 : Pos} (ho : isiOk ty) (hm : X.mg "isinstance" = none) (hm2 : X.mg x = none) (c : Cok w k X) (ha : GE w X a f) (hv : bootBuiltins x = some (.type ty) := by decide +kernel)
    (hg : Gl X "isinstance" := by rfl) (hg2 : Gl X x := by rfl) (hn : x ≠ "__name__" := by decide) (hdb : (x == ("__debug__" : Str)) = false := by decide)
    (he : starEach [a, .Name x p2] X.env = (false, eval a X.env) :: starEach [.Name x p2] X.env := by rfl) :
    GE w X (.Call (.Name "isinstance" px) [a, .Name x p2] [] pos) (k1 (pIsI ty) f) := by
  refine pe_imp (pe_callB call_isi hg hm PyProof.Rows.boot_isinstance (pa_cons ha (pa_cons (pe_bltn (v := .ty ty) hg2 hm2 hv rfl hn hdb) pa_nil) he) (by decide) (by decide) he) fun σ H Q h => ?_
  refine tE_1 (r := fun v H Q => rIsi X.K [v, .ty ty] H Q) ?_ h
  intro σ H Hf s φ v d l Q g r hp q
  unfold pIsI at hp
  split at hp
  · cases hp
  · rename_i nd
    cases hp
    rw [c.K]
    exact ⟨v, .ty ty, _, _, _, rfl, .ty ty, r.ty g.sub nd, kit_ty (ho d), q.d g (.bl _)⟩

/-! ### a[lo:hi] -/
def tP (w : Wd) (f : Option EV) : TO := fun σ H Q => ∃ Hf s φ o s', Good w σ H Hf s φ ∧ partOf f s = .ok (o, s') ∧
  ∀ H' Hf' φ', Good w σ H' Hf' s' φ' → Stp H Hf (Own s φ) H' Hf' (Own s' φ') → Q o H'
abbrev GP (w : Wd) (X : Cx) (e : Option Expr) (f : Option EV) : Prop := PO X e (tP w f)
theorem po_imp {X : Cx} {e : Option Expr} {t t' : TO} (h : PO X e t) (i : ∀ σ H Q, t' σ H Q → t σ H Q) : PO X e t' := ⟨fun pins s σ H Q I q => h.run pins s σ H Q I (i σ H Q q)⟩
theorem gp_none : GP w X none none := po_imp po_none fun σ H Q => by
  rintro ⟨Hf, s, φ, o, s', g, e, q⟩
  cases e
  exact q H Hf φ g Stp.refl
theorem gp_some {e : Expr} {f : EV} (h : GE w X e f) : GP w X (some e) (some f) := po_imp (po_some h) fun σ H Q => by
  rintro ⟨Hf, s, φ, o, s', g, e, q⟩
  obtain ⟨⟨d, s1⟩, h1, h2⟩ := R.bind_eq_ok.mp e
  obtain ⟨l1, h5, h6⟩ := kG_ok h1
  simp only at h2
  split at h2
  · cases h2
    exact ⟨Hf, s, φ, l1, _, g, h5, fun v H1 Hf1 φ1 F1 g1 r1 k1 => ⟨_, (r1.rw g1 h6).int, q H1 Hf1 φ1 g1 (k1.weak fun a => .inl)⟩⟩
  · cases h2
/-- t[lo:hi], a new tuple told by its object -/
def rSlF (K : PySem.W.Frag) : V → Option Int → Option Int → Hp → VK → Prop := fun x lo hi H Q => ∃ a xs, x = .ref a ∧ STup K H a xs ∧ (HT.sIx xs.length 0 lo = 0 ∧ HT.sIx xs.length xs.length hi = xs.length → Q (.ref a) H) ∧
  (¬ (HT.sIx xs.length 0 lo = 0 ∧ HT.sIx xs.length xs.length hi = xs.length) → ∀ p, H p = none → ∀ o : Obj, o.dict = none → Q (.ref p) (upd H p (.frz o (.tup (cutV xs lo hi)))))
theorem sl_tupF : SlR X (rSlF X.K) := by
  intro pins s σ H x v vl vu lo hi sl Q I rx hs pl pu ⟨a, xs, ex, hx, q1, q2⟩
  subst ex
  cases rx
  obtain ⟨its, r, ht, hz⟩ := I.tuple hx.sq
  have hlen : its.toArray.size = xs.length := by rw [List.size_toArray]; exact r.length.symm
  refine ⟨"tuple", _, PyProof.Rows.slot_tuple_getitem.lookup, ht.typeIs, ?_⟩
  by_cases hw : HT.sIx xs.length 0 lo = 0 ∧ HT.sIx xs.length xs.length hi = xs.length
  · exact getItem_tuple_whole ht hs pl pu (by rw [hlen]; exact hw) ⟨.ref a, H, I, rfl, q1 hw⟩
  · refine HT.getItem_tuple_cut ht hs pl pu (by rw [hlen]; exact hw) ?_ (by rw [hlen]; exact hz)
    rw [hlen]
    have hl := I.laid (t' := s.toks) (a := s.heap.objs.size) (h' := s.heap.push { cls := .type "tuple", data := .seq ((its.drop (HT.sIx xs.length 0 lo)).take (HT.sIx xs.length xs.length hi - HT.sIx xs.length 0 lo)).toArray })
      (o := .frz { cls := .type "tuple", data := .seq ((its.drop (HT.sIx xs.length 0 lo)).take (HT.sIx xs.length xs.length hi - HT.sIx xs.length 0 lo)).toArray } (.tup (cutV xs lo hi))) (fun b ob q => Heap.get?_push_of_some _ q) (Nat.le_refl _)
      ⟨Heap.get?_push_size _ rfl, Nat.le_trans (cutV_length xs lo hi) hz, _, (r.drop (HT.sIx xs.length 0 lo)).take (HT.sIx xs.length xs.length hi - HT.sIx xs.length 0 lo), IsTup.new _ _⟩
    exact ⟨.ref s.heap.objs.size, _, hl, rfl, q2 hw _ (I.hok.fresh (Nat.le_refl _)) _ rfl⟩
theorem cut_rp {K : PySem.W.Frag} {H : Hp} {vs : List V} {ds : List D} (r : RpA K H vs ds) (lo hi : Option Int) : RpA K H (cutV vs lo hi) (cutD ds lo hi) := by
  unfold cutV cutD
  rw [r.length]
  exact (r.drop _).take _
theorem cutD_whole {ds : List D} {lo hi : Option Int} (h : HT.sIx ds.length 0 lo = 0 ∧ HT.sIx ds.length ds.length hi = ds.length) : cutD ds lo hi = ds := by
  unfold cutD
  rw [h.1, h.2]
  simp
theorem ge_sl (c : Cok w k X) {e : Expr} {lo hi : Option Expr} {p2 : Pos} {f : EV} {fl fh : Option EV} (he : GE w X e f) (hl : GP w X lo fl) (hh : GP w X hi fh) : GE w X (.Subscript e (.Slice lo hi none p2) pos) (kSl f fl fh) := by
  refine pe_imp (pe_slice (r := fun x lo hi H Q => rSlL X.K x lo hi H Q ∨ rSlF X.K x lo hi H Q) (SlR.or sl_list sl_tupF) he hl hh) fun σ H Q => ?_
  rintro ⟨Hf, s, φ, l, s', g, e, q⟩
  obtain ⟨⟨l1, s1⟩, h1, h2⟩ := R.bind_eq_ok.mp e
  obtain ⟨⟨o1, s2⟩, h3, h4⟩ := R.bind_eq_ok.mp h2
  obtain ⟨⟨o2, s3⟩, h5, h6⟩ := R.bind_eq_ok.mp h4
  obtain ⟨d, h7, h8⟩ := R.bind_eq_ok.mp h6
  obtain ⟨l', h9, h10⟩ := R.bind_eq_ok.mp h8
  cases h10
  refine ⟨Hf, s, φ, l1, s1, g, h1, fun v H1 Hf1 φ1 F1 g1 r1 k1 => ⟨Hf1, s1, φ1, o1, s2, g1, h3, fun H2 Hf2 φ2 g2 k2 => ⟨Hf2, s2, φ2, o2, _, g2, h5, fun H3 Hf3 φ3 g3 k3 => ?_⟩⟩⟩
  have q3 := ((q.later k1 (fun a => .inl) g1).later k2 (fun _ => id) g2).later k3 (fun _ => id) g3
  have r3 := ((r1.stay (s' := s2) (φ' := φ2) k2 fun _ => id).stay (s' := s3) (φ' := φ3) k3 fun _ => id).rw g3 h7
  unfold pSl at h9
  split at h9
  · cases h9
    obtain ⟨a, vs, rfl, ha, r⟩ := r3.list g3.sub
    exact .inl ⟨a, vs, rfl, SqL.of ha, fun p hp => q3.lst g3 (cut_rp r o1 o2) hp⟩
  · cases h9
    have t := r3.tupR
    obtain ⟨a, vs, rfl, ha, r⟩ := r3.tup g3.sub
    refine .inr ⟨a, vs, rfl, by rw [c.K]; exact ha, fun e => ?_, fun _ p hp o ho => q3.tup g3 (cut_rp r o1 o2) hp ho⟩
    rw [r.length] at e
    rw [cutD_whole e] at q3
    exact q3.d g3 t
  · cases h9
theorem ge_rev {e : Expr} {j : Nat} {p1 p2 p3 : Pos} {f : EV} (he : GE w X e f) : GE w X (.Subscript e (.Slice none none (some (.UnaryOp .USub (.Constant (.int 1) j p1) p2)) p3) pos) (k1 pRev f) :=
  pe_imp (pe_revL he) fun σ H Q h => tE_1 (r := fun v H1 Q => ∃ a xs, v = .ref a ∧ SqL X.K H1 a xs ∧ ∀ p, H1 p = none → Q (.ref p) (upd H1 p (.lst xs.reverse))) (fun σ H Hf s φ v d l Q g r hp q => by
    unfold pRev at hp
    split at hp
    · cases hp
      obtain ⟨a, vs, rfl, ha, r⟩ := r.list g.sub
      exact ⟨a, vs, rfl, SqL.of ha, fun p hp => q.lst g r.rev hp⟩
    · cases hp) h

/-! ### a.index(b) -/
theorem firstAt_ok {d : D} : ∀ {ds : List D} {j : Nat}, firstAt d ds = some j → ∃ z, ds[j]? = some z ∧ PyData.eqv z d = true ∧ ∀ (m : Nat) (z' : D), m < j → ds[m]? = some z' → PyData.eqv z' d = false
  | [], _, h => by cases h
  | z :: r, j, h => by
    unfold firstAt at h
    split at h
    · rename_i e
      cases h
      exact ⟨z, rfl, e, fun m _ hm => absurd hm (Nat.not_lt_zero m)⟩
    · rename_i e
      obtain ⟨j', h1, rfl⟩ := Option.map_eq_some_iff.mp h
      obtain ⟨y, h2, h3, h4⟩ := firstAt_ok h1
      refine ⟨y, by simpa using h2, h3, fun m z' hm hz => ?_⟩
      cases m with
      | zero => simp at hz; subst hz; simpa using e
      | succ m => exact h4 m z' (by omega) (by simpa using hz)
def rIdxT (K : PySem.W.Frag) : V → List V → Hp → VK → Prop := fun x xs H Q => ∃ (y : V) (d : D) (ds : List D) (j : Nat), xs = [y] ∧ Dp K H x (.tuple ds) ∧ SeqAt.shaped (.tuple ds) = true ∧ Dp K H y d ∧ SeqAt.shaped d = true ∧ firstAt d ds = some j ∧ Q (.int (j : Nat)) H
theorem mt_indexT (c : Cok w k X) : MtR X "tuple.index" (rIdxT X.K) := by
  intro pins s σ H x xs v us Q I rx rxs ⟨y, d, ds, j, exs, hl, sl, hy, sd, hj, q⟩
  subst exs
  obtain ⟨z, hz, hzj, hno⟩ := firstAt_ok hj
  obtain ⟨uy, rfl, ry⟩ := vals1 rxs
  obtain ⟨bs, r1⟩ := Dp.reads I d y uy hy ry
  have hxs : PyData.canLayAll0 ds = true := by have := SeqAt.canLay_of_shaped sl; simpa only [PyData.canLay0] using this
  have hroom : X.A.units + 1 + min (PyData.depthAll ds) d.depth < cLine := room_in_shaped sd (by have := c.u; omega)
  cases hl with
  | tup hs ha =>
    cases rx
    obtain ⟨its, rv, ⟨⟨cls, dd, data, sls⟩, ho, hc, n, hd⟩, hlen⟩ := I.tuple hs
    simp only at hc hd
    subst hc hd
    obtain ⟨as, h4⟩ := Dp.readsAll I ds _ its ha rv
    have hn : its.length = ds.length := SeqAt.ReadsAll.length ds its as h4
    have hmap : its.map (SeqAt.readOf s.heap) = ds := SeqAt.readsAll_map ds its as hxs h4
    obtain ⟨hjd, _⟩ := List.getElem?_eq_some_iff.mp hz
    have hj' : j < its.toArray.size := by simpa [hn] using hjd
    have at_ : ∀ (m : Nat) (hm : m < its.toArray.size) (z' : D), ds[m]? = some z' → SeqAt.readOf s.heap its.toArray[m] = z' := by
      intro m hm z' hz'
      have hml : m < its.length := by simpa using hm
      rw [← hmap, List.getElem?_map, List.getElem?_eq_getElem hml] at hz'
      have e1 : SeqAt.readOf s.heap its[m] = z' := Option.some.inj (show some (SeqAt.readOf s.heap its[m]) = some z' from hz')
      simpa using e1
    refine call_meets PySem.F.slot_tuple_index ⟨_, ho, rfl⟩ PySem.F.entry_tuple_index (PySem.F.args_tuple_index_2 _ _)
      (TI.tuple_indexAt _ its.toArray n dd sls uy (fun u => PyData.eqv (SeqAt.readOf s.heap u) d) j hj' ?_ ?_) ⟨ho, SeqAt.items_eqAt (vs := its.toArray) (show ReadsAll s.heap its.toArray.toList ds as from h4) r1 hxs (SeqAt.canLay_of_shaped sd) hroom, ?_⟩
    · show PyData.eqv (SeqAt.readOf s.heap its.toArray[j]) d = true
      rw [at_ j hj' z hz]
      exact hzj
    · intro m hm hmj
      have hmd : m < ds.length := by omega
      have hz' : ds[m]? = some ds[m] := List.getElem?_eq_getElem hmd
      show PyData.eqv (SeqAt.readOf s.heap its.toArray[m]) d = false
      rw [at_ m hm _ hz']
      exact hno m _ hmj hz'
    · exact ⟨.int (j : Nat), H, I.tok _, ⟨_, rfl⟩, q⟩
/-! ### a method of a value whose type shows when it is there -/
def tyW (K : PySem.W.Frag) (T : String) (x : V) (H : Hp) : Prop :=
  (T = "list" ∧ ∃ a vs, x = .ref a ∧ H a = some (.lst vs)) ∨ (T = "tuple" ∧ ∃ a vs, x = .ref a ∧ STup K H a vs) ∨ (T = "dict" ∧ ∃ a vs, x = .ref a ∧ Rd H a (.dK vs)) ∨ (T = "str" ∧ ∃ z, x = .str z)
theorem tyW_is {pins : List (Addr × Obj)} {σ : L2.St} {H : Hp} {s : Shared} {T : String} {x : V} {v : Value} (I : Inv X pins σ H s) (r : RelV x v) (ty : tyW X.K T x H) :
    s.TypeIs v T ∧ ∀ a, v = .ref a → ∃ ob, s.heap.get? a = some ob ∧ ob.dict = none := by
  rcases ty with ⟨rfl, a, vs, rfl, h⟩ | ⟨rfl, a, vs, rfl, h⟩ | ⟨rfl, a, vs, rfl, h⟩ | ⟨rfl, z, rfl⟩
  · exact tyV_is I r (T := "list") (.inl ⟨rfl, vs, SqL.of h⟩)
  · cases (show v = Value.ref a from r)
    rcases h with ⟨o, h, d⟩ | ⟨o, its, n, h1, h2, h3, _⟩
    · obtain ⟨e, _, its, _, o', e', hc, _⟩ := I.hok a _ h
      have : o' = o := Option.some.inj (e'.symm.trans e)
      subst this
      refine ⟨⟨o', e, hc⟩, fun b eb => ?_⟩
      cases eb
      exact ⟨o', e, d⟩
    · refine ⟨⟨o, I.kIn a o h1, h2⟩, fun b eb => ?_⟩
      cases eb
      exact ⟨o, I.kIn _ o h1, h3⟩
  · cases (show v = Value.ref a from r)
    obtain ⟨_, _, _, _, o, es, ep, e1, e2, _⟩ := dk_rd I.hok h
    refine ⟨⟨o, e1, e2.1⟩, fun b eb => ?_⟩
    cases eb
    exact ⟨o, e1, e2.2.1⟩
  · exact tyV_is I r (T := "str") rfl
/-- what a type has by that name -/
structure MeOk (X : Cx) (name : Str) (T id : String) (r : V → List V → Hp → VK → Prop) : Prop where
  pa : PlainAttrs T
  slot : Slot T name id
  ty : typeOf (.builtin id) = pure (.type "method_descriptor")
  mt : MtR X id r
def tMD (X : Cx) (name : Str) (to : TE) (t : TA) : TE := fun σ H Q => to σ H fun x H1 => ∃ T id r, MeOk X name T id r ∧ tyW X.K T x H1 ∧ t σ H1 fun vs H2 => r x vs H2 Q
section
variable {name : Str} {o e : Expr} {es : List Expr} {apos cpos : Pos} {to : TE} {t : TA}
theorem pe_md (ho : PE X o to) (ha : PA X (e :: es) t) (hbase : attributeBase o name X.env (eval o X.env) = eval o X.env)
    (hfew : ((backTo cpos (starEach (e :: es) X.env)).all (fun x => !x.1) && (backToKw cpos (keywordEach [] X.env)).all (fun x => x.1.isSome)
      && decide ((e :: es).length + ([] : List Keyword).length + (if ([] : List Keyword).isEmpty then 0 else 1) < 30)) = true)
    (hline : (apos.endLine == cpos.line) = true) (hs : starEach (e :: es) X.env = (false, eval e X.env) :: starEach es X.env) (hplain : (backTo cpos (starEach es X.env)).any (·.1) = false) :
    PE X (.Call (.Attribute o name apos) (e :: es) [] cpos) (tMD X name to t) := by
  refine ⟨fun pins s σ H Q I h => ?_⟩
  refine wpAny_Call_method_late hbase hfew hline rfl (thn (ho.run pins s σ H _ I h) fun v s1 ⟨x, H1, I1, r1, T, id, r, m, ty, q1⟩ => ?_)
  obtain ⟨h1, h2⟩ := tyW_is I1 r1 ty
  refine ⟨T, id, m.pa, m.slot, m.ty, h1, h2, ?_⟩
  have hA := ha.run cpos pins s1 σ H1 _ I1 q1
  rw [hs] at hA ⊢
  refine Calls.callWith_builtin (by show (false || (backTo cpos (starEach es X.env)).any (·.1)) = false; rw [hplain] <;> rfl) (Calls.evalArgs_plain ?_)
  exact thn hA fun us s2 ⟨vs, H2, I2, r2, q2⟩ => m.mt pins s2 σ H2 x vs v us Q I2 r1 r2 q2
theorem pe_md0 (ho : PE X o to) (hbase : attributeBase o name X.env (eval o X.env) = eval o X.env) (hline : (apos.endLine == cpos.line) = true) : PE X (.Call (.Attribute o name apos) [] [] cpos) (tMD X name to tNil) := by
  refine ⟨fun pins s σ H Q I h => ?_⟩
  refine wpAny_Call_method0_late hbase hline (thn (ho.run pins s σ H _ I h) fun v s1 ⟨x, H1, I1, r1, T, id, r, m, ty, q1⟩ => ?_)
  obtain ⟨h1, h2⟩ := tyW_is I1 r1 ty
  exact ⟨T, id, m.pa, m.slot, m.ty, h1, h2, Calls.callWith_builtin rfl (PySem.evalArgs_none (m.mt pins s1 σ H1 x [] v [] Q I1 r1 .nil q1))⟩
end
theorem Rw.tyL {K : PySem.W.Frag} {v : V} {ds : List D} (r : Rw K Hf H v (.list ds)) (s : Sub Hf H) : tyW K "list" v H := by
  obtain ⟨a, vs, rfl, ha, _⟩ := r.list s
  exact .inl ⟨rfl, a, vs, rfl, ha⟩
theorem Rw.tyT {K : PySem.W.Frag} {v : V} {ds : List D} (r : Rw K Hf H v (.tuple ds)) (s : Sub Hf H) : tyW K "tuple" v H := by
  obtain ⟨a, vs, rfl, ha, _⟩ := r.tup s
  exact .inr (.inl ⟨rfl, a, vs, rfl, ha⟩)
theorem Rw.tyD {K : PySem.W.Frag} {v : V} {ds : List (D × D)} (r : Rw K Hf H v (.dict ds)) (s : Sub Hf H) : tyW K "dict" v H := by
  obtain ⟨a, vs, rfl, ha, _⟩ := r.dict s
  exact .inr (.inr (.inl ⟨rfl, a, vs, rfl, ha⟩))
theorem me_indexL (c : Cok w k X) : MeOk X "index" "list" "list.index" (rIndexD X.K) := ⟨PySem.F.plainAttrs_list, PySem.F.slot_list_index, PySem.F.type_list_index, mt_indexD (by have := c.u; omega)⟩
theorem me_indexT (c : Cok w k X) : MeOk X "index" "tuple" "tuple.index" (rIdxT X.K) := ⟨PySem.F.plainAttrs_tuple, PySem.F.slot_tuple_index, PySem.F.type_tuple_index, mt_indexT c⟩
theorem ge_index (c : Cok w k X) {o e : Expr} {apos cpos : Pos} {f f' : EV} (ho : GE w X o f) (he : GE w X e f') (hbase : attributeBase o "index" X.env (eval o X.env) = eval o X.env := by rfl)
    (hfew : ((backTo cpos (starEach [e] X.env)).all (fun x => !x.1) && (backToKw cpos (keywordEach [] X.env)).all (fun x => x.1.isSome)
      && decide ([e].length + ([] : List Keyword).length + (if ([] : List Keyword).isEmpty then 0 else 1) < 30)) = true := by rfl)
    (hline : (apos.endLine == cpos.line) = true := by rfl) (hs : starEach [e] X.env = (false, eval e X.env) :: starEach [] X.env := by rfl) (hplain : (backTo cpos (starEach [] X.env)).any (·.1) = false := by rfl) :
    GE w X (.Call (.Attribute o "index" apos) [e] [] cpos) (kIndex f f') := by
  refine pe_imp (pe_md ho (pa_cons he pa_nil hs) hbase hfew hline hs hplain) fun σ H Q => ?_
  rintro ⟨Hf, s, φ, l, s', g, e, q⟩
  obtain ⟨⟨l1, s1⟩, h1, h2⟩ := R.bind_eq_ok.mp e
  obtain ⟨d0, h3, h4⟩ := R.bind_eq_ok.mp h2
  obtain ⟨⟨l2, s2⟩, h5, h6⟩ := R.bind_eq_ok.mp h4
  obtain ⟨d, h7, h8⟩ := R.bind_eq_ok.mp h6
  obtain ⟨e2, h9, h10⟩ := R.bind_eq_ok.mp h8
  simp only at h10
  split at h10
  · rename_i hq
    obtain ⟨l', h11, h12⟩ := R.bind_eq_ok.mp h10
    obtain ⟨e3, e4⟩ : l' = l ∧ s2 = s' := by cases h12; exact ⟨rfl, rfl⟩
    subst e3 e4
    clear h12
    refine ⟨Hf, s, φ, l1, s1, g, h1, fun v H1 Hf1 φ1 F1 g1 r1 k1 => ?_⟩
    have rest : ∀ (r : V → List V → Hp → VK → Prop), (∀ (v' : V) (H2 Hf2 : Hp) (φ2 : Nat → List Addr), Good w σ H2 Hf2 s2 φ2 → Rw w.K Hf2 H2 v d → Rw w.K Hf2 H2 v' e2 → PQ w σ H2 Hf2 s2 φ2 s2 l' Q → r v [v'] H2 Q) →
        tCons (tE w f') tNil σ H1 (fun vs H2 => r v vs H2 Q) := by
      intro r hr
      refine ⟨Hf1, s1, φ1, l2, s2, g1, h5, fun v' H2 Hf2 φ2 F2 g2 r2 k2 => ?_⟩
      exact hr v' H2 Hf2 φ2 g2 ((r1.stay (s' := s2) (φ' := φ2) k2 fun a => .inl).rw g2 h7) (r2.rw g2 h9) ((q.later k1 (fun a => .inl) g1).later k2 (fun a => .inl) g2)
    have w1 := r1.rw g1 h3
    cases d0 <;> cases d <;> first | cases hq | skip
    · refine ⟨"list", _, _, me_indexL c, by rw [c.K]; exact w1.tyL g1.sub, rest _ fun v' H2 Hf2 φ2 g2 w2 w3 q2 => ?_⟩
      simp only [pIndex] at h11
      split at h11
      · rename_i hb
        rw [Bool.and_eq_true] at hb
        split at h11
        · rename_i j hj
          cases h11
          obtain ⟨z, hz, hzj, hno⟩ := firstAt_ok hj
          have dp := w2.dp g2.sub (eqOk_lay hb.2)
          obtain ⟨a, vs, rfl, ha, _⟩ := w2.list g2.sub
          rw [c.K]
          exact ⟨a, v', _, _, j, z, rfl, rfl, dp, w3.dp g2.sub (eqOk_lay hb.1), hb.2, hb.1, hz, hzj, hno, q2.d g2 (.int _)⟩
        · cases h11
      · cases h11
    · refine ⟨"tuple", _, _, me_indexT c, by rw [c.K]; exact w1.tyT g1.sub, rest (rIdxT X.K) fun v' H2 Hf2 φ2 g2 w2 w3 q2 => ?_⟩
      simp only [pIndex] at h11
      split at h11
      · rename_i hb
        rw [Bool.and_eq_true] at hb
        split at h11
        · rename_i j hj
          cases h11
          unfold rIdxT
          rw [c.K]
          exact ⟨v', _, _, j, rfl, w2.dp g2.sub (eqOk_lay hb.2), hb.2, w3.dp g2.sub (eqOk_lay hb.1), hb.1, hj, q2.d g2 (.int _)⟩
        · cases h11
      · cases h11
  · cases h10
end
end KV

set_option Elab.async false
set_option linter.all false
set_option maxRecDepth 100000
set_option maxHeartbeats 2000000
/-! KVG: displays, stars, dicts made and asked, repetition. -/
namespace KV
open PySem L2
open PySem.Spec PyProof.Rows

section
variable {w : Wd} {k : Nat} {X : Cx} {pos : Pos} {σ : L2.St} {H Hf : Hp} {s s' : Sl} {φ : Nat → List Addr} {Q : VK}

/-! ### for good -/
theorem kD_ok {f : EV} {d : D} (h : kD f s = .ok (d, s')) : ∃ l s1, f s = .ok (l, s1) ∧ l.take s1 = .ok (d, s') := by
  obtain ⟨⟨l, s1⟩, h1, h2⟩ := R.bind_eq_ok.mp h
  exact ⟨l, s1, h1, h2⟩
/-- a value for good, and what follows -/
theorem tE_D {f : EV} {d : D} {R : V → Hp → Prop} (g : Good w σ H Hf s φ) (e : kD f s = .ok (d, s'))
    (h : ∀ v H' Hf' φ', Good w σ H' Hf' s' φ' → Rp w.K Hf' v d → Stp H Hf (Own s φ) H' Hf' (Own s' φ') → R v H') : tE w f σ H R := by
  obtain ⟨l, s1, h1, h2⟩ := kD_ok e
  refine ⟨Hf, s, φ, l, s1, g, h1, fun v H1 Hf1 φ1 F1 g1 r1 k1 => ?_⟩
  obtain ⟨Hf2, φ2, rp, g2, k2⟩ := r1.take g1 h2
  exact h v H1 Hf2 φ2 g2 rp (k1.trans k2 (fun _ => id) fun x hx => by
    rcases hx with hx | hx
    · exact g1.own_free hx
    · cases r1 with
      | d _ => cases hx
      | o _ => cases hx
      | t _ c => exact (c x hx).1)
theorem ga_nil : GA w X [] aNil := pa_imp pa_nil fun σ H Q => by
  rintro ⟨Hf, s, φ, ds, s', g, e, q⟩
  cases e
  exact q [] H Hf φ g .nil Stp.refl
theorem ga_cons {e : Expr} {es : List Expr} {f : EV} {g : AV} (he : GE w X e f) (hr : GA w X es g) (hs : starEach (e :: es) X.env = (false, eval e X.env) :: starEach es X.env := by rfl) : GA w X (e :: es) (aCons f g) := by
  refine pa_imp (pa_cons he hr hs) fun σ H Q => ?_
  rintro ⟨Hf, s, φ, ds, s', gd, e, q⟩
  obtain ⟨⟨d, s1⟩, h1, h2⟩ := R.bind_eq_ok.mp e
  obtain ⟨⟨es', s2⟩, h3, h4⟩ := R.bind_eq_ok.mp h2
  cases h4
  refine tE_D gd h1 fun v H1 Hf1 φ1 g1 r1 k1 => ⟨Hf1, s1, φ1, es', _, g1, h3, fun vs H2 Hf2 φ2 g2 r2 k2 => ?_⟩
  exact q (v :: vs) H2 Hf2 φ2 g2 (.cons (r1.mono k2.sub) r2) (k1.trans k2 (fun _ => id) fun x hx => g1.own_free hx)
theorem star_seqK {pins : List (Addr × Obj)} {st : Shared} {a : Addr} {vs : List V} {Q : List Value → Shared → Prop} {E : Value → Shared → Prop} (I : Inv X pins σ H st) (h : SqL X.K H a vs ∨ SqT X.K H a vs)
    (q : ∀ h' us, Inv X pins σ H { st with heap := h' } → Vals vs us → Q us { st with heap := h' }) : PySem.W.StarOf (model X.prog X.w) X.A E (.ref a) Q st := by
  unfold PySem.W.StarOf notIterableAtAll
  rcases h with h | h
  · obtain ⟨its, r, pl, hz⟩ := I.list h
    obtain ⟨o, ho, hc, n, hd⟩ := pl.isList
    exact wpAny_bind (wpAny_specialOf pl.isList.typeIs PySem.F.slot_list_iter.lookup (wpAny_pure ⟨rfl, wpAny_collect_seq a (.inl rfl) ho hc hd (fun h' hk => q h' _ (I.kept hk) (by simpa using r)) (by rw [List.size_toArray, ← r.length]; exact hz)⟩))
  · obtain ⟨its, r, ⟨o, ho, hc, n, hd⟩, hz⟩ := I.tuple h
    exact wpAny_bind (wpAny_specialOf ⟨o, ho, hc⟩ PySem.F.slot_tuple_iter.lookup (wpAny_pure ⟨rfl, wpAny_collect_seq a (.inr rfl) ho hc hd (fun h' hk => q h' _ (I.kept hk) (by simpa using r)) (by rw [List.size_toArray, ← r.length]; exact hz)⟩))
theorem pa_star {e : Expr} {es : List Expr} {p : Pos} {te : TE} {t : TA} (he : PE X e te) (hr : PA X es t) (hs : starEach (.Starred e p :: es) X.env = (true, eval e X.env) :: starEach es X.env := by rfl) :
    PA X (.Starred e p :: es) (fun σ H Q => te σ H fun x H1 => ∃ a vs, x = .ref a ∧ (SqL X.K H1 a vs ∨ SqT X.K H1 a vs) ∧ t σ H1 fun ws H2 => Q (vs ++ ws) H2) := by
  refine ⟨fun pos pins s σ H Q I h => ?_⟩
  refine PySem.W.items_star (thn (he.run pins s σ H _ I h) fun v s1 ⟨x, H1, I1, r1, a, vs, ex, hq, q⟩ => ?_) hs
  subst ex
  cases r1
  refine star_seqK I1 hq fun h' us I2 r2 => ?_
  exact thn (hr.run pos pins _ σ H1 _ I2 q) fun ws s2 ⟨zs, H2, I3, r3, q3⟩ => ⟨vs ++ zs, H2, I3, r2.append r3, q3⟩
theorem seqOf_ok {d : D} {xs : List D} (h : seqOf d = .ok xs) : d = .list xs ∨ d = .tuple xs := by
  unfold seqOf at h
  split at h
  · cases h; exact .inl rfl
  · cases h; exact .inr rfl
  · cases h
theorem ga_star (c : Cok w k X) {e : Expr} {es : List Expr} {p : Pos} {f : EV} {g : AV} (he : GE w X e f) (hr : GA w X es g) (hs : starEach (.Starred e p :: es) X.env = (true, eval e X.env) :: starEach es X.env := by rfl) : GA w X (.Starred e p :: es) (aStar f g) := by
  refine pa_imp (pa_star he hr hs) fun σ H Q => ?_
  rintro ⟨Hf, s, φ, ds, s', gd, e, q⟩
  obtain ⟨⟨d, s1⟩, h1, h2⟩ := R.bind_eq_ok.mp e
  obtain ⟨xs, h3, h4⟩ := R.bind_eq_ok.mp h2
  obtain ⟨⟨ys, s2⟩, h5, h6⟩ := R.bind_eq_ok.mp h4
  obtain ⟨l1, h7, h8⟩ := kG_ok h1
  cases h6
  refine ⟨Hf, s, φ, l1, s1, gd, h7, fun v H1 Hf1 φ1 F1 g1 r1 k1 => ?_⟩
  have w1 := r1.rw g1 h8
  have fin : ∀ vs, RpA w.K Hf1 vs xs → tA w g σ H1 fun ws H2 => Q (vs ++ ws) H2 := fun vs r => ⟨Hf1, s1, φ1, ys, _, g1, h5, fun ws H2 Hf2 φ2 g2 r2 k2 =>
    q (vs ++ ws) H2 Hf2 φ2 g2 ((r.mono k2.sub).append r2) ((k1.weak (P2 := Own s1 φ1) (fun _ h => .inl h)).trans k2 (fun _ => id) fun x hx => g1.own_free hx)⟩
  rcases seqOf_ok h3 with rfl | rfl
  · obtain ⟨a, vs, rfl, ha, r⟩ := w1.list g1.sub
    exact ⟨a, vs, rfl, .inl (SqL.of ha), fin vs r⟩
  · obtain ⟨a, vs, rfl, ha, r⟩ := w1.tup g1.sub
    exact ⟨a, vs, rfl, .inr (by rw [c.K]; exact ha.sq), fin vs r⟩

/-! ### displays -/
def tTupF (t : TA) : TE := fun σ H Q => t σ H fun xs H1 => xs.length ≤ sizeLine ∧ ∀ p, H1 p = none → ∀ o : Obj, o.dict = none → Q (.ref p) (upd H1 p (.frz o (.tup xs)))
theorem pe_tupF {x1 : Nat} {es : List Expr} {t : TA} (h : PA X es t) : PE X (.Tuple es x1 pos) (tTupF t) := by
  refine ⟨fun pins s σ H Q I hq => ?_⟩
  refine wpAny_Tuple_spliced (thn (h.run pos pins s σ H _ I hq) fun us s1 ⟨xs, H1, I1, r, z, q⟩ => ⟨by rw [← r.length]; exact z, ?_⟩)
  have hl := I1.laid (t' := s1.toks) (a := s1.heap.objs.size) (h' := s1.heap.push { cls := .type "tuple", data := .seq us.toArray }) (o := .frz { cls := .type "tuple", data := .seq us.toArray } (.tup xs)) (fun b u e => Heap.get?_push_of_some _ e) (Nat.le_refl _)
    ⟨Heap.get?_push_size _ rfl, z, us, r, ⟨_, Heap.get?_push_size _ rfl, rfl, _, rfl⟩⟩
  exact ⟨.ref s1.heap.objs.size, _, hl, rfl, q _ (I1.hok.fresh (Nat.le_refl _)) _ rfl⟩
theorem ge_tup {x1 : Nat} {es : List Expr} {g : AV} (h : GA w X es g) : GE w X (.Tuple es x1 pos) (kTup g) := by
  refine pe_imp (pe_tupF h) fun σ H Q => ?_
  rintro ⟨Hf, s, φ, l, s', gd, e, q⟩
  obtain ⟨⟨ds, s1⟩, h1, h2⟩ := R.bind_eq_ok.mp e
  simp only at h2
  split at h2
  · rename_i hz
    cases h2
    refine ⟨Hf, s, φ, ds, _, gd, h1, fun vs H1 Hf1 φ1 g1 r1 k1 => ⟨by rw [r1.length]; exact sz_line (szOk_le hz), fun p hp o ho => (q.later k1 (fun _ => id) g1).tup g1 r1 hp ho⟩⟩
  · cases h2
theorem ge_lst {es : List Expr} {g : AV} (h : GA w X es g) : GE w X (.List es pos) (kLst g) := by
  refine pe_imp (pe_lst h) fun σ H Q => ?_
  rintro ⟨Hf, s, φ, l, s', gd, e, q⟩
  obtain ⟨⟨ds, s1⟩, h1, h2⟩ := R.bind_eq_ok.mp e
  simp only at h2
  split at h2
  · rename_i hz
    cases h2
    refine ⟨Hf, s, φ, ds, _, gd, h1, fun vs H1 Hf1 φ1 g1 r1 k1 => ⟨by rw [r1.length]; exact sz_line (szOk_le hz), fun p hp => (q.later k1 (fun _ => id) g1).lst g1 r1 hp⟩⟩
  · cases h2

/-! ### dict(pairs), d.get -/
theorem pairs_rp {K : PySem.W.Frag} {H Hf : Hp} (sub : Sub Hf H) : ∀ {vs : List V} {ds : List D} {ps : List (D × D)}, RpA K Hf vs ds → pairsOf ds = some ps →
    ∃ (as : List Addr) (kvs : List (Key × V)), vs = as.map V.ref ∧ Paired (fun p kv => SqT K H p [kV kv.1, kv.2]) as kvs ∧ RpKv K Hf kvs ps
  | _, _, _, .nil, h => by cases h; exact ⟨[], [], rfl, .nil, .nil⟩
  | _, _, _, .cons (d := d) (ds := ds) r t, h => by
    unfold pairsOf at h
    split at h
    · rename_i e; cases e
    · rename_i e
      cases e
      split at h
      · rename_i hk
        obtain ⟨qs, h1, rfl⟩ := Option.map_eq_some_iff.mp h
        obtain ⟨as, kvs, rfl, h2, h3⟩ := pairs_rp sub t h1
        obtain ⟨ky, hk⟩ := Option.isSome_iff_exists.mp hk
        have e := keyOf_some hk
        subst e
        cases r with
        | tup hs ra =>
          cases ra with
          | cons r1 ra =>
            cases ra with
            | cons r2 ra =>
              cases ra
              have ev := (Rw.st (H := Hf) r1).key
              subst ev
              exact ⟨_ :: as, (ky, _) :: kvs, rfl, .cons (sub.sqT hs.sq) h2, .cons r2 h3⟩
      · cases h
    · cases h
theorem merge_rp {K : PySem.W.Frag} {H : Hp} : ∀ {kvs : List (Key × V)} {ps : List (D × D)} {acc : List (Key × V)} {ads : List (D × D)}, RpKv K H kvs ps → RpKv K H acc ads → RpKv K H (mergeK acc kvs) (mergeD ads ps)
  | _, _, _, _, .nil, r => r
  | _, _, _, _, .cons (k := k) (kvs := kvs) (ds := ps) h t, r => by
    exact merge_rp (kvs := kvs) (ps := ps) t (r.put k h)
theorem ge_dictL (hm : X.mg "dict" = none) (c : Cok w k X) {a : Expr} {f : EV} {px : Pos} (ha : GE w X a f) (hg : Gl X "dict" := by rfl) (he : starEach [a] X.env = (false, eval a X.env) :: starEach [] X.env := by rfl) : GE w X (.Call (.Name "dict" px) [a] [] pos) (k1 pDict f) := by
  refine ge_t1 (call_dictP c.calm) ?_ hm ha PyProof.Rows.boot_dict hg (by decide) (by decide) he
  intro σ H Hf s φ v d l Q g r hp q
  unfold pDict at hp
  split at hp
  · split at hp
    · rename_i ds ps hps
      cases hp
      obtain ⟨a, vs, rfl, ha, r⟩ := r.list g.sub
      obtain ⟨as, kvs, rfl, h2, h3⟩ := pairs_rp g.sub r hps
      rw [c.K]
      exact ⟨a, as, kvs, rfl, SqL.of ha, h2, fun p hp => q.dct g (merge_rp h3 .nil) hp⟩
    · cases hp
  · cases hp
theorem Vs.key {v : V} {d : D} (h : Vs v d) : ∃ ky, d = keyD ky ∧ v = kV ky := by
  cases h with
  | int i => exact ⟨.inl i, rfl, rfl⟩
  | str x => exact ⟨.inr x, rfl, rfl⟩
theorem m1_of {o e : Expr} {nm : Str} {apos cpos : Pos} (h1 : attributeBase o nm X.env (eval o X.env) = eval o X.env)
    (h2 : ((backTo cpos (starEach [e] X.env)).all (fun x => !x.1) && (backToKw cpos (keywordEach [] X.env)).all (fun x => x.1.isSome) && decide (([e] : List Expr).length + ([] : List Keyword).length + (if ([] : List Keyword).isEmpty then 0 else 1) < 30)) = true)
    (h3 : (apos.endLine == cpos.line) = true) (h4 : backTo cpos (starEach [e] X.env) = [(false, eval e X.env)]) : M1 X o nm apos e cpos := ⟨h1, h2, h3, h4⟩
theorem ge_get1 (c : Cok w k X) {o e : Expr} {apos cpos : Pos} {f f' : EV} (ho : GE w X o f) (he : GE w X e f') (m : M1 X o "get" apos e cpos := by exact ⟨rfl, rfl, rfl, rfl⟩) : GE w X (.Call (.Attribute o "get" apos) [e] [] cpos) (kGet1 f f') := by
  refine pe_imp (pe_dget1 (by have := c.u; omega) ho he m) fun σ H Q => ?_
  rintro ⟨Hf, s, φ, l, s', gd, e, q⟩
  obtain ⟨⟨l1, s1⟩, h1, h2⟩ := R.bind_eq_ok.mp e
  obtain ⟨d0, h3, h4⟩ := R.bind_eq_ok.mp h2
  simp only at h4
  split at h4
  · rename_i hd0
    obtain ⟨⟨kd, s2⟩, h5, h6⟩ := R.bind_eq_ok.mp h4
    obtain ⟨d, h7, h8⟩ := R.bind_eq_ok.mp h6
    obtain ⟨l2, h9, h10, h11⟩ := kS_ok h5
    simp only at h8
    split at h8
    · rename_i kvs
      obtain ⟨e3, e4⟩ : s2 = s' ∧ L.d ((lookD kvs kd).getD .none) = l := by cases h8; exact ⟨rfl, rfl⟩
      subst e3 e4
      refine ⟨Hf, s, φ, l1, s1, gd, h1, fun v H1 Hf1 φ1 F1 g1 r1 k1 => ?_⟩
      have w1 := r1.rw g1 h3
      cases d0 with
      | dict k0 =>
        obtain ⟨a, vs, rfl, ha, _⟩ := w1.dict g1.sub
        refine ⟨a, rfl, .inl ⟨vs, ha⟩, ⟨Hf1, s1, φ1, l2, s2, g1, h9, fun v' H2 Hf2 φ2 F2 g2 r2 k2 => ?_⟩⟩
        have w2 := (r1.stay (s' := s2) (φ' := φ2) k2 fun a => .inl).rw g2 h7
        obtain ⟨ky, rfl, rfl⟩ := (Vs.of (r2.rw g2 h10) h11).key
        obtain ⟨a', kvs', ea, ha', rk⟩ := w2.dict g2.sub
        cases ea
        have q2 := (q.later k1 (fun a => .inl) g1).later k2 (fun a => .inl) g2
        refine ⟨_, .inl ⟨_, _, ha', rfl, rfl⟩, ?_⟩
        rcases rk.look ky with ⟨e1, e2⟩ | ⟨d', v', e1, e2, r3⟩
        · rw [e1] at q2; rw [e2]; exact q2.d g2 .non
        · rw [e1] at q2; rw [e2]; exact q2.d g2 r3
      | none => cases hd0
      | bool b => cases hd0
      | int b => cases hd0
      | str b => cases hd0
      | list b => cases hd0
      | tuple b => cases hd0
    · cases h8
  · cases h4
theorem ge_get2 (c : Cok w k X) {o e e2 : Expr} {apos cpos : Pos} {f f' f'' : EV} (ho : GE w X o f) (he : GE w X e f') (hx : GE w X e2 f'') (m : M2 X o "get" apos e e2 cpos := by exact ⟨rfl, rfl, rfl, rfl⟩) : GE w X (.Call (.Attribute o "get" apos) [e, e2] [] cpos) (kGet2 f f' f'') := by
  refine pe_imp (pe_dget2 (by have := c.u; omega) ho he hx m) fun σ H Q => ?_
  rintro ⟨Hf, s, φ, l, s', gd, e, q⟩
  obtain ⟨⟨l1, s1⟩, h1, h2⟩ := R.bind_eq_ok.mp e
  obtain ⟨d0, h3, h4⟩ := R.bind_eq_ok.mp h2
  simp only at h4
  split at h4
  · rename_i hd0
    obtain ⟨⟨kd, s2⟩, h5, h6⟩ := R.bind_eq_ok.mp h4
    obtain ⟨⟨xd, s3⟩, h7, h8⟩ := R.bind_eq_ok.mp h6
    obtain ⟨d, h9, h10⟩ := R.bind_eq_ok.mp h8
    obtain ⟨l2, h11, h12, h13⟩ := kS_ok h5
    simp only at h10
    split at h10
    · rename_i kvs
      obtain ⟨e3, e4⟩ : s3 = s' ∧ L.d ((lookD kvs kd).getD xd) = l := by cases h10; exact ⟨rfl, rfl⟩
      subst e3 e4
      refine ⟨Hf, s, φ, l1, s1, gd, h1, fun v H1 Hf1 φ1 F1 g1 r1 k1 => ?_⟩
      have w1 := r1.rw g1 h3
      cases d0 with
      | dict k0 =>
        obtain ⟨a, vs, rfl, ha, _⟩ := w1.dict g1.sub
        refine ⟨a, rfl, .inl ⟨vs, ha⟩, ⟨Hf1, s1, φ1, l2, s2, g1, h11, fun v' H2 Hf2 φ2 F2 g2 r2 k2 => ?_⟩⟩
        obtain ⟨ky, rfl, rfl⟩ := (Vs.of (r2.rw g2 h12) h13).key
        refine tE_D g2 h7 fun v3 H3 Hf3 φ3 g3 r3 k3 => ?_
        have w3 := ((r1.stay (s' := s2) (φ' := φ2) k2 fun a => .inl).stay (s' := s3) (φ' := φ3) k3 fun _ => id).rw g3 h9
        obtain ⟨a', kvs', ea, ha', rk⟩ := w3.dict g3.sub
        cases ea
        have q3 := ((q.later k1 (fun a => .inl) g1).later k2 (fun a => .inl) g2).later k3 (fun _ => id) g3
        refine ⟨_, .inl ⟨_, _, ha', rfl, rfl⟩, ?_⟩
        rcases rk.look ky with ⟨e1, e2⟩ | ⟨d', v', e1, e2, r4⟩
        · rw [e1] at q3; rw [e2]; exact q3.d g3 r3
        · rw [e1] at q3; rw [e2]; exact q3.d g3 r4
      | none => cases hd0
      | bool b => cases hd0
      | int b => cases hd0
      | str b => cases hd0
      | list b => cases hd0
      | tuple b => cases hd0
    · cases h10
  · cases h4
end
end KV

set_option Elab.async false
set_option linter.all false
set_option maxRecDepth 100000
set_option maxHeartbeats 2000000
/-! KVH: slots that are set, statements, targets, loops. -/
namespace KV
open PySem L2
open PySem.Spec PyProof.Rows

section
variable {w : Wd} {k : Nat} {X : Cx} {pos : Pos} {σ : L2.St} {H Hf : Hp} {s s' : Sl} {φ : Nat → List Addr} {Q : VK} {io : List Nat}

theorem set_at {i j : Nat} {t u : T} {s : Sl} (q : (s.set i (some t))[j]? = some (some u)) : (j = i ∧ u = t ∧ i < s.length) ∨ (j ≠ i ∧ s[j]? = some (some u)) := by
  by_cases z : j = i
  · subst z
    by_cases h : j < s.length
    · rw [List.getElem?_set_self h] at q
      cases q
      exact .inl ⟨rfl, rfl, h⟩
    · rw [List.getElem?_eq_none (by rw [List.length_set]; omega)] at q; cases q
  · rw [List.getElem?_set_ne (Ne.symm z)] at q
    exact .inr ⟨z, q⟩
theorem clr_at {i j : Nat} {u : T} {s : Sl} (q : (s.set i none)[j]? = some (some u)) : j ≠ i ∧ s[j]? = some (some u) := by
  by_cases z : j = i
  · subst z
    by_cases h : j < s.length
    · rw [List.getElem?_set_self h] at q; cases q
    · rw [List.getElem?_eq_none (by rw [List.length_set]; omega)] at q; cases q
  · rw [List.getElem?_set_ne (Ne.symm z)] at q
    exact ⟨z, q⟩
def phi (φ : Nat → List Addr) (i : Nat) (F : List Addr) : Nat → List Addr := fun j => if j = i then F else φ j
theorem phi_same {i : Nat} {F : List Addr} : phi φ i F i = F := if_pos rfl
theorem phi_ne {i j : Nat} {F : List Addr} (h : j ≠ i) : phi φ i F j = φ j := if_neg h
theorem Good.set {v : V} {t : T} {F : List Addr} {i : Nat} (g : Good w σ H Hf s φ) (r : OR w Hf H v t F) (c : ∀ a ∈ F, Hf a = none ∧ ∀ j u, j ≠ i → s[j]? = some (some u) → a ∉ φ j) :
    Good w (σ.set i (some v)) H Hf (s.set i (some t)) (phi φ i F) ∧ ∀ a, Own (s.set i (some t)) (phi φ i F) a → Own s φ a ∨ a ∈ F := by
  refine ⟨⟨g.sub, by rw [List.length_set, List.length_set]; exact g.len, fun j u q => ?_, fun j u a q m => ?_, fun j k u u' a q1 q2 m1 m2 => ?_⟩, fun a q => ?_⟩
  · rcases set_at q with ⟨rfl, rfl, h⟩ | ⟨z, q⟩
    · rw [phi_same]
      exact ⟨v, List.getElem?_set_self (by rw [← g.len]; exact h), r⟩
    · rw [phi_ne z]
      obtain ⟨v', e, r'⟩ := g.here j u q
      exact ⟨v', by rw [List.getElem?_set_ne (Ne.symm z)]; exact e, r'⟩
  · rcases set_at q with ⟨rfl, rfl, h⟩ | ⟨z, q⟩
    · rw [phi_same] at m; exact (c a m).1
    · rw [phi_ne z] at m; exact g.fr j u a q m
  · rcases set_at q1 with ⟨e1, _, _⟩ | ⟨z1, p1⟩
    · rcases set_at q2 with ⟨e2, _, _⟩ | ⟨z2, p2⟩
      · rw [e1, e2]
      · rw [e1, phi_same] at m1; rw [phi_ne z2] at m2
        exact ((c a m1).2 k u' z2 p2 m2).elim
    · rcases set_at q2 with ⟨e2, _, _⟩ | ⟨z2, p2⟩
      · rw [e2, phi_same] at m2; rw [phi_ne z1] at m1
        exact ((c a m2).2 j u z1 p1 m1).elim
      · rw [phi_ne z1] at m1; rw [phi_ne z2] at m2
        exact g.dj j k u u' a p1 p2 m1 m2
  · obtain ⟨j, u, q, m⟩ := q
    rcases set_at q with ⟨e, _, _⟩ | ⟨z, q⟩
    · rw [e, phi_same] at m; exact .inr m
    · rw [phi_ne z] at m; exact .inl ⟨j, u, q, m⟩
theorem Good.clr {i : Nat} (g : Good w σ H Hf s φ) : Good w σ H Hf (s.set i none) φ ∧ ∀ a, Own (s.set i none) φ a → Own s φ a :=
  ⟨⟨g.sub, by rw [List.length_set]; exact g.len, fun j u q => g.here j u (clr_at q).2, fun j u a q m => g.fr j u a (clr_at q).2 m, fun j k u u' a q1 q2 m1 m2 => g.dj j k u u' a (clr_at q1).2 (clr_at q2).2 m1 m2⟩,
    fun a ⟨j, u, q, m⟩ => ⟨j, u, (clr_at q).2, m⟩⟩
/-- an object of nobody's slot is written -/
theorem Good.updO {a : Addr} {o : HO} (g : Good w σ H Hf s φ) (hf : Hf a = none) (no : ¬ Own s φ a) : Good w σ (upd H a o) Hf s φ := by
  refine ⟨fun x u e => ?_, g.len, fun i t e => ?_, g.fr, g.dj⟩
  · have : x ≠ a := fun z => by rw [z, hf] at e; cases e
    rw [upd_ne this]; exact g.sub x u e
  · obtain ⟨v, e1, r⟩ := g.here i t e
    refine ⟨v, e1, r.stay (Sub.refl _) fun x hx u q => ?_⟩
    have : x ≠ a := fun z => no ⟨i, t, e, z ▸ hx⟩
    rw [upd_ne this]; exact q
/-- a slot's own object is written -/
theorem Good.updS {a : Addr} {o : HO} {i : Nat} {t t' : T} (g : Good w σ H Hf s φ) (h : s[i]? = some (some t)) (e : φ i = [a]) {v : V} (hv : σ[i]? = some (some v)) (r : OR w Hf (upd H a o) v t' [a]) :
    Good w σ (upd H a o) Hf (s.set i (some t')) φ ∧ ∀ x, Own (s.set i (some t')) φ x → Own s φ x := by
  have hf : Hf a = none := g.fr i t a h (by rw [e]; simp)
  refine ⟨⟨fun x u q => ?_, by rw [List.length_set]; exact g.len, fun j u q => ?_, fun j u x q m => ?_, fun j k u u' x q1 q2 m1 m2 => ?_⟩, fun x q => ?_⟩
  · have : x ≠ a := fun z => by rw [z, hf] at q; cases q
    rw [upd_ne this]; exact g.sub x u q
  · rcases set_at q with ⟨rfl, rfl, _⟩ | ⟨z, q⟩
    · rw [e]; exact ⟨v, hv, r⟩
    · obtain ⟨v', e1, r'⟩ := g.here j u q
      refine ⟨v', e1, r'.stay (Sub.refl _) fun x hx u' q' => ?_⟩
      have : x ≠ a := fun y => z (g.dj j i u t x q h hx (by rw [e, y]; simp))
      rw [upd_ne this]; exact q'
  · rcases set_at q with ⟨rfl, _, _⟩ | ⟨z, q⟩
    · exact g.fr _ t x h m
    · exact g.fr j u x q m
  · have fix : ∀ {j : Nat} {u : T}, (s.set i (some t'))[j]? = some (some u) → ∃ u0, s[j]? = some (some u0) := fun {j u} q => by
      rcases set_at q with ⟨rfl, _, _⟩ | ⟨_, q⟩
      · exact ⟨_, h⟩
      · exact ⟨_, q⟩
    obtain ⟨u1, q1⟩ := fix q1
    obtain ⟨u2, q2⟩ := fix q2
    exact g.dj j k u1 u2 x q1 q2 m1 m2
  · obtain ⟨j, u, q, m⟩ := q
    rcases set_at q with ⟨rfl, _, _⟩ | ⟨_, q⟩
    · exact ⟨_, _, h, m⟩
    · exact ⟨_, _, q, m⟩
theorem Stp.updO {H1 Hf1 : Hp} {P P1 : Addr → Prop} {a : Addr} {o : HO} (c : Stp H Hf P H1 Hf1 P1) (hp : P1 a) (hn : Hf1 a = none) : Stp H Hf P (upd H1 a o) Hf1 P1 := by
  refine ⟨c.sub, fun x u e n => ?_, c.new⟩
  have : x ≠ a := fun z => by
    subst z
    rcases c.new x (.inl hp) with q | q | q
    · exact n q
    · cases e1 : Hf x with
      | none => exact q e1
      | some u' => have := c.sub x u' e1; rw [hn] at this; cases this
    · rw [e] at q; cases q
  rw [upd_ne this]; exact c.keep x u e n

/-! ### a value comes into a slot -/
theorem RL.put {v : V} {l : L} {F : List Addr} {i : Nat} (r : RL w σ Hf H s φ v l F) (g : Good w σ H Hf s φ) (e : setL i l s = .ok s') :
    ∃ φ', Good w (σ.set i (some v)) H Hf s' φ' ∧ ∀ a, Own s' φ' a → Own s φ a ∨ a ∈ F := by
  cases r with
  | d r =>
    cases e
    exact ⟨_, g.set (.val r) fun a ha => nomatch ha⟩
  | t r c =>
    cases e
    exact ⟨_, g.set r fun a ha => ⟨(c a ha).1, fun j u _ q m => (c a ha).2 ⟨j, u, q, m⟩⟩⟩
  | o h =>
    rename_i j
    simp only [setL] at e
    split at e
    · rename_i t ht
      cases e
      obtain ⟨v', e1, r⟩ := g.here j t ht
      rw [h] at e1; cases e1
      obtain ⟨g1, o1⟩ := g.clr (i := j)
      obtain ⟨g2, o2⟩ := g1.set (i := i) r fun a ha => ⟨g.fr j t a ht ha, fun k u _ q m => (clr_at q).1 (g.dj k j u t a (clr_at q).2 ht m ha)⟩
      refine ⟨_, g2, fun a q => ?_⟩
      rcases o2 a q with q | q
      · exact .inl (o1 a q)
      · exact .inl ⟨j, t, ht, q⟩
    · cases e

/-! ### statements -/
/-- the slots io hold what they held -/
def Kp (io : List Nat) (σ σ' : L2.St) : Prop := ∀ i ∈ io, σ'[i]? = σ[i]?
theorem Kp.refl {io : List Nat} {σ : L2.St} : Kp io σ σ := fun _ _ => rfl
theorem Kp.trans {io : List Nat} {σ σ1 σ2 : L2.St} (a : Kp io σ σ1) (b : Kp io σ1 σ2) : Kp io σ σ2 := fun i h => (b i h).trans (a i h)
theorem Kp.set {io : List Nat} {σ : L2.St} {i : Nat} {v : Option V} (h : i ∉ io) : Kp io σ (σ.set i v) := fun j hj => List.getElem?_set_ne fun z => h (by rw [z]; exact hj)
theorem Kp.of {io ts : List Nat} {σ σ' : L2.St} (h : ∀ i, i ∉ ts → σ'[i]? = σ[i]?) (d : ∀ i ∈ ts, i ∉ io) : Kp io σ σ' := fun i hi => h i fun z => d i z hi
/-- what follows a statement -/
def PP (w : Wd) (io : List Nat) (σ : L2.St) (H Hf : Hp) (s : Sl) (φ : Nat → List Addr) (D : Ends) : Fl → Sl → Prop
  | .nx, s' => ∀ σ' H' Hf' φ', Good w σ' H' Hf' s' φ' → Stp H Hf (Own s φ) H' Hf' (Own s' φ') → Kp io σ σ' → D.nx σ' H'
  | .bk, s' => ∀ σ' H' Hf' φ', Good w σ' H' Hf' s' φ' → Stp H Hf (Own s φ) H' Hf' (Own s' φ') → Kp io σ σ' → D.bk σ' H'
  | .ct, s' => ∀ σ' H' Hf' φ', Good w σ' H' Hf' s' φ' → Stp H Hf (Own s φ) H' Hf' (Own s' φ') → Kp io σ σ' → D.ct σ' H'
  | .rt t, s' => ∀ v σ' H' Hf' φ' F, Good w σ' H' Hf' s' φ' → OR w Hf' H' v t F → (∀ a ∈ F, Hf' a = none ∧ ¬ Own s' φ' a) → Stp H Hf (Own s φ) H' Hf' (fun a => Own s' φ' a ∨ a ∈ F) → Kp io σ σ' → D.rt v H'
def tS (w : Wd) (io : List Nat) (f : SV) : TS := fun D σ H => ∃ Hf s φ fl s', Good w σ H Hf s φ ∧ f s = .ok (fl, s') ∧ PP w io σ H Hf s φ D fl s'
abbrev GS (w : Wd) (io : List Nat) (X : Cx) (st : Stmt) (f : SV) : Prop := PS X st (tS w io f)
abbrev GSs (w : Wd) (io : List Nat) (X : Cx) (sts : List Stmt) (f : SV) : Prop := PSs X sts (tS w io f)
theorem ps_imp {X : Cx} {st : Stmt} {t t' : TS} (h : PS X st t) (i : ∀ D σ H, t' D σ H → t D σ H) : PS X st t' := ⟨fun pins s σ H D I q => h.run pins s σ H D I (i D σ H q)⟩
theorem pss_imp {X : Cx} {st : List Stmt} {t t' : TS} (h : PSs X st t) (i : ∀ D σ H, t' D σ H → t D σ H) : PSs X st t' := ⟨fun pins s σ H D I q => h.run pins s σ H D I (i D σ H q)⟩
theorem PP.later {D : Ends} {fl : Fl} {s1 : Sl} {H1 Hf1 : Hp} {σ1 : L2.St} {φ1 : Nat → List Addr} {P1 : Addr → Prop} (q : PP w io σ H Hf s φ D fl s') (k : Stp H Hf (Own s φ) H1 Hf1 P1) (hp : ∀ a, Own s1 φ1 a → P1 a) (g1 : Good w σ1 H1 Hf1 s1 φ1) (kp : Kp io σ σ1 := by exact Kp.refl) : PP w io σ1 H1 Hf1 s1 φ1 D fl s' := by
  cases fl with
  | nx => exact fun σ' H' Hf' φ' g k' kp' => q σ' H' Hf' φ' g (k.trans k' hp fun x hx => g1.own_free hx) (kp.trans kp')
  | bk => exact fun σ' H' Hf' φ' g k' kp' => q σ' H' Hf' φ' g (k.trans k' hp fun x hx => g1.own_free hx) (kp.trans kp')
  | ct => exact fun σ' H' Hf' φ' g k' kp' => q σ' H' Hf' φ' g (k.trans k' hp fun x hx => g1.own_free hx) (kp.trans kp')
  | rt t => exact fun v σ' H' Hf' φ' F g r c k' kp' => q v σ' H' Hf' φ' F g r c (k.trans k' hp fun x hx => g1.own_free hx) (kp.trans kp')
theorem gss_nil : GSs w io X [] sNil := pss_imp pss_nil fun D σ H => by
  rintro ⟨Hf, s, φ, fl, s', g, e, q⟩
  cases e
  exact q σ H Hf φ g Stp.refl Kp.refl
theorem gs_pass : GS w io X (.Pass pos) sNil := ps_imp ps_pass fun D σ H => by
  rintro ⟨Hf, s, φ, fl, s', g, e, q⟩
  cases e
  exact q σ H Hf φ g Stp.refl Kp.refl
theorem gs_brk : GS w io X (.Break pos) sBrk := ps_imp ps_break fun D σ H => by
  rintro ⟨Hf, s, φ, fl, s', g, e, q⟩
  cases e
  exact q σ H Hf φ g Stp.refl Kp.refl
theorem gs_cnt : GS w io X (.Continue pos) sCnt := ps_imp ps_continue fun D σ H => by
  rintro ⟨Hf, s, φ, fl, s', g, e, q⟩
  cases e
  exact q σ H Hf φ g Stp.refl Kp.refl
theorem tS_seq {f g : SV} {D : Ends} : tS w io (sCons f g) D σ H → tSeq (tS w io f) (tS w io g) D σ H := by
  rintro ⟨Hf, s, φ, fl, s', gd, e, q⟩
  obtain ⟨⟨f1, s1⟩, h1, h2⟩ := R.bind_eq_ok.mp e
  refine ⟨Hf, s, φ, f1, s1, gd, h1, ?_⟩
  cases f1 with
  | nx => exact fun σ1 H1 Hf1 φ1 g1 k1 kp => ⟨Hf1, s1, φ1, fl, s', g1, h2, q.later k1 (fun _ => id) g1 kp⟩
  | bk => cases h2; exact q
  | ct => cases h2; exact q
  | rt t => cases h2; exact q
theorem gss_cons {st : Stmt} {rest : List Stmt} {f g : SV} (h1 : GS w io X st f) (h2 : GSs w io X rest g) : GSs w io X (st :: rest) (sCons f g) := pss_imp (pss_cons h1 h2) fun _ _ _ => tS_seq
theorem gss_one {st : Stmt} {f : SV} (h1 : GS w io X st f) : GSs w io X [st] f := pss_one h1
theorem gs_if {c : Expr} {a b : List Stmt} {fc : BV} {f g : SV} (hc : GB w X c fc) (ha : GSs w io X a f) (hb : GSs w io X b g) : GS w io X (.If c a b pos) (sIf fc f g) := ps_imp (ps_if hc ha hb) fun D σ H => by
  rintro ⟨Hf, s, φ, fl, s', gd, e, q⟩
  obtain ⟨⟨b1, s1⟩, h1, h2⟩ := R.bind_eq_ok.mp e
  refine ⟨Hf, s, φ, b1, s1, gd, h1, fun H1 Hf1 φ1 g1 k1 => ?_⟩
  cases b1 with
  | true => exact ⟨Hf1, s1, φ1, fl, s', g1, h2, q.later k1 (fun _ => id) g1⟩
  | false => exact ⟨Hf1, s1, φ1, fl, s', g1, h2, q.later k1 (fun _ => id) g1⟩
theorem gs_drop {e : Expr} {f : EV} (he : GE w X e f) (hs : swapsWith e none pos.line X.env = pure false := by rfl) : GS w io X (.Expr e pos) (sDrop f) := ps_imp (ps_expr he hs) fun D σ H => by
  rintro ⟨Hf, s, φ, fl, s', gd, e, q⟩
  obtain ⟨⟨l, s1⟩, h1, h2⟩ := R.bind_eq_ok.mp e
  cases h2
  exact ⟨Hf, s, φ, l, s1, gd, h1, fun v H1 Hf1 φ1 F1 g1 r1 k1 => q σ H1 Hf1 φ1 g1 (k1.weak fun a => .inl) Kp.refl⟩
theorem gs_retN : GS w io X (.Return none pos) sRetN := ps_imp ps_retN fun D σ H => by
  rintro ⟨Hf, s, φ, fl, s', gd, e, q⟩
  cases e
  exact q .non σ H Hf φ [] gd (.val .non) (fun a h => nomatch h) (Stp.refl.weak fun a h => h.elim id fun z => nomatch z) Kp.refl
theorem gs_ret {e : Expr} {f : EV} (he : GE w X e f) : GS w io X (.Return (some e) pos) (sRet f) := ps_imp (ps_ret he) fun D σ H => by
  rintro ⟨Hf, s, φ, fl, s', gd, e, q⟩
  obtain ⟨⟨l, s1⟩, h1, h2⟩ := R.bind_eq_ok.mp e
  obtain ⟨t, h3, h4⟩ := R.bind_eq_ok.mp h2
  cases h4
  refine ⟨Hf, s, φ, l, s1, gd, h1, fun v H1 Hf1 φ1 F1 g1 r1 k1 => ?_⟩
  cases r1 with
  | d r => cases h3; exact q v σ H1 Hf1 φ1 [] g1 (.val r) (fun a h => nomatch h) k1 Kp.refl
  | t r c => cases h3; exact q v σ H1 Hf1 φ1 F1 g1 r c k1 Kp.refl
  | o h =>
    rename_i j
    simp only [retL] at h3
    split at h3
    · rename_i u hu
      cases h3
      obtain ⟨v', e1, r⟩ := g1.here j t hu
      rw [h] at e1; cases e1
      obtain ⟨g2, o2⟩ := g1.clr (i := j)
      refine q v σ H1 Hf1 φ1 (φ1 j) g2 r (fun a ha => ⟨g1.fr j t a hu ha, fun ⟨k, u', q', m⟩ => (clr_at q').1 (g1.dj k j u' t a (clr_at q').2 hu m ha)⟩) (k1.weak fun a z => .inl ?_) Kp.refl
      rcases z with z | z
      · exact o2 a z
      · exact ⟨j, t, hu, z⟩
    · cases h3
/-- name = e -/
theorem gs_set (i : Nat) {x : Str} {e : Expr} {f : EV} {pos' : Pos} (hN : X.N.Nodup) (he : GE w X e f) (hio : i ∉ io := by decide) (hi : X.N[i]? = some x := by rfl) (hx : Loc X.env.scope x := by first | exact .inl rfl | exact .inr rfl) (hs : swapsWith e (some (.Name x pos')) pos.line X.env = pure false := by rfl)
    (hf : X.fn x = true ∨ X.env.scope.names.lookup x = some .local := by first | exact .inl rfl | exact .inr rfl) : GS w io X (.Assign [.Name x pos'] e pos) (sSet i f) := ps_imp (ps_set hN hi hx he hs hf) fun D σ H => by
  rintro ⟨Hf, s, φ, fl, s', gd, e, q⟩
  obtain ⟨⟨l, s1⟩, h1, h2⟩ := R.bind_eq_ok.mp e
  obtain ⟨s2, h3, h4⟩ := R.bind_eq_ok.mp h2
  cases h4
  refine ⟨Hf, s, φ, l, s1, gd, h1, fun v H1 Hf1 φ1 F1 g1 r1 k1 => ?_⟩
  obtain ⟨φ2, g2, o2⟩ := r1.put g1 h3
  exact q _ H1 Hf1 φ2 g2 (k1.weak o2) (Kp.set hio)

/-! ### targets -/
/-- a target of a value that may be shared; it sets the slots ts only -/
def tG (w : Wd) (g : GV) (ts : List Nat) : TG := fun v σ H Q => ∃ Hf s φ d s', Good w σ H Hf s φ ∧ Rp w.K Hf v d ∧ g d s = .ok s' ∧
  ∀ σ' φ', Good w σ' H Hf s' φ' → (∀ a, Own s' φ' a → Own s φ a) → σ'.length = σ.length → (∀ i, i ∉ ts → σ'[i]? = σ[i]?) → Q σ' H
/-- .., of a tuple -/
def tG2 (w : Wd) (K : PySem.W.Frag) (gs : List GV) (ts : List Nat) : TG := fun v σ H Q => ∃ a vs Hf s φ ds s', v = .ref a ∧ SqT K H a vs ∧ Good w σ H Hf s φ ∧ RpA w.K Hf vs ds ∧ gAll gs ds s = .ok s' ∧
  ∀ σ' φ', Good w σ' H Hf s' φ' → (∀ a, Own s' φ' a → Own s φ a) → σ'.length = σ.length → (∀ i, i ∉ ts → σ'[i]? = σ[i]?) → Q σ' H
def tGs (w : Wd) (gs : List GV) (ts : List Nat) : TGs := fun vs σ H Q => ∃ Hf s φ ds s', Good w σ H Hf s φ ∧ RpA w.K Hf vs ds ∧ gAll gs ds s = .ok s' ∧
  ∀ σ' φ', Good w σ' H Hf s' φ' → (∀ a, Own s' φ' a → Own s φ a) → σ'.length = σ.length → (∀ i, i ∉ ts → σ'[i]? = σ[i]?) → Q σ' H
abbrev GG (w : Wd) (X : Cx) (tg : Expr) (g : GV) (ts : List Nat) : Prop := PG X tg (tG w g ts)
abbrev GG2 (w : Wd) (X : Cx) (tg : Expr) (gs : List GV) (ts : List Nat) : Prop := PG X tg (tG2 w X.K gs ts)
abbrev GGs (w : Wd) (X : Cx) (tgs : List Expr) (gs : List GV) (ts : List Nat) : Prop := PGs X tgs (tGs w gs ts)
theorem pg_imp {X : Cx} {e : Expr} {t t' : TG} (h : PG X e t) (i : ∀ v σ H Q, t' v σ H Q → t v σ H Q) : PG X e t' := ⟨fun pins s σ H v u Q I r q => h.run pins s σ H v u Q I r (i v σ H Q q)⟩
theorem pgs_imp {X : Cx} {e : List Expr} {t t' : TGs} (h : PGs X e t) (i : ∀ v σ H Q, t' v σ H Q → t v σ H Q) : PGs X e t' := ⟨fun pins s σ H v u Q I r q => h.run pins s σ H v u Q I r (i v σ H Q q)⟩
theorem gg_n (i : Nat) {x : Str} (hN : X.N.Nodup) (hi : X.N[i]? = some x := by rfl) (hx : Loc X.env.scope x := by first | exact .inl rfl | exact .inr rfl) (hf : X.fn x = true ∨ X.env.scope.names.lookup x = some .local := by first | exact .inl rfl | exact .inr rfl) : GG w X (.Name x pos) (gN i) [i] :=
  pg_imp (pg_name hN hi hx hf) fun v σ H Q => by
    rintro ⟨Hf, s, φ, d, s', gd, r, e, q⟩
    cases e
    obtain ⟨g1, o1⟩ := gd.set (i := i) (.val r) fun a ha => nomatch ha
    exact q _ _ g1 (fun a z => (o1 a z).elim id fun z => nomatch z) (by rw [List.length_set]) fun j hj => List.getElem?_set_ne (fun z => hj (by simp [z]))
theorem ggs_nil : GGs w X [] [] [] := pgs_imp pgs_nil fun v σ H Q => by
  rintro ⟨Hf, s, φ, ds, s', gd, r, e, q⟩
  cases r with
  | nil => cases e; exact ⟨rfl, q σ φ gd (fun _ => id) rfl fun _ _ => rfl⟩
  | cons _ _ => cases e
theorem ggs_cons {e : Expr} {es : List Expr} {g : GV} {gs : List GV} {ts us : List Nat} (h1 : GG w X e g ts) (h2 : GGs w X es gs us) (hs : (assignEach (e :: es) X.env).map (·.2) = assign e X.env :: (assignEach es X.env).map (·.2) := by rfl) : GGs w X (e :: es) (g :: gs) (ts ++ us) :=
  pgs_imp (pgs_cons h1 h2 hs) fun v σ H Q => by
    rintro ⟨Hf, s, φ, ds, s', gd, r, e, q⟩
    cases r with
    | nil => cases e
    | cons r rr =>
      obtain ⟨s1, h1, h2⟩ := R.bind_eq_ok.mp e
      refine ⟨_, _, rfl, Hf, s, φ, _, s1, gd, r, h1, fun σ1 φ1 g1 o1 l1 k1 => ⟨Hf, s1, φ1, _, s', g1, rr, h2, fun σ2 φ2 g2 o2 l2 k2 => ?_⟩⟩
      exact q σ2 φ2 g2 (fun a z => o1 a (o2 a z)) (l2.trans l1) fun i hi => by
        rw [List.mem_append, not_or] at hi
        exact (k2 i hi.2).trans (k1 i hi.1)
theorem gAll_len : ∀ {gs : List GV} {ds : List D} {s s' : Sl}, gAll gs ds s = .ok s' → ds.length = gs.length
  | [], [], _, _, _ => rfl
  | g :: gs, d :: ds, s, s', e => by
    obtain ⟨s1, _, h⟩ := R.bind_eq_ok.mp e
    rw [List.length_cons, List.length_cons, gAll_len h]
  | [], _ :: _, _, _, e => nomatch e
  | _ :: _, [], _, _, e => nomatch e
theorem gg_2 {es : List Expr} {k1 n : Nat} {gs : List GV} {ts : List Nat} (hc : X.calm = true) (h : GGs w X es gs ts) (hn : (assignEach es X.env).length = n := by rfl) (hl : gs.length = n := by rfl) (hst : (assignEach es X.env).findIdx? (·.1) = none := by rfl) : GG2 w X (.Tuple es k1 pos) gs ts :=
  pg_imp (pg_tup hc h hn hst) fun v σ H Q => by
    rintro ⟨a, vs, Hf, s, φ, ds, s', rfl, hq, gd, r, e, q⟩
    exact ⟨a, vs, rfl, hq, by rw [r.length, gAll_len e, hl], Hf, s, φ, ds, s', gd, r, e, q⟩
theorem gg_t {es : List Expr} {k1 n : Nat} {gs : List GV} {ts : List Nat} (c : Cok w k X) (h : GGs w X es gs ts) (hn : (assignEach es X.env).length = n := by rfl) (hl : gs.length = n := by rfl) (hst : (assignEach es X.env).findIdx? (·.1) = none := by rfl) : GG w X (.Tuple es k1 pos) (gT gs) ts :=
  pg_imp (gg_2 c.calm h hn hl hst) fun v σ H Q => by
    rintro ⟨Hf, s, φ, d, s', gd, r, e, q⟩
    cases r with
    | tup hs ra => exact ⟨_, _, Hf, s, φ, _, s', rfl, by rw [c.K]; exact gd.sub.sqT hs.sq, gd, ra, e, q⟩
    | non => cases e
    | bl _ => cases e
    | int _ => cases e
    | str _ => cases e
    | lst _ _ => cases e
    | dct _ _ => cases e
/-- a, b, .. = e -/
theorem gs_unp {tg e : Expr} {f : EV} {g : GV} {ts : List Nat} (he : GE w X e f) (hg : GG w X tg g ts) (hio : ∀ i ∈ ts, i ∉ io := by decide) (hs : swapsWithSole [tg] e pos.line X.env = pure false := by rfl) (hw : swappedStores [tg] e X.env = pure none := by rfl)
    (h1 : (assignEach [tg] X.env).map (·.2) = [assign tg X.env] := by rfl) : GS w io X (.Assign [tg] e pos) (sUnp g f) := ps_imp (ps_asg he hg hs hw h1) fun D σ H => by
  rintro ⟨Hf, s, φ, fl, s', gd, e, q⟩
  obtain ⟨⟨d, s1⟩, h1, h2⟩ := R.bind_eq_ok.mp e
  obtain ⟨s2, h3, h4⟩ := R.bind_eq_ok.mp h2
  cases h4
  exact tE_D gd h1 fun v H1 Hf1 φ1 g1 r1 k1 => ⟨Hf1, s1, φ1, d, _, g1, r1, h3, fun σ' φ' g' o' _ n' => q σ' H1 Hf1 φ' g' (k1.weak o') (Kp.of n' hio)⟩
end
end KV

set_option Elab.async false
set_option linter.all false
set_option maxRecDepth 100000
set_option maxHeartbeats 2000000
/-! KVI: what changes a list or a dict that a slot owns; assignments side by side; loops; comprehensions. -/
namespace KV
open PySem L2
open PySem.Spec PyProof.Rows

/-! ### denotations -/
def kApp (i : Nat) (f : EV) : EV := fun s => match s[i]? with
  | some (some (.lst _)) => (kD f s).bind fun r => (match r.2[i]? with
    | some (some (.lst xs)) => if szOk (xs.length + 1) then .ok (.d .none, r.2.set i (some (.lst (xs ++ [r.1])))) else .no
    | _ => .no)
  | _ => .no
def kExt (i : Nat) (f : EV) : EV := fun s => match s[i]? with
  | some (some (.lst _)) => (kD f s).bind fun r => (seqOf r.1).bind fun ys => (match r.2[i]? with
    | some (some (.lst xs)) => if szOk (xs.length + ys.length) then .ok (.d .none, r.2.set i (some (.lst (xs ++ ys)))) else .no
    | _ => .no)
  | _ => .no
def kPopL (i : Nat) : EV := fun s => match s[i]? with
  | some (some (.lst xs)) => (match xs[xs.length - 1]? with
    | some d => .ok (.d d, s.set i (some (.lst xs.dropLast)))
    | none => .no)
  | _ => .no
def kPopJ (i : Nat) (f : EV) : EV := fun s => match s[i]? with
  | some (some (.lst _)) => (kS f s).bind fun r => (match r.2[i]?, r.1 with
    | some (some (.lst xs)), .int j => if 0 ≤ j ∧ szOk xs.length = true then (match xs[j.toNat]? with
      | some d => .ok (.d d, r.2.set i (some (.lst (xs.eraseIdx j.toNat))))
      | none => .no) else .no
    | _, _ => .no)
  | _ => .no
/-- a value; what a slot owned is shared -/
def kF (f : EV) : EV := fun s => (f s).bind fun r => match r.1 with
  | .o i => (L.take (.o i) r.2).bind fun q => .ok (.d q.1, q.2)
  | l => .ok (l, r.2)
/-- x[k] = e -/
def sPt (i : Nat) (k f : EV) : SV := fun s => match s[i]? with
  | some (some _) => (kD f s).bind fun r => (kD k r.2).bind fun q => (match q.2[i]? with
    | some (some (.lst xs)) => (match q.1 with
      | .int j => (match ixD xs.length j with
        | some m => .ok (.nx, q.2.set i (some (.lst (xs.set m r.1))))
        | none => .no)
      | _ => .no)
    | some (some (.dct kvs)) => if (keyOf q.1).isSome && szOk (kvs.length + 1) then .ok (.nx, q.2.set i (some (.dct (putD kvs q.1 r.1)))) else .no
    | _ => .no)
  | _ => .no
abbrev LV := Sl → R (List L × Sl)
def lNil : LV := fun s => .ok ([], s)
def lCons (f : EV) (g : LV) : LV := fun s => (kF f s).bind fun r => (g r.2).bind fun q => .ok (r.1 :: q.1, q.2)
def putL : List Nat → List L → Sl → R Sl
  | [], [], s => .ok s
  | i :: is, .d x :: ls, s => putL is ls (s.set i (some (.val x)))
  | i :: is, .t x :: ls, s => putL is ls (s.set i (some x))
  | _, _, _ => .no
/-- a, b, .. = e, f, .. -/
def sPar (is : List Nat) (g : LV) : SV := fun s => (g s).bind fun r => (putL is r.1 r.2).bind fun s' => .ok (.nx, s')

section
variable {w : Wd} {k : Nat} {X : Cx} {pos : Pos} {σ : L2.St} {H Hf : Hp} {s s' : Sl} {φ : Nat → List Addr} {Q : VK} {io : List Nat}

theorem Good.lst (g : Good w σ H Hf s φ) {i : Nat} {xs : List D} (h : s[i]? = some (some (.lst xs))) : ∃ a vs, σ[i]? = some (some (.ref a)) ∧ φ i = [a] ∧ H a = some (.lst vs) ∧ RpA w.K Hf vs xs := by
  obtain ⟨v, e, r⟩ := g.here i _ h
  generalize hF : φ i = F at r
  cases r with
  | lst h r => exact ⟨_, _, e, rfl, h, r⟩
theorem Good.dct (g : Good w σ H Hf s φ) {i : Nat} {xs : List (D × D)} (h : s[i]? = some (some (.dct xs))) : ∃ a kvs, σ[i]? = some (some (.ref a)) ∧ φ i = [a] ∧ H a = some (.dK kvs) ∧ RpKv w.K Hf kvs xs := by
  obtain ⟨v, e, r⟩ := g.here i _ h
  generalize hF : φ i = F at r
  cases r with
  | dct h r => exact ⟨_, _, e, rfl, h, r⟩
/-- the slot's own list is written: what follows -/
theorem PQ.wr {i : Nat} {xs ys : List D} {a : Addr} {us : List V} {l : L} {v : V} {H1 Hf1 : Hp} {s1 : Sl} {φ1 : Nat → List Addr} (q : PQ w σ H Hf s φ (s1.set i (some (.lst ys))) l Q) (g1 : Good w σ H1 Hf1 s1 φ1) (k1 : Stp H Hf (Own s φ) H1 Hf1 (Own s1 φ1)) (h : s1[i]? = some (some (.lst xs)))
    (e : σ[i]? = some (some (.ref a))) (p : φ1 i = [a]) (r : RpA w.K Hf1 us ys) (hl : ∀ H', RL w σ Hf1 H' (s1.set i (some (.lst ys))) φ1 v l []) : Q v (upd H1 a (.lst us)) := by
  obtain ⟨g2, o2⟩ := g1.updS (o := .lst us) h p e (.lst upd_same r)
  exact q v _ Hf1 φ1 [] g2 (hl _) ((k1.updO ⟨i, _, h, by rw [p]; simp⟩ (g1.fr i _ a h (by rw [p]; simp))).weak fun x z => z.elim (o2 x) fun z => nomatch z)

section
variable {e : Expr} {f : EV} {x : Str} {px apos cpos : Pos}
theorem ge_app (i : Nat) (he : GE w X e f) (hN : X.N[i]? = some x := by rfl) (hv : Vis X.env.scope x := by first | exact Or.inl rfl | exact Or.inr (Or.inl rfl) | exact Or.inr (Or.inr rfl)) (hd : (x == ("__debug__" : Str)) = false := by decide) (hcd : (x == ("__classdict__" : Str)) = false := by decide)
    (hbase : attributeBase (.Name x px) "append" X.env (eval (.Name x px) X.env) = eval (.Name x px) X.env := by rfl)
    (hfew : ((backTo cpos (starEach [e] X.env)).all (fun x => !x.1) && (backToKw cpos (keywordEach [] X.env)).all (fun x => x.1.isSome)
      && decide ([e].length + ([] : List Keyword).length + (if ([] : List Keyword).isEmpty then 0 else 1) < 30)) = true := by rfl)
    (hline : (apos.endLine == cpos.line) = true := by rfl) (hs : starEach [e] X.env = (false, eval e X.env) :: starEach [] X.env := by rfl) (hplain : (backTo cpos (starEach [] X.env)).any (·.1) = false := by rfl) :
    GE w X (.Call (.Attribute (.Name x px) "append" apos) [e] [] cpos) (kApp i f) := by
  refine pe_imp (pe_bm PySem.F.plainAttrs_list PySem.F.slot_list_append PySem.F.type_list_append mt_append (pv i hN hv hd hcd) (pa_cons he pa_nil hs) hbase hfew hline hs hplain) fun σ H Q => ?_
  rintro ⟨Hf, s, φ, l, s', g, e, q⟩
  unfold kApp at e
  split at e
  · rename_i xs0 h0
    obtain ⟨⟨d, s1⟩, h1, h2⟩ := R.bind_eq_ok.mp e
    simp only at h2
    split at h2
    · rename_i xs hx
      split at h2
      · rename_i hz
        cases h2
        obtain ⟨a, vs0, e0, p0, a0, r0⟩ := g.lst h0
        refine ⟨.ref a, e0, .inl ⟨rfl, vs0, SqL.of a0⟩, tE_D g h1 fun v H1 Hf1 φ1 g1 r1 k1 => ?_⟩
        obtain ⟨a', vs, e1, p1, a1, r2⟩ := g1.lst hx
        rw [e0] at e1; cases e1
        exact ⟨a, vs, v, rfl, rfl, a1, by have := sz_line (szOk_le hz); rw [r2.length]; omega, q.wr g1 k1 hx e0 p1 (r2.append (.cons r1 .nil)) fun _ => .d .non⟩
      · cases h2
    · cases h2
  · cases e
theorem ge_pop (i : Nat) (hN : X.N[i]? = some x := by rfl) (hv : Vis X.env.scope x := by first | exact Or.inl rfl | exact Or.inr (Or.inl rfl) | exact Or.inr (Or.inr rfl)) (hd : (x == ("__debug__" : Str)) = false := by decide) (hcd : (x == ("__classdict__" : Str)) = false := by decide)
    (hbase : attributeBase (.Name x px) "pop" X.env (eval (.Name x px) X.env) = eval (.Name x px) X.env := by rfl) (hline : (apos.endLine == cpos.line) = true := by rfl) :
    GE w X (.Call (.Attribute (.Name x px) "pop" apos) [] [] cpos) (kPopL i) := by
  refine pe_imp (pe_bm0 PySem.F.plainAttrs_list PySem.F.slot_list_pop PySem.F.type_list_pop mt_pop (pv i hN hv hd hcd) hbase hline) fun σ H Q => ?_
  rintro ⟨Hf, s, φ, l, s', g, e, q⟩
  unfold kPopL at e
  split at e
  · rename_i xs h0
    split at e
    · rename_i d hd
      cases e
      obtain ⟨a, vs, e0, p0, a0, r0⟩ := g.lst h0
      obtain ⟨v, hv1, rv⟩ := r0.get hd
      exact ⟨.ref a, e0, .inl ⟨rfl, vs, SqL.of a0⟩, a, vs, v, rfl, rfl, a0, by rw [r0.length]; exact hv1, q.wr g Stp.refl h0 e0 p0 r0.dropLast fun _ => .d rv⟩
    · cases e
  · cases e
theorem ge_popJ (i : Nat) (he : GE w X e f) (hN : X.N[i]? = some x := by rfl) (hv : Vis X.env.scope x := by first | exact Or.inl rfl | exact Or.inr (Or.inl rfl) | exact Or.inr (Or.inr rfl)) (hd : (x == ("__debug__" : Str)) = false := by decide) (hcd : (x == ("__classdict__" : Str)) = false := by decide)
    (hbase : attributeBase (.Name x px) "pop" X.env (eval (.Name x px) X.env) = eval (.Name x px) X.env := by rfl)
    (hfew : ((backTo cpos (starEach [e] X.env)).all (fun x => !x.1) && (backToKw cpos (keywordEach [] X.env)).all (fun x => x.1.isSome)
      && decide ([e].length + ([] : List Keyword).length + (if ([] : List Keyword).isEmpty then 0 else 1) < 30)) = true := by rfl)
    (hline : (apos.endLine == cpos.line) = true := by rfl) (hs : starEach [e] X.env = (false, eval e X.env) :: starEach [] X.env := by rfl) (hplain : (backTo cpos (starEach [] X.env)).any (·.1) = false := by rfl) :
    GE w X (.Call (.Attribute (.Name x px) "pop" apos) [e] [] cpos) (kPopJ i f) := by
  refine pe_imp (pe_bm PySem.F.plainAttrs_list PySem.F.slot_list_pop PySem.F.type_list_pop mt_popAt (pv i hN hv hd hcd) (pa_cons he pa_nil hs) hbase hfew hline hs hplain) fun σ H Q => ?_
  rintro ⟨Hf, s, φ, l, s', g, e, q⟩
  unfold kPopJ at e
  split at e
  · rename_i xs0 h0
    obtain ⟨⟨d, s1⟩, h1, h2⟩ := R.bind_eq_ok.mp e
    obtain ⟨l2, h3, h4, hsc⟩ := kS_ok h1
    simp only at h2
    split at h2
    · rename_i _ xs j hx
      split at h2
      · rename_i hc
        split at h2
        · rename_i d hd
          cases h2
          obtain ⟨a, vs0, e0, p0, a0, r0⟩ := g.lst h0
          refine ⟨.ref a, e0, .inl ⟨rfl, vs0, SqL.of a0⟩, ⟨Hf, s, φ, l2, _, g, h3, fun v H1 Hf1 φ1 F1 g1 r1 k1 => ?_⟩⟩
          obtain ⟨a', vs, e1, p1, a1, r2⟩ := g1.lst hx
          rw [e0] at e1; cases e1
          cases (r1.rw g1 h4).int
          obtain ⟨y, hy, ry⟩ := r2.get hd
          have hlt : j.toNat < vs.length := (List.getElem?_eq_some_iff.mp hy).1
          have hle : xs.length ≤ 16000000 := szOk_le hc.2
          have hl := r2.length
          refine ⟨a, vs, j, j.toNat, y, rfl, rfl, a1, by omega, by omega, ?_, hy, q.wr g1 (k1.weak fun _ => .inl) hx e0 p1 (r2.erase _) fun _ => .d ry⟩
          exact seqIndex_of hc.1 (by omega)
        · cases h2
      · cases h2
    · cases h2
  · cases e

/-! ### extend, also by a tuple -/
theorem ext_tup (l : Addr) (items : Array Value) (n : Nat) (b : Addr) (items2 : Array Value) (n2 : Nat) (dd : Option Addr) (sl : Array (Option Value)) (hs0 : ¬(!items.isEmpty && Builtin.List.listTooLong (items.size + items2.size)) = true) (hs1 : items.size ≤ sizeLine) (hs2 : items.size + items2.size ≤ sizeLine + 1) :
    Meets (Builtin.«list.extend» ⟨[.ref l, .ref b], []⟩) (fun _ R s => s.heap.get? l = some { cls := .type "list", dict := none, data := .seq items n, slots := #[] } ∧ s.heap.get? b = some { cls := .type "tuple", dict := dd, data := .seq items2 n2, slots := sl } ∧
      R (.ok (.ret Value.none)) { s with heap := s.heap.update l (Obj.mapSeq fun x => x ++ items2), toks := s.toks }) :=
  .of_wp fun prog w A R s h => by
    obtain ⟨hp, g, d, tk, os⟩ := s
    obtain ⟨hl, hb, h⟩ := h
    have f1 := AutoSeq1.idx_int
    have f2 := AutoSeq1.sub_tuple_tuple
    have f3 := AutoSeq1.sub_list_list
    have f4 := AutoSeq1.sub_tuple_list
    have f5 := AutoSeq1.sub_list_tuple
    have hz' : (items ++ items2).size ≤ sizeLine + 1 := by rw [Array.size_append]; exact hs2
    wp_walk using (wpAny_updateSeq hl rfl (hz := hs1) (_hz' := hz')), AutoSeq1.wpAny_loadPart' hl, AutoSeq1.wpAny_loadPart' hb
    exact ⟨_, rfl, h⟩
def rExtA (K : PySem.W.Frag) : V → List V → Hp → VK → Prop := fun x vs H Q => ∃ l b xs zs, x = .ref l ∧ vs = [.ref b] ∧ H l = some (.lst xs) ∧ (H b = some (.lst zs) ∨ STup K H b zs) ∧ xs.length + zs.length ≤ sizeLine ∧ Q .non (upd H l (.lst (xs ++ zs)))
theorem mt_extA : MtR X "list.extend" (rExtA X.K) := by
  intro pins s σ H x vs v us Q I rx rv h
  obtain ⟨l, b, xs, zs, rfl, rfl, hH, hB, hz, q⟩ := h
  rcases hB with hB | hB
  · exact mt_extend pins s σ H _ _ v us Q I rx rv ⟨l, b, xs, zs, rfl, rfl, hH, hB, hz, q⟩
  · cases rx
    obtain ⟨u, rfl, ru⟩ := rv.one
    cases ru
    obtain ⟨z, its, n, r, hl, e⟩ := I.lstM hH
    obtain ⟨its2, r2, ⟨⟨cls, dd, data, sls⟩, ho, hc, n2, hd⟩, hz2⟩ := I.tuple hB.sq
    simp only at hc hd
    subst hc hd
    have hl2 := r2.length
    have hsz : its.toArray.size + its2.toArray.size ≤ sizeLine := by rw [List.size_toArray, List.size_toArray]; omega
    have hlong : ¬ (!its.toArray.isEmpty && Builtin.List.listTooLong (its.toArray.size + its2.toArray.size)) = true := by
      rw [notLongL hsz, Bool.and_false]
      exact Bool.false_ne_true
    refine call_meets PySem.F.slot_list_extend ⟨_, e, rfl⟩ PySem.F.entry_list_extend (PySem.F.args_list_extend_2 _ _) (ext_tup l its.toArray n b its2.toArray n2 dd sls hlong (by rw [List.size_toArray]; omega) (by omega)) ⟨e, ho, ?_⟩
    refine ⟨.non, _, I.lset (its' := its ++ its2) hH e (by simp) (r.append r2) ?_, rfl, q⟩
    rw [List.length_append]
    omega
theorem ge_ext (c : Cok w k X) (i : Nat) (he : GE w X e f) (hN : X.N[i]? = some x := by rfl) (hv : Vis X.env.scope x := by first | exact Or.inl rfl | exact Or.inr (Or.inl rfl) | exact Or.inr (Or.inr rfl)) (hd : (x == ("__debug__" : Str)) = false := by decide) (hcd : (x == ("__classdict__" : Str)) = false := by decide)
    (hbase : attributeBase (.Name x px) "extend" X.env (eval (.Name x px) X.env) = eval (.Name x px) X.env := by rfl)
    (hfew : ((backTo cpos (starEach [e] X.env)).all (fun x => !x.1) && (backToKw cpos (keywordEach [] X.env)).all (fun x => x.1.isSome)
      && decide ([e].length + ([] : List Keyword).length + (if ([] : List Keyword).isEmpty then 0 else 1) < 30)) = true := by rfl)
    (hline : (apos.endLine == cpos.line) = true := by rfl) (hs : starEach [e] X.env = (false, eval e X.env) :: starEach [] X.env := by rfl) (hplain : (backTo cpos (starEach [] X.env)).any (·.1) = false := by rfl) :
    GE w X (.Call (.Attribute (.Name x px) "extend" apos) [e] [] cpos) (kExt i f) := by
  refine pe_imp (pe_bm PySem.F.plainAttrs_list PySem.F.slot_list_extend PySem.F.type_list_extend mt_extA (pv i hN hv hd hcd) (pa_cons he pa_nil hs) hbase hfew hline hs hplain) fun σ H Q => ?_
  rintro ⟨Hf, s, φ, l, s', g, e, q⟩
  unfold kExt at e
  split at e
  · rename_i xs0 h0
    obtain ⟨⟨d, s1⟩, h1, h2⟩ := R.bind_eq_ok.mp e
    obtain ⟨ys, h3, h4⟩ := R.bind_eq_ok.mp h2
    simp only at h4
    split at h4
    · rename_i xs hx
      split at h4
      · rename_i hz
        cases h4
        obtain ⟨a, vs0, e0, p0, a0, r0⟩ := g.lst h0
        refine ⟨.ref a, e0, .inl ⟨rfl, vs0, SqL.of a0⟩, tE_D g h1 fun v H1 Hf1 φ1 g1 r1 k1 => ?_⟩
        obtain ⟨a', vs, e1, p1, a1, r2⟩ := g1.lst hx
        rw [e0] at e1; cases e1
        obtain ⟨b, zs, rfl, hb, rz⟩ : ∃ b zs, v = .ref b ∧ (H1 b = some (.lst zs) ∨ STup w.K H1 b zs) ∧ RpA w.K Hf1 zs ys := by
          rcases seqOf_ok h3 with rfl | rfl
          · cases r1 with
            | lst hb rz => exact ⟨_, _, rfl, .inl (g1.sub _ _ hb), rz⟩
          · cases r1 with
            | tup hb rz => exact ⟨_, _, rfl, .inr (g1.sub.stup hb), rz⟩
        exact ⟨a, b, vs, zs, rfl, rfl, a1, by rw [c.K]; exact hb, by have := sz_line (szOk_le hz); rw [r2.length, rz.length]; omega, q.wr g1 k1 hx e0 p1 (r2.append rz) fun _ => .d .non⟩
      · cases h4
    · cases h4
  · cases e
end

/-! ### x[k] = e -/
def rSetA : TSet := fun o i v H Q => rSetL o i v H Q ∨ ∃ a H', o = .ref a ∧ DPut H a i v H' ∧ Q H'
theorem set_any (c : Cok w k X) : PSet X rSetA := by
  intro pins s σ H o i v ov iv u Q I ro ri rv h
  rcases h with h | ⟨a, H', rfl, g, q⟩
  · exact set_list pins s σ H o i v ov iv u Q I ro ri rv h
  · obtain rfl : ov = Value.ref a := ro
    exact d_setItem (by have := c.u; omega) I g ri rv fun s4 I4 => ⟨H', I4, q⟩
theorem gs_put (c : Cok w k X) (i : Nat) {x : Str} {px spos : Pos} {ek e : Expr} {fk f : EV} (he : GE w X e f) (hk : GE w X ek fk) (hN : X.N[i]? = some x := by rfl) (hv : Vis X.env.scope x := by first | exact Or.inl rfl | exact Or.inr (Or.inl rfl) | exact Or.inr (Or.inr rfl))
    (hd : (x == ("__debug__" : Str)) = false := by decide) (hcd : (x == ("__classdict__" : Str)) = false := by decide)
    (ha : ∀ v, assign (.Subscript (.Name x px) ek spos) X.env v = (do
      let ov ← holding [v] (eval (.Name x px) X.env)
      let iv ← holding [v, ov] (eval ek X.env)
      standAt spos
      holding [v, ov, iv] (setItem ov iv v)
      release [v, ov, iv] []) := by intro _; rfl)
    (hs : swapsWithSole [.Subscript (.Name x px) ek spos] e pos.line X.env = pure false := by rfl) (hw : swappedStores [.Subscript (.Name x px) ek spos] e X.env = pure none := by rfl) (h1 : (assignEach [.Subscript (.Name x px) ek spos] X.env).map (·.2) = [assign (.Subscript (.Name x px) ek spos) X.env] := by rfl) :
    GS w io X (.Assign [.Subscript (.Name x px) ek spos] e pos) (sPt i fk f) := by
  refine ps_imp (ps_asg he (pg_sub (pv i hN hv hd hcd) hk (set_any c) ha) hs hw h1) fun D σ H => ?_
  rintro ⟨Hf, s, φ, fl, s', g, e, q⟩
  unfold sPt at e
  split at e
  · rename_i t0 h0
    obtain ⟨v0, e0, _⟩ := g.here i t0 h0
    obtain ⟨⟨d, s1⟩, h1, h2⟩ := R.bind_eq_ok.mp e
    obtain ⟨⟨kd, s2⟩, h3, h4⟩ := R.bind_eq_ok.mp h2
    refine tE_D g h1 fun v H1 Hf1 φ1 g1 r1 k1 => ⟨v0, e0, tE_D g1 h3 fun v2 H2 Hf2 φ2 g2 r2 k2 => ?_⟩
    have rv := r1.mono k2.sub
    have k12 := k1.trans k2 (fun _ => id) fun x hx => g1.own_free hx
    simp only at h4
    split at h4
    · rename_i xs hx
      split at h4
      · rename_i j
        split at h4
        · rename_i m hm
          cases h4
          obtain ⟨a, vs, e1, p1, a1, r3⟩ := g2.lst hx
          rw [e0] at e1; cases e1
          cases r2
          obtain ⟨g3, o3⟩ := g2.updS (o := .lst (vs.set m v)) (t' := .lst (xs.set m d)) hx p1 e0 (.lst upd_same (r3.set rv m))
          exact .inl ⟨a, vs, _, m, rfl, rfl, a1, by rw [r3.length]; exact hm, q σ _ Hf2 φ2 g3 ((k12.updO ⟨i, _, hx, by rw [p1]; simp⟩ (g2.fr i _ a hx (by rw [p1]; simp))).weak o3) Kp.refl⟩
        · cases h4
      · cases h4
    · rename_i kvs hx
      split at h4
      · rename_i hc
        cases h4
        obtain ⟨a, vs, e1, p1, a1, r3⟩ := g2.dct hx
        rw [e0] at e1; cases e1
        rw [Bool.and_eq_true] at hc
        obtain ⟨ky, hky⟩ := Option.isSome_iff_exists.mp hc.1
        have ek := keyOf_some hky
        subst ek
        have ev := (Rw.st (H := H2) r2).key
        subst ev
        obtain ⟨g3, o3⟩ := g2.updS (o := .dK (putK vs ky v)) (t' := .dct (putD kvs (keyD ky) d)) hx p1 e0 (.dct upd_same (r3.put ky rv))
        refine .inr ⟨a, _, rfl, DPut.k a1 (by have := sz_line (szOk_le hc.2); rw [r3.length]; omega), q σ _ Hf2 φ2 g3 ((k12.updO ⟨i, _, hx, by rw [p1]; simp⟩ (g2.fr i _ a hx (by rw [p1]; simp))).weak o3) Kp.refl⟩
      · cases h4
    · cases h4
  · cases e

/-! ### assignments side by side -/
inductive RLs (w : Wd) (σ : L2.St) (Hf H : Hp) (s : Sl) (φ : Nat → List Addr) : List V → List L → List Addr → Prop
  | nil : RLs w σ Hf H s φ [] [] []
  | cons {v : V} {l : L} {F F' : List Addr} {vs : List V} {ls : List L} : RL w σ Hf H s φ v l F → RLs w σ Hf H s φ vs ls F' → (∀ a ∈ F, a ∉ F') → RLs w σ Hf H s φ (v :: vs) (l :: ls) (F ++ F')
def tL (w : Wd) (g : LV) : TA := fun σ H Q => ∃ Hf s φ ls s', Good w σ H Hf s φ ∧ g s = .ok (ls, s') ∧
  ∀ vs H' Hf' φ' F, Good w σ H' Hf' s' φ' → RLs w σ Hf' H' s' φ' vs ls F → Stp H Hf (Own s φ) H' Hf' (fun a => Own s' φ' a ∨ a ∈ F) → Q vs H'
abbrev GL (w : Wd) (X : Cx) (es : List Expr) (g : LV) : Prop := PA X es (tL w g)
theorem tE_F {f : EV} {l : L} {Z : V → Hp → Prop} (g : Good w σ H Hf s φ) (e : kF f s = .ok (l, s'))
    (h : ∀ v H' Hf' φ' F, Good w σ H' Hf' s' φ' → RL w σ Hf' H' s' φ' v l F → Stp H Hf (Own s φ) H' Hf' (fun a => Own s' φ' a ∨ a ∈ F) → Z v H') : tE w f σ H Z := by
  obtain ⟨⟨l1, s1⟩, h1, h2⟩ := R.bind_eq_ok.mp e
  refine ⟨Hf, s, φ, l1, s1, g, h1, fun v H1 Hf1 φ1 F1 g1 r1 k1 => ?_⟩
  cases l1 with
  | d x => cases h2; exact h v H1 Hf1 φ1 F1 g1 r1 k1
  | t x => cases h2; exact h v H1 Hf1 φ1 F1 g1 r1 k1
  | o i =>
    obtain ⟨⟨d, s2⟩, h3, h4⟩ := R.bind_eq_ok.mp h2
    cases h4
    obtain ⟨Hf2, φ2, rp, g2, k2⟩ := r1.take g1 h3
    refine h v H1 Hf2 φ2 [] g2 (.d rp) ((k1.trans k2 (fun _ => id) fun x hx => ?_).weak fun a z => z.elim id fun z => nomatch z)
    rcases hx with hx | hx
    · exact g1.own_free hx
    · cases r1; cases hx
theorem gl_nil : GL w X [] lNil := pa_imp pa_nil fun σ H Q => by
  rintro ⟨Hf, s, φ, ds, s', g, e, q⟩
  cases e
  exact q [] H Hf φ [] g .nil (Stp.refl.weak fun a z => z.elim id fun z => nomatch z)
theorem gl_cons {e : Expr} {es : List Expr} {f : EV} {g : LV} (he : GE w X e f) (hr : GL w X es g) (hs : starEach (e :: es) X.env = (false, eval e X.env) :: starEach es X.env := by rfl) : GL w X (e :: es) (lCons f g) := by
  refine pa_imp (pa_cons he hr hs) fun σ H Q => ?_
  rintro ⟨Hf, s, φ, ds, s', gd, e, q⟩
  obtain ⟨⟨l, s1⟩, h1, h2⟩ := R.bind_eq_ok.mp e
  obtain ⟨⟨ls, s2⟩, h3, h4⟩ := R.bind_eq_ok.mp h2
  cases h4
  refine tE_F gd h1 fun v H1 Hf1 φ1 F1 g1 r1 k1 => ⟨Hf1, s1, φ1, ls, _, g1, h3, fun vs H2 Hf2 φ2 F2 g2 r2 k2 => ?_⟩
  have new1 : ∀ a, a ∈ F1 → (∃ o, H1 a = some o) ∧ Hf1 a = none ∧ ¬ Own s1 φ1 a := fun a ha => by
    cases r1 with
    | d _ => cases ha
    | o _ => cases ha
    | t r c => exact ⟨r.there a ha, c a ha⟩
  have nof : ∀ a, a ∈ F1 → ¬ (Own s2 φ2 a ∨ a ∈ F2) := fun a ha z => by
    obtain ⟨⟨o, e1⟩, e2, e3⟩ := new1 a ha
    rcases k2.new a (.inl z) with z | z | z
    · exact e3 z
    · exact z e2
    · rw [e1] at z; cases z
  refine q (v :: vs) H2 Hf2 φ2 (F1 ++ F2) g2 (.cons (r1.stay k2 fun a => .inl) r2 fun a ha z => nof a ha (.inr z)) ?_
  refine ⟨k1.sub.trans k2.sub, fun a o h n => k2.keep a o (k1.keep a o h n) fun z => ?_, fun a z => ?_⟩
  · rcases k1.new a (.inl (.inl z)) with z | z | z
    · exact n z
    · cases e1 : Hf a with
      | none => exact z e1
      | some u =>
        have := k1.sub a u e1
        rw [g1.own_free (by assumption)] at this; cases this
    · rw [h] at z; cases z
  · have back : ∀ x, (Own s1 φ1 x ∨ x ∈ F1) ∨ Hf1 x ≠ none → Own s φ x ∨ Hf x ≠ none ∨ H x = none := fun x => k1.new x
    have main : (Own s2 φ2 a ∨ a ∈ F2) ∨ Hf2 a ≠ none → Own s φ a ∨ Hf a ≠ none ∨ H a = none := fun z => by
      rcases k2.new a z with z | z | z
      · exact back a (.inl (.inl z))
      · exact back a (.inr z)
      · by_cases n : Own s φ a
        · exact .inl n
        · cases e : H a with
          | none => exact .inr (.inr rfl)
          | some u => rw [k1.keep a u e n] at z; cases z
    rcases z with (z | z) | z
    · exact main (.inl (.inl z))
    · rcases List.mem_append.mp z with z | z
      · exact back a (.inl (.inr z))
      · exact main (.inl (.inr z))
    · exact main (.inr z)
theorem RLs.free {vs : List V} {ls : List L} {F : List Addr} (r : RLs w σ Hf H s φ vs ls F) : ∀ a ∈ F, ¬ Own s φ a := by
  induction r with
  | nil => exact fun a h => nomatch h
  | cons r _ _ ih =>
    intro a h
    rcases List.mem_append.mp h with h | h
    · cases r with
      | d _ => cases h
      | o _ => cases h
      | t _ c => exact (c a h).2
    · exact ih a h
theorem RLs.moved {vs : List V} {ls : List L} {F : List Addr} {σ1 : L2.St} {s1 : Sl} {φ1 : Nat → List Addr} (r : RLs w σ Hf H s φ vs ls F) (no : ∀ l ∈ ls, ∀ j, l ≠ .o j) (h : ∀ a ∈ F, ¬ Own s1 φ1 a) : RLs w σ1 Hf H s1 φ1 vs ls F := by
  induction r with
  | nil => exact .nil
  | cons r _ dj ih =>
    refine .cons ?_ (ih (fun l hl => no l (List.mem_cons_of_mem _ hl)) fun a ha => h a (List.mem_append_right _ ha)) dj
    cases r with
    | d r => exact .d r
    | o _ => exact (no _ (List.mem_cons_self ..) _ rfl).elim
    | t r c => exact .t r fun a ha => ⟨(c a ha).1, h a (List.mem_append_left _ ha)⟩
theorem putL_no : ∀ {is : List Nat} {ls : List L} {s s' : Sl}, putL is ls s = .ok s' → ∀ l ∈ ls, ∀ j, l ≠ .o j
  | [], [], _, _, _ => fun l hl => nomatch hl
  | i :: is, .d x :: ls, s, s', e => fun l hl j z => by
    rcases List.mem_cons.mp hl with h | h
    · subst h; cases z
    · exact putL_no (is := is) (ls := ls) e l h j z
  | i :: is, .t x :: ls, s, s', e => fun l hl j z => by
    rcases List.mem_cons.mp hl with h | h
    · subst h; cases z
    · exact putL_no (is := is) (ls := ls) e l h j z
  | [], _ :: _, _, _, e => nomatch e
  | _ :: _, [], _, _, e => nomatch e
  | _ :: _, .o _ :: _, _, _, e => nomatch e
def setsV : List Nat → List V → L2.St → L2.St
  | i :: is, v :: vs, σ => setsV is vs (σ.set i (some v))
  | _, _, σ => σ
theorem Kp.sets : ∀ {is : List Nat} {vs : List V} {σ : L2.St}, (∀ i ∈ is, i ∉ io) → Kp io σ (setsV is vs σ)
  | [], _, _, _ => Kp.refl
  | _ :: _, [], _, _ => Kp.refl
  | i :: is, v :: vs, σ, h => (Kp.set (v := some v) (h i (List.mem_cons_self ..))).trans (Kp.sets (is := is) (vs := vs) fun j hj => h j (List.mem_cons_of_mem _ hj))
theorem RLs.put {vs : List V} {ls : List L} {F : List Addr} : ∀ {is : List Nat} {σ : L2.St} {s s' : Sl} {φ : Nat → List Addr}, RLs w σ Hf H s φ vs ls F → Good w σ H Hf s φ → putL is ls s = .ok s' →
    ∃ φ', is.length = vs.length ∧ Good w (setsV is vs σ) H Hf s' φ' ∧ ∀ a, Own s' φ' a → Own s φ a ∨ a ∈ F := by
  induction vs generalizing ls F with
  | nil =>
    intro is σ s s' φ r g e
    cases r
    cases is with
    | nil => cases e; exact ⟨φ, rfl, g, fun a => .inl⟩
    | cons _ _ => cases e
  | cons v vs ih =>
    intro is σ s s' φ r g e
    cases r with
    | cons r rr dj =>
      rename_i l F1 F2 ls
      cases is with
      | nil => cases e
      | cons i is =>
        have key : ∀ s1, setL i l s = .ok s1 → putL is ls s1 = .ok s' → ∃ φ', (i :: is).length = (v :: vs).length ∧ Good w (setsV (i :: is) (v :: vs) σ) H Hf s' φ' ∧ ∀ a, Own s' φ' a → Own s φ a ∨ a ∈ F1 ++ F2 := by
          intro s1 e1 e2
          obtain ⟨φ1, g1, o1⟩ := r.put g e1
          have rr1 : RLs w (σ.set i (some v)) Hf H s1 φ1 vs ls F2 := rr.moved (putL_no e2) fun a ha z => by
            rcases o1 a z with z | z
            · exact rr.free a ha z
            · exact dj a z ha
          obtain ⟨φ2, l2, g2, o2⟩ := ih rr1 g1 e2
          refine ⟨φ2, by rw [List.length_cons, List.length_cons, l2], g2, fun a z => ?_⟩
          rcases o2 a z with z | z
          · rcases o1 a z with z | z
            · exact .inl z
            · exact .inr (List.mem_append_left _ z)
          · exact .inr (List.mem_append_right _ z)
        cases l with
        | d x => exact key _ rfl e
        | t x => exact key _ rfl e
        | o j => cases e
theorem gs_par2 (hN : X.N.Nodup) (c : Cok w k X) (i j : Nat) {x y : Str} {a b : Expr} {g : LV} {px py pt : Pos} {kt k2 : Nat} {pt2 : Pos} (ha : GL w X [a, b] g) (hio : ∀ m ∈ [i, j], m ∉ io := by decide) (hi : X.N[i]? = some x := by rfl) (hj : X.N[j]? = some y := by rfl) (hij : i ≠ j := by decide)
    (hx : X.env.scope.names.lookup x = some .local := by rfl) (hy : X.env.scope.names.lookup y = some .local := by rfl)
    (hw : swappedStores [.Tuple [.Name x px, .Name y py] kt pt] (.Tuple [a, b] k2 pt2) X.env = pure (some [x, y]) := by rfl)
    (hs : swapsWithSole [.Tuple [.Name x px, .Name y py] kt pt] (.Tuple [a, b] k2 pt2) pos.line X.env = pure false := by rfl) :
    GS w io X (.Assign [.Tuple [.Name x px, .Name y py] kt pt] (.Tuple [a, b] k2 pt2) pos) (sPar [i, j] g) := ps_imp (ps_par c.calm hN hi hj hij hx hy ha hw hs) fun D σ H => by
  rintro ⟨Hf, s, φ, fl, s', gd, e, q⟩
  obtain ⟨⟨ls, s1⟩, h1, h2⟩ := R.bind_eq_ok.mp e
  obtain ⟨s2, h3, h4⟩ := R.bind_eq_ok.mp h2
  cases h4
  refine ⟨Hf, s, φ, ls, s1, gd, h1, fun vs H1 Hf1 φ1 F1 g1 r1 k1 => ?_⟩
  obtain ⟨φ2, hl, g2, o2⟩ := r1.put g1 h3
  match vs, hl with
  | [v, u], _ => exact ⟨v, u, rfl, q _ H1 Hf1 φ2 g2 (k1.weak o2) (Kp.sets (vs := [v, u]) hio)⟩
theorem gs_par3 (hN : X.N.Nodup) (c : Cok w k X) (i j l : Nat) {x y z : Str} {a b d : Expr} {g : LV} {px py pz pt : Pos} {kt k2 : Nat} {pt2 : Pos} (ha : GL w X [a, b, d] g) (hio : ∀ m ∈ [i, j, l], m ∉ io := by decide) (hi : X.N[i]? = some x := by rfl) (hj : X.N[j]? = some y := by rfl) (hl : X.N[l]? = some z := by rfl) (hij : i ≠ j := by decide) (hil : i ≠ l := by decide) (hjl : j ≠ l := by decide)
    (hx : X.env.scope.names.lookup x = some .local := by rfl) (hy : X.env.scope.names.lookup y = some .local := by rfl) (hz : X.env.scope.names.lookup z = some .local := by rfl)
    (hw : swappedStores [.Tuple [.Name x px, .Name y py, .Name z pz] kt pt] (.Tuple [a, b, d] k2 pt2) X.env = pure (some [x, y, z]) := by rfl)
    (hs : swapsWithSole [.Tuple [.Name x px, .Name y py, .Name z pz] kt pt] (.Tuple [a, b, d] k2 pt2) pos.line X.env = pure false := by rfl) :
    GS w io X (.Assign [.Tuple [.Name x px, .Name y py, .Name z pz] kt pt] (.Tuple [a, b, d] k2 pt2) pos) (sPar [i, j, l] g) := ps_imp (ps_par3 c.calm hN hi hj hl hij hil hjl hx hy hz ha hw hs) fun D σ H => by
  rintro ⟨Hf, s, φ, fl, s', gd, e, q⟩
  obtain ⟨⟨ls, s1⟩, h1, h2⟩ := R.bind_eq_ok.mp e
  obtain ⟨s2, h3, h4⟩ := R.bind_eq_ok.mp h2
  cases h4
  refine ⟨Hf, s, φ, ls, s1, gd, h1, fun vs H1 Hf1 φ1 F1 g1 r1 k1 => ?_⟩
  obtain ⟨φ2, hl, g2, o2⟩ := r1.put g1 h3
  match vs, hl with
  | [v, u, t], _ => exact ⟨v, u, t, rfl, q _ H1 Hf1 φ2 g2 (k1.weak o2) (Kp.sets (vs := [v, u, t]) hio)⟩
/-- .., by a new tuple (names that are not plain locals, four and more) -/
def tNames (is : List Nat) : TGs := fun vs σ H Q => is.length = vs.length ∧ Q (setsV is vs σ) H
theorem pgs_n0 : PGs X [] (tNames []) := pgs_imp pgs_nil fun vs σ H Q => by
  rintro ⟨h, q⟩
  cases vs with
  | nil => exact ⟨rfl, q⟩
  | cons _ _ => cases h
theorem pgs_n (i : Nat) {x : Str} {px : Pos} {es : List Expr} {is : List Nat} (hN : X.N.Nodup) (hr : PGs X es (tNames is)) (hi : X.N[i]? = some x := by rfl) (hx : Loc X.env.scope x := by first | exact .inl rfl | exact .inr rfl) (hf : X.fn x = true ∨ X.env.scope.names.lookup x = some .local := by first | exact .inl rfl | exact .inr rfl)
    (hs : (assignEach (.Name x px :: es) X.env).map (·.2) = assign (.Name x px) X.env :: (assignEach es X.env).map (·.2) := by rfl) : PGs X (.Name x px :: es) (tNames (i :: is)) :=
  pgs_imp (pgs_cons (pg_name hN hi hx hf) hr hs) fun vs σ H Q => by
    rintro ⟨h, q⟩
    cases vs with
    | nil => cases h
    | cons v vs => exact ⟨v, vs, rfl, by simpa using h, q⟩
theorem gs_parN (hN : X.N.Nodup) (c : Cok w k X) {es ts : List Expr} {is : List Nat} {g : LV} {pt : Pos} {kt k2 n : Nat} {pt2 : Pos} (ha : GL w X es g) (ht : PGs X ts (tNames is)) (hio : ∀ m ∈ is, m ∉ io := by decide) (hn : (assignEach ts X.env).length = n := by rfl) (hl : is.length = n := by rfl) (hz : is.length ≤ 100 := by decide) (hst : (assignEach ts X.env).findIdx? (·.1) = none := by rfl)
    (hw : swappedStores [.Tuple ts kt pt] (.Tuple es k2 pt2) X.env = pure none := by rfl) (hs : swapsWithSole [.Tuple ts kt pt] (.Tuple es k2 pt2) pos.line X.env = pure false := by rfl) (h1 : (assignEach [.Tuple ts kt pt] X.env).map (·.2) = [assign (.Tuple ts kt pt) X.env] := by rfl) :
    GS w io X (.Assign [.Tuple ts kt pt] (.Tuple es k2 pt2) pos) (sPar is g) := ps_imp (ps_asg (pe_tupF ha) (pg_tup c.calm ht hn hst) hs hw h1) fun D σ H => by
  rintro ⟨Hf, s, φ, fl, s', gd, e, q⟩
  obtain ⟨⟨ls, s1⟩, h1, h2⟩ := R.bind_eq_ok.mp e
  obtain ⟨s2, h3, h4⟩ := R.bind_eq_ok.mp h2
  cases h4
  refine ⟨Hf, s, φ, ls, s1, gd, h1, fun vs H1 Hf1 φ1 F1 g1 r1 k1 => ?_⟩
  obtain ⟨φ2, hv, g2, o2⟩ := r1.put g1 h3
  refine ⟨sz_line (by omega), fun p hp o ho => ⟨p, vs, rfl, .inl (.inr ⟨o, upd_same⟩), by rw [← hv, hl], hv, ?_⟩⟩
  exact q _ _ Hf1 φ2 (g2.updH hp) ((k1.weak o2).trans (Stp.updH hp fun a => .inl) (fun _ => id) fun x hx => g2.own_free hx) (Kp.sets hio)
end
end KV

set_option Elab.async false
set_option linter.all false
set_option maxRecDepth 100000
set_option maxHeartbeats 2000000
/-! KVJ: what is walked; for, while, comprehensions. -/
namespace KV
open PySem L2
open PySem.Spec PyProof.Rows

section
variable {w : Wd} {k : Nat} {X : Cx} {pos : Pos} {σ : L2.St} {H Hf : Hp} {s s' : Sl} {φ : Nat → List Addr} {Q : VK} {io : List Nat}

/-- J walks ds, values that may be shared -/
structure Wk (w : Wd) (J : It) (ds : List D) (Hf : Hp) : Prop where
  goes : ∀ i H Hf2, Sub Hf Hf2 → Sub Hf2 H → i < ds.length → J.go i H
  stops : ∀ H Hf2, Sub Hf Hf2 → Sub Hf2 H → J.stop ds.length H
  yields : ∀ i H Hf2 x H' d, Sub Hf Hf2 → Sub Hf2 H → ds[i]? = some d → J.yld i H x H' → H' = H ∧ Rp w.K Hf2 x d
/-- .., as new tuples -/
structure Wk2 (w : Wd) (J : It) (ds : List D) (Hf : Hp) : Prop where
  goes : ∀ i H Hf2, Sub Hf Hf2 → Sub Hf2 H → i < ds.length → J.go i H
  stops : ∀ H Hf2, Sub Hf Hf2 → Sub Hf2 H → J.stop ds.length H
  yields : ∀ i H Hf2 x H' d, Sub Hf Hf2 → Sub Hf2 H → ds[i]? = some d → J.yld i H x H' → ∃ p vs es, x = .ref p ∧ H p = none ∧ H' = upd H p (.tup vs) ∧ d = .tuple es ∧ RpA w.K Hf2 vs es
def tI (w : Wd) (it : IV) : TI := fun σ H Rv => ∃ Hf s φ ds s', Good w σ H Hf s φ ∧ it s = .ok (ds, s') ∧ ∀ J H' Hf' φ', Good w σ H' Hf' s' φ' → Stp H Hf (Own s φ) H' Hf' (Own s' φ') → Wk w J ds Hf' → Rv J H'
def tI2 (w : Wd) (it : IV) : TI := fun σ H Rv => ∃ Hf s φ ds s', Good w σ H Hf s φ ∧ it s = .ok (ds, s') ∧ ∀ J H' Hf' φ', Good w σ H' Hf' s' φ' → Stp H Hf (Own s φ) H' Hf' (Own s' φ') → Wk2 w J ds Hf' → Rv J H'
abbrev GI (w : Wd) (X : Cx) (tg it : Expr) (f : IV) : Prop := PI X tg it (tI w f)
abbrev GI2 (w : Wd) (X : Cx) (tg it : Expr) (f : IV) : Prop := PI X tg it (tI2 w f)
theorem pi_imp {X : Cx} {tg e : Expr} {t t' : TI} (h : PI X tg e t) (i : ∀ σ H Rv, t' σ H Rv → t σ H Rv) : PI X tg e t' := ⟨fun pins s σ H Rv I q => h.run pins s σ H Rv I (i σ H Rv q)⟩

/-! ### for -/
/-- a turn's target and body, the walk's next place wanted behind it -/
theorem turn_for {tg : TG} {g : GV} {b : SV} {D0 : Ends} {fl : Fl} {x0 : D} {xs : List D} {σ1 : L2.St} {H1 Hf1 H1' : Hp} {s1 : Sl} {φ1 : Nat → List Addr} {N : L2.St → Hp → Prop} {v : V}
    (e : forD g b (x0 :: xs) s1 = .ok (fl, s')) (q : PP w io σ H Hf s φ D0 fl s') (g1 : Good w σ1 H1 Hf1 s1 φ1) (k1 : Stp H Hf (Own s φ) H1 Hf1 (Own s1 φ1))
    (hN : ∀ σ2 H2 Hf2 s2 φ2, Good w σ2 H2 Hf2 s2 φ2 → Stp H Hf (Own s φ) H2 Hf2 (Own s2 φ2) → Kp io σ σ2 → forD g b xs s2 = .ok (fl, s') → N σ2 H2) :
    ∃ s2, g x0 s1 = .ok s2 ∧ ∀ σ2 φ2 H2, Good w σ2 H2 Hf1 s2 φ2 → Stp H Hf (Own s φ) H2 Hf1 (Own s2 φ2) → Kp io σ σ2 → tS w io b { D0 with nx := N, ct := N, bk := D0.nx } σ2 H2 := by
  obtain ⟨s2, h1, h2⟩ := R.bind_eq_ok.mp e
  obtain ⟨⟨f1, s3⟩, h3, h4⟩ := R.bind_eq_ok.mp h2
  refine ⟨s2, h1, fun σ2 φ2 H2 g2 k2 kp => ⟨Hf1, s2, φ2, f1, s3, g2, h3, ?_⟩⟩
  cases f1 with
  | nx => exact fun σ3 H3 Hf3 φ3 g3 k3 kp3 => hN σ3 H3 Hf3 s3 φ3 g3 (k2.trans k3 (fun _ => id) fun x hx => g2.own_free hx) (kp.trans kp3) h4
  | ct => exact fun σ3 H3 Hf3 φ3 g3 k3 kp3 => hN σ3 H3 Hf3 s3 φ3 g3 (k2.trans k3 (fun _ => id) fun x hx => g2.own_free hx) (kp.trans kp3) h4
  | bk =>
    cases h4
    exact q.later k2 (fun _ => id) g2 kp
  | rt t =>
    cases h4
    exact q.later k2 (fun _ => id) g2 kp
theorem drop_at {ds : List D} {i : Nat} (h : i < ds.length) : ds.drop i = ds[i] :: ds.drop (i + 1) := List.drop_eq_getElem_cons h
theorem for_1 {J : It} {g : GV} {b : SV} {ts : List Nat} {D0 : Ends} {fl : Fl} {ds : List D} (hio : ∀ i ∈ ts, i ∉ io) (gd : Good w σ H Hf s φ) (wk : Wk w J ds Hf) (e : forD g b ds s = .ok (fl, s')) (q : PP w io σ H Hf s φ D0 fl s') :
    ∃ W : Nat → Nat → L2.St → Hp → Prop, (∃ m, W 0 m σ H) ∧ ∀ i m σ H, W i m σ H → (J.stop i H ∧ D0.nx σ H) ∨ (J.go i H ∧ ∃ N : L2.St → Hp → Prop, (∀ σ' H', N σ' H' → ∃ m', m' < m ∧ W (i + 1) m' σ' H') ∧
      ∀ x H', J.yld i H x H' → tG w g ts x σ H' fun σ2 H2 => tS w io b { D0 with nx := N, ct := N, bk := D0.nx } σ2 H2) := by
  refine ⟨fun i m σ1 H1 => m = ds.length - i ∧ i ≤ ds.length ∧ ∃ Hf1 s1 φ1, Good w σ1 H1 Hf1 s1 φ1 ∧ Stp H Hf (Own s φ) H1 Hf1 (Own s1 φ1) ∧ Kp io σ σ1 ∧ forD g b (ds.drop i) s1 = .ok (fl, s'), ⟨ds.length, by simp, Nat.zero_le _, Hf, s, φ, gd, Stp.refl, Kp.refl, e⟩, ?_⟩
  rintro i m σ1 H1 ⟨rfl, hi, Hf1, s1, φ1, g1, k1, kp1, e1⟩
  by_cases hlt : i < ds.length
  · rw [drop_at hlt] at e1
    refine .inr ⟨wk.goes i H1 Hf1 k1.sub g1.sub hlt, fun σ2 H2 => ds.length - (i + 1) = ds.length - (i + 1) ∧ i + 1 ≤ ds.length ∧ ∃ Hf1 s1 φ1, Good w σ2 H2 Hf1 s1 φ1 ∧ Stp H Hf (Own s φ) H2 Hf1 (Own s1 φ1) ∧ Kp io σ σ2 ∧ forD g b (ds.drop (i + 1)) s1 = .ok (fl, s'),
      fun σ' H' n => ⟨ds.length - (i + 1), by omega, n⟩, fun x H' y => ?_⟩
    obtain ⟨rfl, rx⟩ := wk.yields i H1 Hf1 x H' ds[i] k1.sub g1.sub (List.getElem?_eq_getElem hlt) y
    obtain ⟨s2, h2, h3⟩ := turn_for (tg := tG w g ts) (v := x) (H1' := H') (N := fun σ2 H2 => ds.length - (i + 1) = ds.length - (i + 1) ∧ i + 1 ≤ ds.length ∧ ∃ Hf1 s1 φ1, Good w σ2 H2 Hf1 s1 φ1 ∧ Stp H Hf (Own s φ) H2 Hf1 (Own s1 φ1) ∧ Kp io σ σ2 ∧ forD g b (ds.drop (i + 1)) s1 = .ok (fl, s'))
      e1 q g1 k1 fun σ2 H2 Hf2 s2 φ2 g2 k2 kp2 e2 => ⟨rfl, hlt, Hf2, s2, φ2, g2, k2, kp2, e2⟩
    exact ⟨Hf1, s1, φ1, ds[i], s2, g1, rx, h2, fun σ2 φ2 g2 o2 _ n2 => h3 σ2 φ2 _ g2 (k1.weak o2) (kp1.trans (Kp.of n2 hio))⟩
  · have : i = ds.length := by omega
    subst this
    rw [List.drop_length] at e1
    cases e1
    exact .inl ⟨wk.stops H1 Hf1 k1.sub g1.sub, q σ1 H1 Hf1 φ1 g1 k1 kp1⟩
theorem for_2 {J : It} {K : PySem.W.Frag} {gs : List GV} {b : SV} {ts : List Nat} {D0 : Ends} {fl : Fl} {ds : List D} (hio : ∀ i ∈ ts, i ∉ io) (gd : Good w σ H Hf s φ) (wk : Wk2 w J ds Hf) (e : forD (gT gs) b ds s = .ok (fl, s')) (q : PP w io σ H Hf s φ D0 fl s') :
    ∃ W : Nat → Nat → L2.St → Hp → Prop, (∃ m, W 0 m σ H) ∧ ∀ i m σ H, W i m σ H → (J.stop i H ∧ D0.nx σ H) ∨ (J.go i H ∧ ∃ N : L2.St → Hp → Prop, (∀ σ' H', N σ' H' → ∃ m', m' < m ∧ W (i + 1) m' σ' H') ∧
      ∀ x H', J.yld i H x H' → tG2 w K gs ts x σ H' fun σ2 H2 => tS w io b { D0 with nx := N, ct := N, bk := D0.nx } σ2 H2) := by
  refine ⟨fun i m σ1 H1 => m = ds.length - i ∧ i ≤ ds.length ∧ ∃ Hf1 s1 φ1, Good w σ1 H1 Hf1 s1 φ1 ∧ Stp H Hf (Own s φ) H1 Hf1 (Own s1 φ1) ∧ Kp io σ σ1 ∧ forD (gT gs) b (ds.drop i) s1 = .ok (fl, s'), ⟨ds.length, by simp, Nat.zero_le _, Hf, s, φ, gd, Stp.refl, Kp.refl, e⟩, ?_⟩
  rintro i m σ1 H1 ⟨rfl, hi, Hf1, s1, φ1, g1, k1, kp1, e1⟩
  by_cases hlt : i < ds.length
  · rw [drop_at hlt] at e1
    refine .inr ⟨wk.goes i H1 Hf1 k1.sub g1.sub hlt, fun σ2 H2 => ds.length - (i + 1) = ds.length - (i + 1) ∧ i + 1 ≤ ds.length ∧ ∃ Hf1 s1 φ1, Good w σ2 H2 Hf1 s1 φ1 ∧ Stp H Hf (Own s φ) H2 Hf1 (Own s1 φ1) ∧ Kp io σ σ2 ∧ forD (gT gs) b (ds.drop (i + 1)) s1 = .ok (fl, s'),
      fun σ' H' n => ⟨ds.length - (i + 1), by omega, n⟩, fun x H' y => ?_⟩
    obtain ⟨p, vs, es, rfl, hp, rfl, ed, rx⟩ := wk.yields i H1 Hf1 x H' ds[i] k1.sub g1.sub (List.getElem?_eq_getElem hlt) y
    obtain ⟨s2, h2, h3⟩ := turn_for (tg := tG2 w K gs ts) (v := .ref p) (H1' := H1) (N := fun σ2 H2 => ds.length - (i + 1) = ds.length - (i + 1) ∧ i + 1 ≤ ds.length ∧ ∃ Hf1 s1 φ1, Good w σ2 H2 Hf1 s1 φ1 ∧ Stp H Hf (Own s φ) H2 Hf1 (Own s1 φ1) ∧ Kp io σ σ2 ∧ forD (gT gs) b (ds.drop (i + 1)) s1 = .ok (fl, s'))
      e1 q g1 k1 fun σ2 H2 Hf2 s2 φ2 g2 k2 kp2 e2 => ⟨rfl, hlt, Hf2, s2, φ2, g2, k2, kp2, e2⟩
    rw [ed] at h2
    refine ⟨p, vs, Hf1, s1, φ1, es, s2, rfl, .inl (.inl upd_same), g1.updH hp, rx, h2, fun σ2 φ2 g2 o2 _ n2 => h3 σ2 φ2 _ g2 ?_ (kp1.trans (Kp.of n2 hio))⟩
    exact (k1.trans (Stp.updH hp fun a => .inl) (fun _ => id) fun x hx => g1.own_free hx).weak o2
  · have : i = ds.length := by omega
    subst this
    rw [List.drop_length] at e1
    cases e1
    exact .inl ⟨wk.stops H1 Hf1 k1.sub g1.sub, q σ1 H1 Hf1 φ1 g1 k1 kp1⟩
theorem gs_for {tg it : Expr} {body : List Stmt} {fi : IV} {g : GV} {ts : List Nat} {b : SV} (c : Cok w k X) (hp : PassesOwn (model X.prog X.w) X.A X.env X.xe) (hi : GI w X tg it fi) (hg : GG w X tg g ts) (hb : GSs w io X body b) (hio : ∀ i ∈ ts, i ∉ io := by decide)
    (hs : ∀ x, foldedSetIterable it X.env x = pure x := by intro _; rfl) : GS w io X (.For tg it body [] pos) (sFor fi g b) := ps_imp (ps_for hp c.calm hi hg hb hs) fun D0 σ H => by
  rintro ⟨Hf, s, φ, fl, s', gd, e, q⟩
  obtain ⟨⟨ds, s1⟩, h1, h2⟩ := R.bind_eq_ok.mp e
  exact ⟨Hf, s, φ, ds, s1, gd, h1, fun J H1 Hf1 φ1 g1 k1 wk => for_1 hio g1 wk h2 (q.later k1 (fun _ => id) g1)⟩
theorem gs_for2 {tg it : Expr} {body : List Stmt} {fi : IV} {gs : List GV} {ts : List Nat} {b : SV} (c : Cok w k X) (hp : PassesOwn (model X.prog X.w) X.A X.env X.xe) (hi : GI2 w X tg it fi) (hg : GG2 w X tg gs ts) (hb : GSs w io X body b) (hio : ∀ i ∈ ts, i ∉ io := by decide)
    (hs : ∀ x, foldedSetIterable it X.env x = pure x := by intro _; rfl) : GS w io X (.For tg it body [] pos) (sFor fi (gT gs) b) := ps_imp (ps_for hp c.calm hi hg hb hs) fun D0 σ H => by
  rintro ⟨Hf, s, φ, fl, s', gd, e, q⟩
  obtain ⟨⟨ds, s1⟩, h1, h2⟩ := R.bind_eq_ok.mp e
  exact ⟨Hf, s, φ, ds, s1, gd, h1, fun J H1 Hf1 φ1 g1 k1 wk => for_2 hio g1 wk h2 (q.later k1 (fun _ => id) g1)⟩

/-! ### while -/
theorem gs_while {ce : Expr} {body : List Stmt} {fc : BV} {b : SV} (hp : PassesOwn (model X.prog X.w) X.A X.env X.xe) (hc : GB w X ce fc) (hb : GSs w io X body b) : GS w io X (.While ce body [] pos) (sWhile fc b) := ps_imp (ps_while hp hc hb) fun D0 σ H => by
  rintro ⟨Hf, s, φ, fl, s', gd, e, q⟩
  refine ⟨fun m σ1 H1 => ∃ Hf1 s1 φ1, Good w σ1 H1 Hf1 s1 φ1 ∧ Stp H Hf (Own s φ) H1 Hf1 (Own s1 φ1) ∧ Kp io σ σ1 ∧ whileD fc b m s1 = .ok (fl, s'), ⟨fuel, Hf, s, φ, gd, Stp.refl, Kp.refl, e⟩, ?_⟩
  rintro m σ1 H1 ⟨Hf1, s1, φ1, g1, k1, kp1, e1⟩
  cases m with
  | zero => cases e1
  | succ m =>
    obtain ⟨⟨t, s2⟩, h1, h2⟩ := R.bind_eq_ok.mp e1
    refine ⟨Hf1, s1, φ1, t, s2, g1, h1, fun H2 Hf2 φ2 g2 k2 => ?_⟩
    have k12 := k1.trans k2 (fun _ => id) fun x hx => g1.own_free hx
    cases t with
    | false =>
      cases h2
      exact q σ1 H2 Hf2 φ2 g2 k12 kp1
    | true =>
      obtain ⟨⟨f1, s3⟩, h3, h4⟩ := R.bind_eq_ok.mp h2
      simp only [if_true]
      refine ⟨fun σ3 H3 => ∃ Hf1 s1 φ1, Good w σ3 H3 Hf1 s1 φ1 ∧ Stp H Hf (Own s φ) H3 Hf1 (Own s1 φ1) ∧ Kp io σ σ3 ∧ whileD fc b m s1 = .ok (fl, s'), fun σ' H' n => ⟨m, by omega, n⟩, Hf2, s2, φ2, f1, s3, g2, h3, ?_⟩
      cases f1 with
      | nx => exact fun σ3 H3 Hf3 φ3 g3 k3 kp3 => ⟨Hf3, s3, φ3, g3, k12.trans k3 (fun _ => id) fun x hx => g2.own_free hx, kp1.trans kp3, h4⟩
      | ct => exact fun σ3 H3 Hf3 φ3 g3 k3 kp3 => ⟨Hf3, s3, φ3, g3, k12.trans k3 (fun _ => id) fun x hx => g2.own_free hx, kp1.trans kp3, h4⟩
      | bk => cases h4; exact q.later k12 (fun _ => id) g2 kp1
      | rt t => cases h4; exact q.later k12 (fun _ => id) g2 kp1
end
end KV

set_option Elab.async false
set_option linter.all false
set_option maxRecDepth 100000
set_option maxHeartbeats 2000000
/-! KVK: what is walked: lists and tuples, ranges, enumerate, zip. -/
namespace KV
open PySem L2
open PySem.Spec PyProof.Rows

/-! ### enumerate(a tuple) -/
theorem enum_newT {v : Value} {o : Obj} {Z : Heap → Prop} (B : Begins v o Z) :
    Meets (Builtin.«enumerate.__new__» ⟨[.type "enumerate", v], []⟩) (fun _ R s => Z s.heap ∧
      R (.ok (.ret (.ref (s.heap.push o).objs.size))) { s with heap := (s.heap.push o).push { cls := .type "enumerate", data := .fields #[.none, .bool false, .ref s.heap.objs.size, rawInt 0, .none, .none] } }) :=
  .of_wp fun prog w A R s h => by
    obtain ⟨hp, g, d, tk, os⟩ := s
    obtain ⟨h1, h⟩ := h
    have hsub := sub_enumerate
    have q1 : ∀ {A' : Around} {E : Value → Shared → Prop} {Q : Value → Shared → Prop}, Q (.ref hp.objs.size) ⟨hp.push o, g, d, tk, os⟩ → wpAny (model prog w) A' (pyIter v) Q E ⟨hp, g, d, tk, os⟩ :=
      fun q => B.iter prog w _ _ ⟨hp, g, d, tk, os⟩ _ h1 q
    wp_walk using q1
    refine wpAny_stack_any fun st => wpAny_pure ?_
    split
    · rename_i c _ _ _ _ _
      cases (c == Value.type "enumerate")
      · wp_walk using q1
        exact ⟨_, rfl, h⟩
      · wp_walk using q1
        exact ⟨_, rfl, h⟩
    · wp_walk using q1
      exact ⟨_, rfl, h⟩
theorem call_enumT {prog : Program} {w : World} {A : Around} {E : Value → Shared → Prop} {s : Shared} {v : Value} {o : Obj} {Z : Heap → Prop} {Q : Value → Shared → Prop} (B : Begins v o Z) (h1 : Z s.heap)
    (h : ∀ h', IsEnum h' (s.heap.objs.size + 1) s.heap.objs.size 0 .none → h'.get? s.heap.objs.size = some o → (∀ b o, s.heap.get? b = some o → h'.get? b = some o) → Q (.ref (s.heap.objs.size + 1)) { s with heap := h' }) :
    wpAny (model prog w) A (call (.type "enumerate") [v]) Q E s := by
  refine callType_new PySem.F.called_enumerate (by decide) (PySem.F.typeCall_enumerate_1 _) (PySem.F.newCall_enumerate_1 _) (fun obj => PySem.F.args_object_init_2 obj _) PySem.F.entry_enumerate_new (enum_newT B) ⟨h1, ?_⟩
  have hz : (s.heap.push o).objs.size = s.heap.objs.size + 1 := Heap.size_push ..
  show _ ∧ _
  rw [hz]
  have he : IsEnum ((s.heap.push o).push { cls := .type "enumerate", data := .fields #[.none, .bool false, .ref s.heap.objs.size, rawInt 0, .none, .none] }) (s.heap.objs.size + 1) s.heap.objs.size 0 .none := by
    have := Heap.get?_push_size (s.heap.push o) (o := { cls := .type "enumerate", data := .fields #[.none, .bool false, .ref s.heap.objs.size, rawInt 0, .none, .none] }) rfl
    rw [hz] at this; exact this
  exact ⟨⟨_, he, rfl⟩, h _ he (Heap.get?_push_of_some _ (Heap.get?_push_size _ B.free)) fun b o x => Heap.get?_push_of_some _ (Heap.get?_push_of_some _ x)⟩
def IteT (K : PySem.W.Frag) (a : Addr) : It :=
  ⟨fun i H => ∃ (xs : List V) (x : V), SqT K H a xs ∧ xs[i]? = some x, fun i H v H' => ∃ T x, v = .ref T ∧ H T = none ∧ H' = upd H T (.tup [.int (i : Nat), x]) ∧ ∀ xs, SqT K H a xs → xs[i]? = some x, fun i H => ∃ xs : List V, SqT K H a xs ∧ xs.length = i⟩
theorem turn_enumT {P : Program} {w : World} {K : PySem.W.Frag} {elts : List Expr} {kk : Nat} {tpos : Pos} (a e it : Addr) :
    Turn P w K (.Tuple elts kk tpos) (IteT K a) [e, it] e (fun i h => (∃ old, IsEnum h e it ((i : Nat) : Int) old) ∧ h.IsTupleIter it a i ∧ e ≠ it ∧ a ≠ it ∧ a ≠ e) where
  mem := by simp
  obj := fun i h st b hb => by
    obtain ⟨⟨old, he⟩, ⟨o, ho, hc, hd⟩, _⟩ := st
    have e' : b = e ∨ b = it := by simpa using hb
    rcases e' with z | z
    · rw [z]; exact ⟨_, he, fun v q => nomatch q⟩
    · rw [z]; exact ⟨o, ho, fun v q => by rw [hd] at q; cases q⟩
  keep := fun i h h' st k => let ⟨⟨old, he⟩, hi, hne⟩ := st; ⟨⟨old, k e (by simp) _ he⟩, hi.at fun o q => k it (by simp) o q, hne⟩
  item := by
    intro X hP hw hK hc i pins s σ H E I hf st hg
    subst hP hw hK
    obtain ⟨⟨old, he⟩, hit, hne, ha1, ha2⟩ := st
    obtain ⟨xs, x, hq, hx⟩ := hg
    obtain ⟨its, rv, p, hz⟩ := I.tuple hq
    obtain ⟨u, hu, ru⟩ := rv.get hx
    have hel : e < s.heap.objs.size := Heap.lt_size he
    have hil : it < s.heap.objs.size := by obtain ⟨_, q, _⟩ := hit; exact Heap.lt_size q
    have hlt : i < its.toArray.size := by
      have := (List.getElem?_eq_some_iff.mp hu).1
      simpa using this
    refine wpAny_pyNext_enum_itemD (A := X.A) (Draws.tuple (A := X.A.in1) (show X.A.in1.handled = none from I.ok.hd hc) it a ha1 its.toArray) he ⟨hit, p⟩ hlt hne (by simp [hne, Ne.symm ha2]) fun x' h' tk hP ho hst' hT hsz hk => ?_
    have eu : x' = u := by
      have h1 : its[i]? = some x' := by simpa using hP
      rw [hu] at h1
      exact (Option.some.inj h1).symm
    subst eu
    refine ⟨_, rfl, wpAny_letOwnedTupleGo_enum (s := { s with heap := h', toks := tk + 1 }) ho fun h'' he' sb => ?_⟩
    have hT2 : h''.get? s.heap.objs.size = some { cls := .type "tuple", data := .seq #[.int i tk, x'] } := (sb.2 _ (Nat.ne_of_gt hel)).trans hT
    have new : ObjOk X.prog X.w (upd H s.heap.objs.size (.tup [.int (i : Nat), x])) h'' s.heap.objs.size (.tup [.int (i : Nat), x]) :=
      ⟨by show 2 ≤ sizeLine; decide, [.int i tk, x'], .cons ⟨_, rfl⟩ (.cons ru .nil), ⟨_, hT2, rfl, _, rfl⟩⟩
    have I1 : Inv X pins σ (upd H s.heap.objs.size (.tup [.int (i : Nat), x])) { s with heap := h'', toks := tk + 1 } :=
      I.turnedNew (ch := [e, it]) (fun b ob hb q => (sb.2 b (fun z => hb (by simp [z]))).trans (hk b ob (fun z => hb (by simp [z])) (fun z => hb (by simp [z])) q)) hf (Nat.le_refl _) new
    refine ⟨.ref s.heap.objs.size, _, I1, rfl, ⟨_, x, rfl, I.hok.fresh (Nat.le_refl _), rfl, fun ys hy => by rw [I.tuple_inj hy hq]; exact hx⟩, ⟨⟨x', ?_⟩, hst'.1.at fun o q => (sb.2 it (Ne.symm hne)).trans q, hne, ha1, ha2⟩, fun b hb => ?_⟩
    · have e1 : ((i + 1 : Nat) : Int) = (i : Int) + 1 := by omega
      rw [e1]; exact he'
    · have hb' : b < s.heap.objs.size := by
        have e' : b = e ∨ b = it := by simpa using hb
        rcases e' with z | z
        · rw [z]; exact hel
        · rw [z]; exact hil
      rw [upd_ne (Nat.ne_of_lt hb')]
      exact (hf b hb).1
  done := by
    intro X hP hw hK hc i pins s σ H E I hf st hg
    subst hP hw hK
    obtain ⟨⟨old, he⟩, hit, hne, ha1, ha2⟩ := st
    obtain ⟨xs, hq, hx⟩ := hg
    obtain ⟨its, rv, p, hz⟩ := I.tuple hq
    obtain ⟨f0, f1, f2, f3, f4, f5⟩ := hf it (by simp)
    have hn : its.toArray.size = i := by rw [List.size_toArray, ← rv.length, hx]
    subst hn
    exact wpAny_pyNext_enum_endD (A := X.A) (Draws.tuple (A := X.A.in1) (show X.A.in1.handled = none from I.ok.hd hc) it a ha1 its.toArray) he ⟨hit, p⟩ fun h' eb => ⟨rfl, I.turned (t' := s.toks) (fun b o hb q => eb b o hb q) f0 f1 f3 f4 f5⟩
  self := fun _ _ _ _ _ st h => let ⟨⟨_, he⟩, _⟩ := st; wpAny_pyIter_enum he h
def iEnumA (K : PySem.W.Frag) (te : TE) : TI := fun σ H Rv => te σ H fun v H1 => ∃ u, [v] = [u] ∧ ∃ a xs, u = .ref a ∧ ((SqL K H1 a xs ∧ Rv (Ite K a) H1) ∨ (SqT K H1 a xs ∧ Rv (IteT K a) H1))
theorem pi_enumA {X : Cx} {e : Expr} {te : TE} {p pos tpos : Pos} {elts : List Expr} {kk : Nat} (hg : Gl X "enumerate") (hm : X.mg "enumerate" = none) (he : PE X e te) (hs : starEach [e] X.env = [(false, eval e X.env)]) :
    PI X (.Tuple elts kk tpos) (.Call (.Name "enumerate" p) [e] [] pos) (iEnumA X.K te) := by
  refine ⟨fun pins s σ H R I h => ?_⟩
  have h0 : tCons te tNil σ H (fun vs H1 => ∃ v, vs = [v] ∧ ∃ a xs, v = .ref a ∧ ((SqL X.K H1 a xs ∧ R (Ite X.K a) H1) ∨ (SqT X.K H1 a xs ∧ R (IteT X.K a) H1))) := h
  refine Call_ (ld_blt I hg hm boot_enumerate (PyProof.Rows.callWith_type1 (thn ((pa_cons he pa_nil hs).run pos pins s σ H _ I h0) fun us s1 ⟨vs, H1, I1, r1, q1⟩ => ?_) hs rfl))
  obtain ⟨v, rfl, a, xs, rfl, q⟩ := q1
  cases r1 with
  | cons r rr =>
    cases rr
    cases r
    have fresh : ∀ b ∈ [s1.heap.objs.size + 1, s1.heap.objs.size], FpOk X pins H1 b := fun b hb => by
      have e' : b = s1.heap.objs.size + 1 ∨ b = s1.heap.objs.size := by simpa using hb
      have hle : s1.heap.objs.size ≤ b := by
        rcases e' with z | z
        · rw [z]; exact Nat.le_add_right _ _
        · rw [z]; exact Nat.le_refl _
      exact I1.fpOk hle (I1.hok.fresh hle)
    rcases q with ⟨hq, q⟩ | ⟨hq, q⟩
    · obtain ⟨its, rv, p', hz⟩ := I1.list hq
      refine call_enumerate_list p'.isList fun h' he hit hsz hk => wpAny_pyIter_enum he ?_
      have I2 : Inv X pins σ H1 { s1 with heap := h' } := I1.kept (t' := s1.toks) hk
      exact ⟨s1.heap.objs.size + 1, [s1.heap.objs.size + 1, s1.heap.objs.size], _, _, H1, rfl, I2, turn_enum a (s1.heap.objs.size + 1) s1.heap.objs.size, ⟨⟨.none, he⟩, hit, Nat.succ_ne_self _⟩, fresh, q⟩
    · obtain ⟨its, rv, p', hz⟩ := I1.tuple hq
      have hlt : a < s1.heap.objs.size := by obtain ⟨_, e, _⟩ := p'; exact Heap.lt_size e
      refine call_enumT (begins_tuple a its.toArray) p' fun h' he hit hk => wpAny_pyIter_enum he ?_
      have I2 : Inv X pins σ H1 { s1 with heap := h' } := I1.kept (t' := s1.toks) hk
      exact ⟨s1.heap.objs.size + 1, [s1.heap.objs.size + 1, s1.heap.objs.size], _, _, H1, rfl, I2, turn_enumT a (s1.heap.objs.size + 1) s1.heap.objs.size, ⟨⟨.none, he⟩, ⟨_, hit, rfl, rfl⟩, Nat.succ_ne_self _, Nat.ne_of_lt hlt, Nat.ne_of_lt (Nat.lt_succ_of_lt hlt)⟩, fresh, q⟩

section
variable {w : Wd} {k : Nat} {X : Cx} {pos : Pos} {σ : L2.St} {H Hf : Hp} {s s' : Sl} {φ : Nat → List Addr} {Q : VK}
/-! ### a list, a tuple -/
def iAny (K : PySem.W.Frag) (te : TE) : TI := fun σ H Rv => te σ H fun v H1 => ∃ a xs, v = .ref a ∧ ((SqL K H1 a xs ∧ Rv (Itl K a) H1) ∨ (SqT K H1 a xs ∧ Rv (Itt K a) H1))
theorem pi_any {tg l : Expr} {tl : TE} (hl : PE X l tl) : PI X tg l (iAny X.K tl) := by
  refine ⟨fun pins s σ H R I h => ?_⟩
  refine thn (hl.run pins s σ H _ I h) fun v s1 ⟨x, H1, I1, r1, q1⟩ => ?_
  obtain ⟨a, xs, e, q⟩ := q1
  subst e
  cases r1
  rcases q with ⟨hq, q⟩ | ⟨hq, q⟩
  · obtain ⟨its, rv, p, hz⟩ := I1.list hq
    refine wpAny_pyIter_list p.isList ?_
    refine ⟨s1.heap.objs.size, [s1.heap.objs.size], _, _, H1, rfl, I1.kept (t' := s1.toks) fun b o e => Heap.get?_push_of_some _ e, turn_list a _, ⟨_, Heap.get?_push_size _ rfl, rfl, rfl⟩, fun b hb => ?_, q⟩
    have e : b = s1.heap.objs.size := by simpa using hb
    subst e
    exact I1.fpOk (Nat.le_refl _) (I1.hok.fresh (Nat.le_refl _))
  · obtain ⟨its, rv, p, hz⟩ := I1.tuple hq
    refine wpAny_pyIter_tuple (show s1.heap.IsTuple a its.toArray from p) ?_
    refine ⟨s1.heap.objs.size, [s1.heap.objs.size], _, _, H1, rfl, I1.kept (t' := s1.toks) fun b o e => Heap.get?_push_of_some _ e, turn_tuple a _, ⟨_, Heap.get?_push_size _ rfl, rfl, rfl⟩, fun b hb => ?_, q⟩
    have e : b = s1.heap.objs.size := by simpa using hb
    subst e
    exact I1.fpOk (Nat.le_refl _) (I1.hok.fresh (Nat.le_refl _))
theorem wk_list {a : Addr} {vs : List V} {ds : List D} (h : Hf a = some (.lst vs)) (r : RpA w.K Hf vs ds) : Wk w (Itl w.K a) ds Hf := by
  refine ⟨fun i H Hf2 s1 s2 hi => ?_, fun H Hf2 s1 s2 => ?_, fun i H Hf2 x H' d s1 s2 hd y => ?_⟩
  · obtain ⟨v, hv, _⟩ := r.get (List.getElem?_eq_getElem hi)
    exact ⟨vs, v, SqL.of (s2 _ _ (s1 _ _ h)), hv⟩
  · exact ⟨vs, SqL.of (s2 _ _ (s1 _ _ h)), by rw [r.length]; exact Nat.le_refl _⟩
  · obtain ⟨v, hv, rv⟩ := r.get hd
    have := y.2 vs (SqL.of (s2 _ _ (s1 _ _ h)))
    rw [hv] at this
    cases this
    exact ⟨y.1, rv.mono s1⟩
theorem wk_tup {a : Addr} {vs : List V} {ds : List D} (h : STup w.K Hf a vs) (r : RpA w.K Hf vs ds) : Wk w (Itt w.K a) ds Hf := by
  refine ⟨fun i H Hf2 s1 s2 hi => ?_, fun H Hf2 s1 s2 => ?_, fun i H Hf2 x H' d s1 s2 hd y => ?_⟩
  · obtain ⟨v, hv, _⟩ := r.get (List.getElem?_eq_getElem hi)
    exact ⟨vs, v, (s2.stup (s1.stup h)).sq, hv⟩
  · exact ⟨vs, (s2.stup (s1.stup h)).sq, by rw [r.length]; exact Nat.le_refl _⟩
  · obtain ⟨v, hv, rv⟩ := r.get hd
    have := y.2 vs (s2.stup (s1.stup h)).sq
    rw [hv] at this
    cases this
    exact ⟨y.1, rv.mono s1⟩
theorem gi_seq (c : Cok w k X) {tg e : Expr} {f : EV} (he : GE w X e f) : GI w X tg e (iSeq f) := by
  refine pi_imp (pi_any he) fun σ H Rv => ?_
  rintro ⟨Hf, s, φ, ds, s', gd, e, q⟩
  obtain ⟨⟨d, s1⟩, h1, h2⟩ := R.bind_eq_ok.mp e
  obtain ⟨xs, h3, h4⟩ := R.bind_eq_ok.mp h2
  cases h4
  refine tE_D gd h1 fun v H1 Hf1 φ1 g1 r1 k1 => ?_
  rcases seqOf_ok h3 with rfl | rfl
  · cases r1 with
    | lst h r => exact ⟨_, _, rfl, .inl ⟨SqL.of (g1.sub _ _ h), by rw [c.K]; exact q _ H1 Hf1 φ1 g1 k1 (wk_list h r)⟩⟩
  · cases r1 with
    | tup h r => exact ⟨_, _, rfl, .inr ⟨by rw [c.K]; exact (g1.sub.stup h).sq, by rw [c.K]; exact q _ H1 Hf1 φ1 g1 k1 (wk_tup h r)⟩⟩

/-! ### ranges -/
theorem intR_len {lo : Int} {n : Nat} : (intR lo n).length = n := by simp [intR]
theorem intR_at {lo : Int} {n i : Nat} {d : D} (h : (intR lo n)[i]? = some d) : d = .int (lo + (i : Nat)) ∧ i < n := by
  simp only [intR, List.getElem?_map, List.getElem?_range, Option.map_eq_some_iff] at h
  obtain ⟨j, h1, rfl⟩ := h
  have h2 := List.getElem?_eq_some_iff.mp h1
  obtain ⟨h3, h4⟩ := h2
  simp at h3 h4
  subst h4
  exact ⟨rfl, h3⟩
theorem wk_rng {lo : Int} {n : Nat} : Wk w (Itr lo n) (intR lo n) Hf := by
  refine ⟨fun i H Hf2 s1 s2 hi => by rw [intR_len] at hi; exact hi, fun H Hf2 s1 s2 => by rw [intR_len]; exact Nat.le_refl _, fun i H Hf2 x H' d s1 s2 hd y => ?_⟩
  obtain ⟨rfl, _⟩ := intR_at hd
  obtain ⟨rfl, rfl⟩ := y
  exact ⟨rfl, .int _⟩
theorem gi_rg1 {tg a : Expr} {f : EV} {p : Pos} (hm : X.mg "range" = none) (ha : GE w X a f) (hg : Gl X "range" := by rfl) (hs : starEach [a] X.env = [(false, eval a X.env)] := by rfl) : GI w X tg (.Call (.Name "range" p) [a] [] pos) (iRg1 f) := by
  refine pi_imp (pi_range1 hg hm (pa_cons ha pa_nil hs) hs) fun σ H Rv => ?_
  rintro ⟨Hf, s, φ, ds, s', gd, e, q⟩
  obtain ⟨⟨d, s1⟩, h1, h2⟩ := R.bind_eq_ok.mp e
  refine tE_D gd h1 fun v H1 Hf1 φ1 g1 r1 k1 => ?_
  simp only at h2
  split at h2
  · split at h2
    · rename_i hb
      cases h2
      cases r1
      exact ⟨_, rfl, by omega, by omega, q _ H1 Hf1 φ1 g1 k1 wk_rng⟩
    · cases h2
  · cases h2
theorem gi_rg2 {tg a b : Expr} {f f' : EV} {p : Pos} (hm : X.mg "range" = none) (ha : GE w X a f) (hb : GE w X b f') (hg : Gl X "range" := by rfl) (hs : starEach [a, b] X.env = [(false, eval a X.env), (false, eval b X.env)] := by rfl) (hs2 : starEach [b] X.env = [(false, eval b X.env)] := by rfl) :
    GI w X tg (.Call (.Name "range" p) [a, b] [] pos) (iRg2 f f') := by
  refine pi_imp (pi_range2 hg hm (pa_cons ha (pa_cons hb pa_nil hs2) (by rw [hs, hs2])) hs hs2) fun σ H Rv => ?_
  rintro ⟨Hf, s, φ, ds, s', gd, e, q⟩
  obtain ⟨⟨d, s1⟩, h1, h2⟩ := R.bind_eq_ok.mp e
  obtain ⟨⟨d2, s2⟩, h3, h4⟩ := R.bind_eq_ok.mp h2
  refine tE_D gd h1 fun v H1 Hf1 φ1 g1 r1 k1 => tE_D g1 h3 fun v2 H2 Hf2 φ2 g2 r2 k2 => ?_
  simp only at h4
  split at h4
  · split at h4
    · rename_i hb
      cases h4
      cases r1
      cases r2
      exact ⟨_, _, rfl, by omega, q _ H2 Hf2 φ2 g2 (k1.trans k2 (fun _ => id) fun x hx => g1.own_free hx) wk_rng⟩
    · cases h4
  · cases h4

/-! ### enumerate -/
theorem enumD_at : ∀ {ds : List D} {k i : Nat} {d : D}, (enumD k ds)[i]? = some d → ∃ x, ds[i]? = some x ∧ d = .tuple [.int ((k + i : Nat) : Int), x]
  | [], k, i, d, h => by simp [enumD] at h
  | x :: r, k, 0, d, h => by
    simp [enumD] at h
    exact ⟨x, rfl, by simp [← h]⟩
  | x :: r, k, i + 1, d, h => by
    obtain ⟨y, h1, h2⟩ := enumD_at (ds := r) (k := k + 1) (i := i) (by simpa [enumD] using h)
    exact ⟨y, by simpa using h1, by rw [h2]; simp [Nat.add_assoc, Nat.add_comm 1 i]⟩
theorem enumD_len : ∀ {ds : List D} {k : Nat}, (enumD k ds).length = ds.length
  | [], _ => rfl
  | _ :: r, k => by rw [enumD, List.length_cons, List.length_cons, enumD_len]
theorem wk_enumL {a : Addr} {vs : List V} {ds : List D} (h : Hf a = some (.lst vs)) (r : RpA w.K Hf vs ds) : Wk2 w (Ite w.K a) (enumD 0 ds) Hf := by
  refine ⟨fun i H Hf2 s1 s2 hi => ?_, fun H Hf2 s1 s2 => ?_, fun i H Hf2 x H' d s1 s2 hd y => ?_⟩
  · rw [enumD_len] at hi
    obtain ⟨v, hv, _⟩ := r.get (List.getElem?_eq_getElem hi)
    exact ⟨vs, v, SqL.of (s2 _ _ (s1 _ _ h)), hv⟩
  · exact ⟨vs, SqL.of (s2 _ _ (s1 _ _ h)), by rw [enumD_len, r.length]; exact Nat.le_refl _⟩
  · obtain ⟨z, hz, rfl⟩ := enumD_at hd
    obtain ⟨v, hv, rv⟩ := r.get hz
    obtain ⟨p, x', rfl, hp, rfl, hx⟩ := y
    have := hx vs (SqL.of (s2 _ _ (s1 _ _ h)))
    rw [hv] at this
    cases this
    exact ⟨p, _, _, rfl, hp, rfl, rfl, by rw [Nat.zero_add]; exact .cons (.int _) (.cons (rv.mono s1) .nil)⟩
theorem wk_enumT {a : Addr} {vs : List V} {ds : List D} (h : STup w.K Hf a vs) (r : RpA w.K Hf vs ds) : Wk2 w (IteT w.K a) (enumD 0 ds) Hf := by
  refine ⟨fun i H Hf2 s1 s2 hi => ?_, fun H Hf2 s1 s2 => ?_, fun i H Hf2 x H' d s1 s2 hd y => ?_⟩
  · rw [enumD_len] at hi
    obtain ⟨v, hv, _⟩ := r.get (List.getElem?_eq_getElem hi)
    exact ⟨vs, v, (s2.stup (s1.stup h)).sq, hv⟩
  · exact ⟨vs, (s2.stup (s1.stup h)).sq, by rw [enumD_len, r.length]⟩
  · obtain ⟨z, hz, rfl⟩ := enumD_at hd
    obtain ⟨v, hv, rv⟩ := r.get hz
    obtain ⟨p, x', rfl, hp, rfl, hx⟩ := y
    have := hx vs (s2.stup (s1.stup h)).sq
    rw [hv] at this
    cases this
    exact ⟨p, _, _, rfl, hp, rfl, rfl, by rw [Nat.zero_add]; exact .cons (.int _) (.cons (rv.mono s1) .nil)⟩
theorem gi_enum (c : Cok w k X) {e : Expr} {f : EV} {p tpos : Pos} {elts : List Expr} {kk : Nat} (hm : X.mg "enumerate" = none) (he : GE w X e f) (hg : Gl X "enumerate" := by rfl) (hs : starEach [e] X.env = [(false, eval e X.env)] := by rfl) :
    GI2 w X (.Tuple elts kk tpos) (.Call (.Name "enumerate" p) [e] [] pos) (iEnum f) := by
  refine pi_imp (pi_enumA hg hm he hs) fun σ H Rv => ?_
  rintro ⟨Hf, s, φ, ds, s', gd, e, q⟩
  obtain ⟨⟨xs, s1⟩, e1, e2⟩ := R.bind_eq_ok.mp e
  cases e2
  obtain ⟨⟨d, s1⟩, h1, h2⟩ := R.bind_eq_ok.mp e1
  obtain ⟨xs, h3, h4⟩ := R.bind_eq_ok.mp h2
  cases h4
  refine tE_D gd h1 fun v H1 Hf1 φ1 g1 r1 k1 => ?_
  rcases seqOf_ok h3 with rfl | rfl
  · cases r1 with
    | lst h r => exact ⟨_, rfl, _, _, rfl, .inl ⟨SqL.of (g1.sub _ _ h), by rw [c.K]; exact q _ H1 Hf1 φ1 g1 k1 (wk_enumL h r)⟩⟩
  · cases r1 with
    | tup h r => exact ⟨_, rfl, _, _, rfl, .inr ⟨by rw [c.K]; exact (g1.sub.stup h).sq, by rw [c.K]; exact q _ H1 Hf1 φ1 g1 k1 (wk_enumT h r)⟩⟩

/-! ### zip -/
theorem zipD_at : ∀ {ds es : List D} {i : Nat} {d : D}, (zipD ds es)[i]? = some d → ∃ x y, ds[i]? = some x ∧ es[i]? = some y ∧ d = .tuple [x, y]
  | [], es, i, d, h => by simp [zipD] at h
  | x :: r, [], i, d, h => by simp [zipD] at h
  | x :: r, y :: t, 0, d, h => by
    simp [zipD] at h
    exact ⟨x, y, rfl, rfl, by simp [← h]⟩
  | x :: r, y :: t, i + 1, d, h => by
    obtain ⟨a, b, h1, h2, h3⟩ := zipD_at (ds := r) (es := t) (i := i) (by simpa [zipD] using h)
    exact ⟨a, b, by simpa using h1, by simpa using h2, h3⟩
theorem zipD_len : ∀ {ds es : List D}, (zipD ds es).length = min ds.length es.length
  | [], es => by simp [zipD]
  | x :: r, [] => by simp [zipD]
  | x :: r, y :: t => by simp [zipD, zipD_len (ds := r) (es := t)]
theorem wk_zipL {a b : Addr} {vs us : List V} {ds es : List D} (h : Hf a = some (.lst vs)) (r : RpA w.K Hf vs ds) (h' : Hf b = some (.lst us)) (r' : RpA w.K Hf us es) : Wk2 w (Itz w.K a b) (zipD ds es) Hf := by
  refine ⟨fun i H Hf2 s1 s2 hi => ?_, fun H Hf2 s1 s2 => ?_, fun i H Hf2 x H' d s1 s2 hd y => ?_⟩
  · rw [zipD_len] at hi
    obtain ⟨v, hv, _⟩ := r.get (List.getElem?_eq_getElem (show i < ds.length by omega))
    obtain ⟨u, hu, _⟩ := r'.get (List.getElem?_eq_getElem (show i < es.length by omega))
    exact ⟨vs, us, v, u, SqL.of (s2 _ _ (s1 _ _ h)), SqL.of (s2 _ _ (s1 _ _ h')), hv, hu⟩
  · refine ⟨vs, us, SqL.of (s2 _ _ (s1 _ _ h)), SqL.of (s2 _ _ (s1 _ _ h')), ?_⟩
    rw [zipD_len, r.length, r'.length]
    omega
  · obtain ⟨z, z', hz, hz', rfl⟩ := zipD_at hd
    obtain ⟨v, hv, rv⟩ := r.get hz
    obtain ⟨u, hu, ru⟩ := r'.get hz'
    obtain ⟨p, x', y', rfl, hp, rfl, hx, hy⟩ := y
    have e1 := hx vs (SqL.of (s2 _ _ (s1 _ _ h)))
    have e2 := hy us (SqL.of (s2 _ _ (s1 _ _ h')))
    rw [hv] at e1
    rw [hu] at e2
    cases e1
    cases e2
    exact ⟨p, _, _, rfl, hp, rfl, rfl, .cons (rv.mono s1) (.cons (ru.mono s1) .nil)⟩
theorem wk_zipT {a b : Addr} {vs us : List V} {ds es : List D} (h : STup w.K Hf a vs) (r : RpA w.K Hf vs ds) (h' : STup w.K Hf b us) (r' : RpA w.K Hf us es) : Wk2 w (RZ.ItzT w.K a b) (zipD ds es) Hf := by
  refine ⟨fun i H Hf2 s1 s2 hi => ?_, fun H Hf2 s1 s2 => ?_, fun i H Hf2 x H' d s1 s2 hd y => ?_⟩
  · rw [zipD_len] at hi
    obtain ⟨v, hv, _⟩ := r.get (List.getElem?_eq_getElem (show i < ds.length by omega))
    obtain ⟨u, hu, _⟩ := r'.get (List.getElem?_eq_getElem (show i < es.length by omega))
    exact ⟨vs, us, v, u, (s2.stup (s1.stup h)).sq, (s2.stup (s1.stup h')).sq, hv, hu⟩
  · refine ⟨vs, us, (s2.stup (s1.stup h)).sq, (s2.stup (s1.stup h')).sq, ?_⟩
    rw [zipD_len, r.length, r'.length]
    omega
  · obtain ⟨z, z', hz, hz', rfl⟩ := zipD_at hd
    obtain ⟨v, hv, rv⟩ := r.get hz
    obtain ⟨u, hu, ru⟩ := r'.get hz'
    obtain ⟨p, x', y', rfl, hp, rfl, hx, hy⟩ := y
    have e1 := hx vs (s2.stup (s1.stup h)).sq
    have e2 := hy us (s2.stup (s1.stup h')).sq
    rw [hv] at e1
    rw [hu] at e2
    cases e1
    cases e2
    exact ⟨p, _, _, rfl, hp, rfl, rfl, .cons (rv.mono s1) (.cons (ru.mono s1) .nil)⟩
theorem gi_zip (c : Cok w k X) {e e2 : Expr} {f f' : EV} {p tpos : Pos} {elts : List Expr} {kk : Nat} (hm : X.mg "zip" = none) (he : GE w X e f) (he2 : GE w X e2 f') (hg : Gl X "zip" := by rfl)
    (hs : starEach [e, e2] X.env = (false, eval e X.env) :: starEach [e2] X.env := by rfl) (hs2 : starEach [e2] X.env = (false, eval e2 X.env) :: starEach [] X.env := by rfl) (hpl : (backTo pos (starEach [e2] X.env)).any (·.1) = false := by rfl) :
    GI2 w X (.Tuple elts kk tpos) (.Call (.Name "zip" p) [e, e2] [] pos) (iZip f f') := by
  refine pi_imp (RZ.pi_zipA hg hm (pa_cons he (pa_cons he2 pa_nil hs2) hs) hs hpl) fun σ H Rv => ?_
  rintro ⟨Hf, s, φ, ds, s', gd, e, q⟩
  obtain ⟨⟨d, s1⟩, h1, h2⟩ := R.bind_eq_ok.mp e
  obtain ⟨⟨d2, s2⟩, h3, h4⟩ := R.bind_eq_ok.mp h2
  refine tE_D gd h1 fun v H1 Hf1 φ1 g1 r1 k1 => tE_D g1 h3 fun v2 H2 Hf2 φ2 g2 r2 k2 => ?_
  have k12 := k1.trans k2 (fun _ => id) fun x hx => g1.own_free hx
  have r1' := r1.mono k2.sub
  simp only at h4
  split at h4
  · cases h4
    cases r1' with
    | lst h r =>
      cases r2 with
      | lst h' r' => exact ⟨_, _, _, _, rfl, .inl ⟨SqL.of (g2.sub _ _ h), SqL.of (g2.sub _ _ h'), by rw [c.K]; exact q _ H2 Hf2 φ2 g2 k12 (wk_zipL h r h' r')⟩⟩
  · cases h4
    cases r1' with
    | tup h r =>
      cases r2 with
      | tup h' r' => exact ⟨_, _, _, _, rfl, .inr ⟨by rw [c.K]; exact (g2.sub.stup h).sq, by rw [c.K]; exact (g2.sub.stup h').sq, by rw [c.K]; exact q _ H2 Hf2 φ2 g2 k12 (wk_zipT h r h' r')⟩⟩
  · cases h4
end
end KV

set_option Elab.async false
set_option linter.all false
set_option maxRecDepth 100000
set_option maxHeartbeats 2000000
/-! KVL: comprehensions. -/
namespace KV
open PySem L2
open PySem.Spec PyProof.Rows

section
variable {w : Wd} {k : Nat} {X : Cx} {pos : Pos} {σ : L2.St} {H Hf : Hp} {s s' : Sl} {φ : Nat → List Addr} {Q : VK}

theorem Cok.blk (c : Cok w k X) {s0 : Shared} {H0 : Hp} {scope : Scope} {cenv : Env} {fp : List Addr} : Cok w k (X.blk s0 H0 scope cenv fp) := ⟨c.K, c.calm, c.nd, c.room, c.gd⟩
theorem wipeD_length (s : Sl) : ∀ vs : List Nat, (wipeD s vs).length = s.length
  | [] => rfl
  | v :: vs => by unfold wipeD; rw [List.length_set, wipeD_length s vs]
theorem wipeD_some {s : Sl} {i : Nat} {x : T} : ∀ {vs : List Nat}, (wipeD s vs)[i]? = some (some x) → s[i]? = some (some x) ∧ i ∉ vs
  | [], h => ⟨h, by simp⟩
  | v :: vs, h => by
    unfold wipeD at h
    obtain ⟨z, h⟩ := clr_at h
    obtain ⟨h1, h2⟩ := wipeD_some h
    exact ⟨h1, by simp only [List.mem_cons, not_or]; exact ⟨z, h2⟩⟩
theorem wipe_out {σ : L2.St} {i : Nat} : ∀ {vs : List Nat}, i ∉ vs → (wipe σ vs)[i]? = σ[i]?
  | [], _ => rfl
  | v :: vs, h => by
    simp only [List.mem_cons, not_or] at h
    unfold wipe
    rw [List.getElem?_set_ne (Ne.symm h.1), wipe_out h.2]
theorem wipe_in {σ : L2.St} {i : Nat} : ∀ {vs : List Nat}, i ∈ vs → (wipe σ vs)[i]? = if i < σ.length then some none else none
  | [], h => nomatch h
  | v :: vs, h => by
    unfold wipe
    by_cases e : v = i
    · subst e
      by_cases hl : v < σ.length
      · rw [List.getElem?_set_self (by rw [wipe_length]; exact hl), if_pos hl]
      · rw [List.getElem?_eq_none (by rw [List.length_set, wipe_length]; omega), if_neg hl]
    · rw [List.getElem?_set_ne e]
      exact wipe_in ((List.mem_cons.mp h).resolve_left fun z => e z.symm)
theorem wipe_eq {σ σ2 : L2.St} {vs ts : List Nat} (hl : σ2.length = (wipe σ vs).length) (h : ∀ i, i ∉ ts → σ2[i]? = (wipe σ vs)[i]?) (ht : ∀ i ∈ ts, i ∈ vs) : wipe σ2 vs = wipe σ vs := by
  apply List.ext_getElem?
  intro i
  by_cases hi : i ∈ vs
  · rw [wipe_in hi, wipe_in hi, hl, wipe_length]
  · rw [wipe_out hi]
    exact h i fun z => hi (ht i z)
theorem Good.wipe {σ' : L2.St} {vs : List Nat} (g : Good w σ H Hf s φ) (hl : σ'.length = σ.length) (h : ∀ i, i ∉ vs → σ'[i]? = σ[i]?) : Good w σ' H Hf (wipeD s vs) φ ∧ ∀ a, Own (wipeD s vs) φ a → Own s φ a := by
  refine ⟨⟨g.sub, by rw [wipeD_length, g.len, hl], fun i t e => ?_, fun i t a e m => g.fr i t a (wipeD_some e).1 m, fun i j t u a e1 e2 m1 m2 => g.dj i j t u a (wipeD_some e1).1 (wipeD_some e2).1 m1 m2⟩, fun a ⟨i, t, e, m⟩ => ⟨i, t, (wipeD_some e).1, m⟩⟩
  obtain ⟨e1, e2⟩ := wipeD_some e
  obtain ⟨v, h1, h2⟩ := g.here i t e1
  exact ⟨v, by rw [h i e2]; exact h1, h2⟩
def tC (w : Wd) : Option BV → TT
  | none => tYes
  | some b => tB w b
def bOf : Option BV → BV
  | none => fun s => .ok (true, s)
  | some b => b
theorem compD_cons {g : GV} {c : Option BV} {f : EV} {own : List Nat} {x : D} {xs : List D} : compD g c f own (x :: xs) s = (g x (wipeD s own)).bind fun s1 => (bOf c s1).bind fun r =>
      if r.1 then (kD f r.2).bind fun q => (compD g c f own xs (wipeD q.2 own)).bind fun t => .ok (q.1 :: t.1, t.2)
      else compD g c f own xs (wipeD r.2 own) := by
  cases c <;> rfl
theorem tC_of {c : Option BV} {b : Bool} {P : Bool → Hp → Prop} (g : Good w σ H Hf s φ) (e : bOf c s = .ok (b, s')) (h : ∀ H' Hf' φ', Good w σ H' Hf' s' φ' → Stp H Hf (Own s φ) H' Hf' (Own s' φ') → P b H') : tC w c σ H P := by
  cases c with
  | none => cases e; exact h H Hf φ g Stp.refl
  | some f => exact ⟨Hf, s, φ, b, s', g, e, h⟩
/-- where a comprehension stands: its list at A holds das -/
structure At (w : Wd) (σ : L2.St) (H0 Hf0 : Hp) (P0 : Addr → Prop) (A : Addr) (das : List D) (H Hf : Hp) (s : Sl) (φ : Nat → List Addr) : Prop where
  g : Good w σ H Hf s φ
  r : RL w σ Hf H s φ (.ref A) (.t (.lst das)) [A]
  k : Stp H0 Hf0 P0 H Hf (fun a => Own s φ a ∨ a ∈ [A])
theorem At.lst {H0 Hf0 : Hp} {P0 : Addr → Prop} {A : Addr} {das : List D} (a : At w σ H0 Hf0 P0 A das H Hf s φ) : ∃ acc, H A = some (.lst acc) ∧ RpA w.K Hf acc das ∧ Hf A = none ∧ ¬ Own s φ A := by
  cases a.r with
  | t r c =>
    obtain ⟨c1, c2⟩ := c A (by simp)
    cases r with
    | lst h r => exact ⟨_, h, r, c1, c2⟩
theorem At.step {σ2 : L2.St} {H0 Hf0 : Hp} {P0 : Addr → Prop} {A : Addr} {das : List D} {H1 Hf1 : Hp} {s1 : Sl} {φ1 : Nat → List Addr} (a : At w σ H0 Hf0 P0 A das H Hf s φ) (g1 : Good w σ2 H1 Hf1 s1 φ1) (k1 : Stp H Hf (Own s φ) H1 Hf1 (Own s1 φ1)) : At w σ2 H0 Hf0 P0 A das H1 Hf1 s1 φ1 := by
  obtain ⟨acc, h1, h2, h3, h4⟩ := a.lst
  have r1 : RL w σ2 Hf H s φ (.ref A) (.t (.lst das)) [A] := .t (.lst h1 h2) fun x hx => by rw [List.mem_singleton] at hx; subst hx; exact ⟨h3, h4⟩
  have hA : H1 A = some (.lst acc) := k1.keep A _ h1 h4
  have noP : ¬ (Own s1 φ1 A ∨ Hf1 A ≠ none) := fun z => by
    rcases k1.new A z with z | z | z
    · exact h4 z
    · exact z h3
    · rw [h1] at z; cases z
  refine ⟨g1, r1.stay (s' := s1) (φ' := φ1) k1 fun _ => id, ⟨a.k.sub.trans k1.sub, fun x o e n => ?_, fun x z => ?_⟩⟩
  · have e1 := a.k.keep x o e n
    refine k1.keep x o e1 fun q => ?_
    rcases a.k.new x (.inl (.inl q)) with z | z | z
    · exact n z
    · have := a.g.own_free q
      cases e2 : Hf0 x with
      | none => exact z e2
      | some u => have e3 := a.k.sub x u e2; rw [this] at e3; cases e3
    · rw [e] at z; cases z
  · rcases z with (z | z) | z
    · rcases k1.new x (.inl z) with z | z | z
      · exact a.k.new x (.inl (.inl z))
      · exact a.k.new x (.inr z)
      · by_cases n : P0 x
        · exact .inl n
        · cases e : H0 x with
          | none => exact .inr (.inr rfl)
          | some u => rw [a.k.keep x u e n] at z; cases z
    · exact a.k.new x (.inl (.inr z))
    · rcases k1.new x (.inr z) with z | z | z
      · exact a.k.new x (.inl (.inl z))
      · exact a.k.new x (.inr z)
      · by_cases n : P0 x
        · exact .inl n
        · cases e : H0 x with
          | none => exact .inr (.inr rfl)
          | some u => rw [a.k.keep x u e n] at z; cases z
theorem At.push {H0 Hf0 : Hp} {P0 : Addr → Prop} {A : Addr} {das : List D} {acc : List V} {v : V} {d : D} (a : At w σ H0 Hf0 P0 A das H Hf s φ) (h : H A = some (.lst acc)) (r : Rp w.K Hf v d) : At w σ H0 Hf0 P0 A (das ++ [d]) (upd H A (.lst (acc ++ [v]))) Hf s φ := by
  obtain ⟨acc', h1, h2, h3, h4⟩ := a.lst
  rw [h] at h1
  cases h1
  refine ⟨a.g.updO h3 h4, .t (.lst upd_same (h2.append (.cons r .nil))) fun x hx => by rw [List.mem_singleton] at hx; subst hx; exact ⟨h3, h4⟩, a.k.updO (.inr (by simp)) h3⟩
theorem At.wipe {σ' : L2.St} {vs : List Nat} {H0 Hf0 : Hp} {P0 : Addr → Prop} {A : Addr} {das : List D} (a : At w σ H0 Hf0 P0 A das H Hf s φ) (hl : σ'.length = σ.length) (h : ∀ i, i ∉ vs → σ'[i]? = σ[i]?) : At w σ' H0 Hf0 P0 A das H Hf (wipeD s vs) φ := by
  obtain ⟨g, o⟩ := a.g.wipe hl h
  exact a.step g (Stp.refl.weak o)
/-- a turn, behind its target -/
theorem turn_lc {g : GV} {c : Option BV} {f : EV} {vs : List Nat} {x0 : D} {xs das rest : List D} {σ2 : L2.St} {H0 Hf0 : Hp} {P0 : Addr → Prop} {A : Addr} {send : Sl} {Nx : Hp → Prop}
    (e : compD g c f vs (x0 :: xs) s = .ok (rest, send)) (hz : das.length + rest.length ≤ 16000000)
    (hN : ∀ das' rest' H3 Hf3 s3 φ3, At w σ H0 Hf0 P0 A das' H3 Hf3 s3 φ3 → compD g c f vs xs s3 = .ok (rest', send) → das' ++ rest' = das ++ rest → Nx H3) :
    ∃ s2, g x0 (wipeD s vs) = .ok s2 ∧ ∀ H2 Hf2 φ2, At w σ2 H0 Hf0 P0 A das H2 Hf2 s2 φ2 → wipe σ2 vs = wipe σ vs →
      tC w c σ2 H2 fun b H3 => if b = true then tE w f σ2 H3 (fun y H4 => ∃ acc, H4 A = some (.lst acc) ∧ acc.length < sizeLine ∧ Nx (upd H4 A (.lst (acc ++ [y])))) else Nx H3 := by
  rw [compD_cons] at e
  obtain ⟨s2, h1, h2⟩ := R.bind_eq_ok.mp e
  obtain ⟨⟨b, s3⟩, h3, h4⟩ := R.bind_eq_ok.mp h2
  refine ⟨s2, h1, fun H2 Hf2 φ2 a2 hw => tC_of a2.g h3 fun H3 Hf3 φ3 g3 k3 => ?_⟩
  have a3 := a2.step g3 k3
  have hlen : σ.length = σ2.length := by
    have := congrArg List.length hw
    rw [wipe_length, wipe_length] at this
    exact this.symm
  have hout : ∀ i, i ∉ vs → σ[i]? = σ2[i]? := fun i hi => by
    have := congrArg (fun z : L2.St => z[i]?) hw
    simp only [wipe_out hi] at this
    exact this.symm
  cases b with
  | false =>
    simp only [Bool.false_eq_true, if_false] at h4 ⊢
    exact hN das rest H3 Hf3 _ φ3 (a3.wipe hlen hout) h4 rfl
  | true =>
    simp only [if_true] at h4 ⊢
    obtain ⟨⟨d, s4⟩, h5, h6⟩ := R.bind_eq_ok.mp h4
    obtain ⟨⟨rest', s5⟩, h7, h8⟩ := R.bind_eq_ok.mp h6
    cases h8
    refine tE_D g3 h5 fun v H4 Hf4 φ4 g4 r4 k4 => ?_
    have a4 := a3.step g4 k4
    obtain ⟨acc, e1, e2, _, _⟩ := a4.lst
    refine ⟨acc, e1, ?_, hN (das ++ [d]) rest' _ Hf4 _ φ4 ((a4.push e1 r4).wipe hlen hout) h7 (by simp)⟩
    rw [e2.length, sizeLine_eq]
    rw [List.length_cons] at hz
    omega
theorem lc_1 {J : It} {g : GV} {c : Option BV} {f : EV} {vs ts : List Nat} {ds rest : List D} {H1 Hf1 : Hp} {s1 : Sl} {φ1 : Nat → List Addr} {A : Addr} (g1 : Good w σ H1 Hf1 s1 φ1) (k1 : Stp H Hf (Own s φ) H1 Hf1 (Own s1 φ1)) (hA : H1 A = none) (wk : Wk w J ds Hf1) (ht : ∀ i ∈ ts, i ∈ vs)
    (e : compD g c f vs ds s1 = .ok (rest, s')) (hz : rest.length ≤ 16000000) (q : PQ w σ H Hf s φ s' (.t (.lst rest)) Q) :
    ∃ W : Nat → Nat → Hp → Prop, (∃ m, W 0 m (upd H1 A (.lst []))) ∧ ∀ i m H, W i m H → (J.stop i H ∧ Q (.ref A) H) ∨ (J.go i H ∧ ∃ Nx : Hp → Prop, (∀ H', Nx H' → ∃ m', m' < m ∧ W (i + 1) m' H') ∧
      ∀ x H', J.yld i H x H' → tG w g ts x (wipe σ vs) H' fun σ2 H2 => wipe σ2 vs = wipe σ vs ∧ tC w c σ2 H2 fun b H3 => if b = true then tE w f σ2 H3 (fun y H4 => ∃ acc, H4 A = some (.lst acc) ∧ acc.length < sizeLine ∧ Nx (upd H4 A (.lst (acc ++ [y])))) else Nx H3) := by
  have kA : Stp H Hf (Own s φ) (upd H1 A (.lst [])) Hf1 (fun a => Own s1 φ1 a ∨ a ∈ [A]) := k1.trans (Stp.updH hA fun a z => z.imp id fun z => by simpa using z) (fun _ => id) fun x hx => g1.own_free hx
  have fA : ∀ x, (Own s1 φ1 x ∨ x ∈ [A]) → Hf1 x = none := fun x z => by
    rcases z with z | z
    · exact g1.own_free z
    · rw [List.mem_singleton] at z; subst z; exact g1.hf_none hA
  have at0 : At w σ (upd H1 A (.lst [])) Hf1 (fun a => Own s1 φ1 a ∨ a ∈ [A]) A [] (upd H1 A (.lst [])) Hf1 s1 φ1 :=
    ⟨g1.updH hA, .t (.lst upd_same .nil) fun x hx => by rw [List.mem_singleton] at hx; subst hx; exact ⟨g1.hf_none hA, g1.own_ne hA⟩, Stp.refl⟩
  let Inv1 : Nat → Hp → Prop := fun i Hc => ∃ das rest' Hfc sc φc, At w σ (upd H1 A (.lst [])) Hf1 (fun a => Own s1 φ1 a ∨ a ∈ [A]) A das Hc Hfc sc φc ∧ compD g c f vs (ds.drop i) sc = .ok (rest', s') ∧ das ++ rest' = rest
  refine ⟨fun i m Hc => m = ds.length - i ∧ i ≤ ds.length ∧ Inv1 i Hc, ⟨ds.length, by simp, Nat.zero_le _, [], rest, Hf1, s1, φ1, at0, e, rfl⟩, ?_⟩
  rintro i m Hc ⟨rfl, hi, das, rest', Hfc, sc, φc, ac, ec, er⟩
  by_cases hlt : i < ds.length
  · rw [drop_at hlt] at ec
    refine .inr ⟨wk.goes i Hc Hfc ac.k.sub ac.g.sub hlt, fun H' => Inv1 (i + 1) H', fun H' n => ⟨ds.length - (i + 1), by omega, rfl, hlt, n⟩, fun x H' y => ?_⟩
    have hz2 : das.length + rest'.length ≤ 16000000 := by rw [← er, List.length_append] at hz; exact hz
    obtain ⟨rfl, rx⟩ := wk.yields i Hc Hfc x H' ds[i] ac.k.sub ac.g.sub (List.getElem?_eq_getElem hlt) y
    obtain ⟨gw, ow⟩ := ac.g.wipe (σ' := wipe σ vs) (vs := vs) (wipe_length _ _) fun i hi => wipe_out hi
    have key := fun σ2 => turn_lc (σ := σ) (σ2 := σ2) (das := das) (A := A) (H0 := upd H1 A (.lst [])) (Hf0 := Hf1) (P0 := fun a => Own s1 φ1 a ∨ a ∈ [A]) (Nx := fun H' => Inv1 (i + 1) H') (w := w) ec hz2 fun das' rest'' H3 Hf3 s3 φ3 a3 e3 er3 => ⟨das', rest'', Hf3, s3, φ3, a3, e3, er3.trans er⟩
    obtain ⟨s2, h2, _⟩ := key σ
    refine ⟨Hfc, _, φc, ds[i], s2, gw, rx, h2, fun σ2 φ2 g2 o2 l2 n2 => ?_⟩
    have hw := wipe_eq l2 n2 ht
    refine ⟨hw, ?_⟩
    obtain ⟨s2', h2', h3⟩ := key σ2
    rw [h2] at h2'
    cases h2'
    exact h3 H' Hfc φ2 (ac.step g2 (Stp.refl.weak fun a z => ow a (o2 a z))) hw
  · have : i = ds.length := by omega
    subst this
    rw [List.drop_length] at ec
    cases ec
    rw [List.append_nil] at er
    subst er
    exact .inl ⟨wk.stops Hc Hfc ac.k.sub ac.g.sub, q _ Hc Hfc φc [A] ac.g ac.r (kA.trans ac.k (fun _ => id) fA)⟩
theorem lc_2 {J : It} {K : PySem.W.Frag} {gs : List GV} {c : Option BV} {f : EV} {vs ts : List Nat} {ds rest : List D} {H1 Hf1 : Hp} {s1 : Sl} {φ1 : Nat → List Addr} {A : Addr} (g1 : Good w σ H1 Hf1 s1 φ1) (k1 : Stp H Hf (Own s φ) H1 Hf1 (Own s1 φ1)) (hA : H1 A = none) (wk : Wk2 w J ds Hf1) (ht : ∀ i ∈ ts, i ∈ vs)
    (e : compD (gT gs) c f vs ds s1 = .ok (rest, s')) (hz : rest.length ≤ 16000000) (q : PQ w σ H Hf s φ s' (.t (.lst rest)) Q) :
    ∃ W : Nat → Nat → Hp → Prop, (∃ m, W 0 m (upd H1 A (.lst []))) ∧ ∀ i m H, W i m H → (J.stop i H ∧ Q (.ref A) H) ∨ (J.go i H ∧ ∃ Nx : Hp → Prop, (∀ H', Nx H' → ∃ m', m' < m ∧ W (i + 1) m' H') ∧
      ∀ x H', J.yld i H x H' → tG2 w K gs ts x (wipe σ vs) H' fun σ2 H2 => wipe σ2 vs = wipe σ vs ∧ tC w c σ2 H2 fun b H3 => if b = true then tE w f σ2 H3 (fun y H4 => ∃ acc, H4 A = some (.lst acc) ∧ acc.length < sizeLine ∧ Nx (upd H4 A (.lst (acc ++ [y])))) else Nx H3) := by
  have kA : Stp H Hf (Own s φ) (upd H1 A (.lst [])) Hf1 (fun a => Own s1 φ1 a ∨ a ∈ [A]) := k1.trans (Stp.updH hA fun a z => z.imp id fun z => by simpa using z) (fun _ => id) fun x hx => g1.own_free hx
  have fA : ∀ x, (Own s1 φ1 x ∨ x ∈ [A]) → Hf1 x = none := fun x z => by
    rcases z with z | z
    · exact g1.own_free z
    · rw [List.mem_singleton] at z; subst z; exact g1.hf_none hA
  have at0 : At w σ (upd H1 A (.lst [])) Hf1 (fun a => Own s1 φ1 a ∨ a ∈ [A]) A [] (upd H1 A (.lst [])) Hf1 s1 φ1 :=
    ⟨g1.updH hA, .t (.lst upd_same .nil) fun x hx => by rw [List.mem_singleton] at hx; subst hx; exact ⟨g1.hf_none hA, g1.own_ne hA⟩, Stp.refl⟩
  let Inv1 : Nat → Hp → Prop := fun i Hc => ∃ das rest' Hfc sc φc, At w σ (upd H1 A (.lst [])) Hf1 (fun a => Own s1 φ1 a ∨ a ∈ [A]) A das Hc Hfc sc φc ∧ compD (gT gs) c f vs (ds.drop i) sc = .ok (rest', s') ∧ das ++ rest' = rest
  refine ⟨fun i m Hc => m = ds.length - i ∧ i ≤ ds.length ∧ Inv1 i Hc, ⟨ds.length, by simp, Nat.zero_le _, [], rest, Hf1, s1, φ1, at0, e, rfl⟩, ?_⟩
  rintro i m Hc ⟨rfl, hi, das, rest', Hfc, sc, φc, ac, ec, er⟩
  by_cases hlt : i < ds.length
  · rw [drop_at hlt] at ec
    refine .inr ⟨wk.goes i Hc Hfc ac.k.sub ac.g.sub hlt, fun H' => Inv1 (i + 1) H', fun H' n => ⟨ds.length - (i + 1), by omega, rfl, hlt, n⟩, fun x H' y => ?_⟩
    have hz2 : das.length + rest'.length ≤ 16000000 := by rw [← er, List.length_append] at hz; exact hz
    obtain ⟨p, us, es, rfl, hp, rfl, ed, rx⟩ := wk.yields i Hc Hfc x H' ds[i] ac.k.sub ac.g.sub (List.getElem?_eq_getElem hlt) y
    obtain ⟨gw, ow⟩ := ac.g.wipe (σ' := wipe σ vs) (vs := vs) (wipe_length _ _) fun i hi => wipe_out hi
    have key := fun σ2 => turn_lc (σ := σ) (σ2 := σ2) (das := das) (A := A) (H0 := upd H1 A (.lst [])) (Hf0 := Hf1) (P0 := fun a => Own s1 φ1 a ∨ a ∈ [A]) (Nx := fun H' => Inv1 (i + 1) H') (w := w) ec hz2 fun das' rest'' H3 Hf3 s3 φ3 a3 e3 er3 => ⟨das', rest'', Hf3, s3, φ3, a3, e3, er3.trans er⟩
    obtain ⟨s2, h2, _⟩ := key σ
    have h2e := h2
    rw [ed] at h2e
    refine ⟨p, us, Hfc, _, φc, es, s2, rfl, .inl (.inl upd_same), gw.updH hp, rx, h2e, fun σ2 φ2 g2 o2 l2 n2 => ?_⟩
    have hw := wipe_eq l2 n2 ht
    refine ⟨hw, ?_⟩
    obtain ⟨s2', h2', h3⟩ := key σ2
    rw [h2] at h2'
    cases h2'
    exact h3 _ Hfc φ2 (ac.step g2 ((Stp.updH hp fun a => .inl).weak fun a z => ow a (o2 a z))) hw
  · have : i = ds.length := by omega
    subst this
    rw [List.drop_length] at ec
    cases ec
    rw [List.append_nil] at er
    subst er
    exact .inl ⟨wk.stops Hc Hfc ac.k.sub ac.g.sub, q _ Hc Hfc φc [A] ac.g ac.r (kA.trans ac.k (fun _ => id) fA)⟩

abbrev GC (w : Wd) (X : Cx) (ifs : List Expr) (c : Option BV) : Prop := PTs X ifs (tC w c)
theorem gc_no : GC w X [] none := pts_nil
theorem gc_if {e : Expr} {b : BV} (h : GB w X e b) : GC w X [e] (some b) := pts_one h
theorem tLc_1 {it : IV} {g : GV} {c : Option BV} {f : EV} {vs ts : List Nat} (ht : ∀ i ∈ ts, i ∈ vs) : tE w (kComp it g c f vs) σ H Q → tLc (tI w it) (tG w g ts) (tC w c) (tE w f) vs σ H Q := by
  rintro ⟨Hf, s, φ, l, s', gd, e, q⟩
  obtain ⟨⟨ds, s1⟩, h1, h2⟩ := R.bind_eq_ok.mp e
  obtain ⟨⟨rest, s2⟩, h3, h4⟩ := R.bind_eq_ok.mp h2
  simp only at h4
  split at h4
  · rename_i hz
    cases h4
    exact ⟨Hf, s, φ, ds, s1, gd, h1, fun J H1 Hf1 φ1 g1 k1 wk A hA => lc_1 g1 k1 hA wk ht h3 (szOk_le hz) q⟩
  · cases h4
theorem tLc_2 {it : IV} {K : PySem.W.Frag} {gs : List GV} {c : Option BV} {f : EV} {vs ts : List Nat} (ht : ∀ i ∈ ts, i ∈ vs) : tE w (kComp it (gT gs) c f vs) σ H Q → tLc (tI2 w it) (tG2 w K gs ts) (tC w c) (tE w f) vs σ H Q := by
  rintro ⟨Hf, s, φ, l, s', gd, e, q⟩
  obtain ⟨⟨ds, s1⟩, h1, h2⟩ := R.bind_eq_ok.mp e
  obtain ⟨⟨rest, s2⟩, h3, h4⟩ := R.bind_eq_ok.mp h2
  simp only at h4
  split at h4
  · rename_i hz
    cases h4
    exact ⟨Hf, s, φ, ds, s1, gd, h1, fun J H1 Hf1 φ1 g1 k1 wk A hA => lc_2 g1 k1 hA wk ht h3 (szOk_le hz) q⟩
  · cases h4
section
variable {elt tg iter : Expr} {ifs : List Expr} {scope : Scope} {fi : IV} {g : GV} {gs : List GV} {c0 : Option BV} {f : EV} {ts : List Nat}
/-- what the parts of a comprehension are told in -/
structure Blk (w : Wd) (k : Nat) (X Y : Cx) (scope : Scope) : Prop where
  c : Cok w k Y
  K : Y.K = X.K
theorem ge_lc (own : List (Str × Nat)) (c : Cok w k X) (hi : GI w X tg iter fi) (ok : blkC X.N X.env.scope scope own = true)
    (hg : ∀ (s : Shared) (H : Hp) (C : Addr) (cl : List (Str × Addr)) (fp : List Addr), GG w (X.blk s H scope (compEnvC scope cl C X.env) fp) tg g ts) (ht : ∀ (s : Shared) (H : Hp) (C : Addr) (cl : List (Str × Addr)) (fp : List Addr), GC w (X.blk s H scope (compEnvC scope cl C X.env) fp) ifs c0)
    (he : ∀ (s : Shared) (H : Hp) (C : Addr) (cl : List (Str × Addr)) (fp : List Addr), GE w (X.blk s H scope (compEnvC scope cl C X.env) fp) elt f) (hts : ∀ i ∈ ts, i ∈ own.map (·.2) := by decide) (hs : ∀ x, foldedSetIterable iter X.env x = pure x := by intro _; rfl) :
    GE w X (.ListComp elt [⟨tg, iter, ifs, 0⟩] scope pos) (kComp fi g c0 f (own.map (·.2))) := pe_imp (pe_lc c.calm c.nd hi (blkOk_by ok) hg ht he hs) fun _ _ _ => tLc_1 hts
theorem ge_lc2 (own : List (Str × Nat)) (c : Cok w k X) (hi : GI2 w X tg iter fi) (ok : blkC X.N X.env.scope scope own = true)
    (hg : ∀ (s : Shared) (H : Hp) (C : Addr) (cl : List (Str × Addr)) (fp : List Addr), GG2 w (X.blk s H scope (compEnvC scope cl C X.env) fp) tg gs ts) (ht : ∀ (s : Shared) (H : Hp) (C : Addr) (cl : List (Str × Addr)) (fp : List Addr), GC w (X.blk s H scope (compEnvC scope cl C X.env) fp) ifs c0)
    (he : ∀ (s : Shared) (H : Hp) (C : Addr) (cl : List (Str × Addr)) (fp : List Addr), GE w (X.blk s H scope (compEnvC scope cl C X.env) fp) elt f) (hts : ∀ i ∈ ts, i ∈ own.map (·.2) := by decide) (hs : ∀ x, foldedSetIterable iter X.env x = pure x := by intro _; rfl) :
    GE w X (.ListComp elt [⟨tg, iter, ifs, 0⟩] scope pos) (kComp fi (gT gs) c0 f (own.map (·.2))) := pe_imp (pe_lc c.calm c.nd hi (blkOk_by ok) hg ht he hs) fun _ _ _ => tLc_2 hts
/-- name = [..] on one line -/
theorem tS_set {io : List Nat} {i : Nat} {f : EV} {D0 : Ends} (hio : i ∉ io) : tS w io (sSet i f) D0 σ H → tAsg (tE w f) (gName i) D0 σ H := by
  rintro ⟨Hf, s, φ, fl, s', gd, e, q⟩
  obtain ⟨⟨l, s1⟩, h1, h2⟩ := R.bind_eq_ok.mp e
  obtain ⟨s2, h3, h4⟩ := R.bind_eq_ok.mp h2
  cases h4
  refine ⟨Hf, s, φ, l, s1, gd, h1, fun v H1 Hf1 φ1 F1 g1 r1 k1 => ?_⟩
  obtain ⟨φ2, g2, o2⟩ := r1.put g1 h3
  exact q _ H1 Hf1 φ2 g2 (k1.weak o2) (Kp.set hio)
theorem ps_setLcI {io : List Nat} {i : Nat} {y : Str} {py : Pos} {own : List (Str × Nat)} {spos : Pos} {wi : TI} {tg0 : TG} {tt : TT} (hio : i ∉ io) (hc : X.calm = true) (hN : X.N.Nodup) (hy : X.N[i]? = some y) (hyl : X.env.scope.names.lookup y = some .local)
    (hsw : swapsWith (.ListComp elt [⟨tg, iter, ifs, 0⟩] scope pos) (some (.Name y py)) spos.line X.env = pure true) (hi : PI X tg iter wi) (ok : BlkOk X.N X.env.scope scope own)
    (hg : ∀ (s : Shared) (H : Hp) (C : Addr) (cl : List (Str × Addr)) (fp : List Addr), PG (X.blk s H scope (compEnvC scope cl C X.env) fp) tg tg0) (ht : ∀ (s : Shared) (H : Hp) (C : Addr) (cl : List (Str × Addr)) (fp : List Addr), PTs (X.blk s H scope (compEnvC scope cl C X.env) fp) ifs tt)
    (he : ∀ (s : Shared) (H : Hp) (C : Addr) (cl : List (Str × Addr)) (fp : List Addr), GE w (X.blk s H scope (compEnvC scope cl C X.env) fp) elt f) (hs : ∀ x, foldedSetIterable iter X.env x = pure x) {kf : EV} (im : ∀ σ H Q, tE w kf σ H Q → tLc wi tg0 tt (tE w f) (own.map (·.2)) σ H Q) :
    GS w io X (.Assign [.Name y py] (.ListComp elt [⟨tg, iter, ifs, 0⟩] scope pos) spos) (sSet i kf) :=
  ps_imp (ps_setLc hc hN hy hyl hsw hi ok hg ht he hs) fun D0 σ H h => by
    have h1 := tS_set hio h
    exact im σ H _ h1
theorem gs_setLc {io : List Nat} (i : Nat) (own : List (Str × Nat)) {y : Str} {py : Pos} {spos : Pos} (c : Cok w k X) (hi : GI w X tg iter fi) (ok : blkC X.N X.env.scope scope own = true)
    (hg : ∀ (s : Shared) (H : Hp) (C : Addr) (cl : List (Str × Addr)) (fp : List Addr), GG w (X.blk s H scope (compEnvC scope cl C X.env) fp) tg g ts) (ht : ∀ (s : Shared) (H : Hp) (C : Addr) (cl : List (Str × Addr)) (fp : List Addr), GC w (X.blk s H scope (compEnvC scope cl C X.env) fp) ifs c0)
    (he : ∀ (s : Shared) (H : Hp) (C : Addr) (cl : List (Str × Addr)) (fp : List Addr), GE w (X.blk s H scope (compEnvC scope cl C X.env) fp) elt f) (hio : i ∉ io := by decide) (hy : X.N[i]? = some y := by rfl) (hyl : X.env.scope.names.lookup y = some .local := by rfl)
    (hsw : swapsWith (.ListComp elt [⟨tg, iter, ifs, 0⟩] scope pos) (some (.Name y py)) spos.line X.env = pure true := by rfl) (hts : ∀ i ∈ ts, i ∈ own.map (·.2) := by decide) (hs : ∀ x, foldedSetIterable iter X.env x = pure x := by intro _; rfl) :
    GS w io X (.Assign [.Name y py] (.ListComp elt [⟨tg, iter, ifs, 0⟩] scope pos) spos) (sSet i (kComp fi g c0 f (own.map (·.2)))) :=
  ps_setLcI hio c.calm c.nd hy hyl hsw hi (blkOk_by ok) hg ht he hs fun _ _ _ => tLc_1 hts
theorem gs_setLc2 {io : List Nat} (i : Nat) (own : List (Str × Nat)) {y : Str} {py : Pos} {spos : Pos} (c : Cok w k X) (hi : GI2 w X tg iter fi) (ok : blkC X.N X.env.scope scope own = true)
    (hg : ∀ (s : Shared) (H : Hp) (C : Addr) (cl : List (Str × Addr)) (fp : List Addr), GG2 w (X.blk s H scope (compEnvC scope cl C X.env) fp) tg gs ts) (ht : ∀ (s : Shared) (H : Hp) (C : Addr) (cl : List (Str × Addr)) (fp : List Addr), GC w (X.blk s H scope (compEnvC scope cl C X.env) fp) ifs c0)
    (he : ∀ (s : Shared) (H : Hp) (C : Addr) (cl : List (Str × Addr)) (fp : List Addr), GE w (X.blk s H scope (compEnvC scope cl C X.env) fp) elt f) (hio : i ∉ io := by decide) (hy : X.N[i]? = some y := by rfl) (hyl : X.env.scope.names.lookup y = some .local := by rfl)
    (hsw : swapsWith (.ListComp elt [⟨tg, iter, ifs, 0⟩] scope pos) (some (.Name y py)) spos.line X.env = pure true := by rfl) (hts : ∀ i ∈ ts, i ∈ own.map (·.2) := by decide) (hs : ∀ x, foldedSetIterable iter X.env x = pure x := by intro _; rfl) :
    GS w io X (.Assign [.Name y py] (.ListComp elt [⟨tg, iter, ifs, 0⟩] scope pos) spos) (sSet i (kComp fi (gT gs) c0 f (own.map (·.2)))) :=
  ps_setLcI hio c.calm c.nd hy hyl hsw hi (blkOk_by ok) hg ht he hs fun _ _ _ => tLc_2 hts
end
end
end KV

set_option Elab.async false
set_option linter.all false
set_option maxRecDepth 100000
set_option maxHeartbeats 2000000
/-! KVM: calls of defs of the text. -/
namespace KV
open PySem L2
open PySem.Spec PyProof.Rows

/-- a slot that is lent -/
def cMv (i : Nat) (g : CV) : CV := fun s => match s[i]? with
  | some (some _) => (g s).bind fun q => .ok (.io i :: q.1, q.2)
  | _ => .no
def isIo : AR → Bool
  | .io _ => true
  | _ => false
/-- the places of what is lent -/
def ioAt : Nat → List Bool → List Nat
  | _, [] => []
  | n, true :: r => n :: ioAt (n + 1) r
  | n, false :: r => ioAt (n + 1) r

section
variable {w : Wd} {k : Nat} {X : Cx} {pos : Pos} {σ : L2.St} {H Hf : Hp} {s s' : Sl} {φ : Nat → List Addr} {Q : VK} {io : List Nat}

inductive RA1 (w : Wd) (σ : L2.St) (Hf H : Hp) : V → AR → Prop
  | v {v : V} {d : D} : Rp w.K Hf v d → RA1 w σ Hf H v (.v d)
  | io {v : V} {i : Nat} : σ[i]? = some (some v) → RA1 w σ Hf H v (.io i)
  | f {v : V} {t : T} : OR w Hf H v t [] → RA1 w σ Hf H v (.f t)
inductive RAs (w : Wd) (σ : L2.St) (Hf H : Hp) : List V → List AR → Prop
  | nil : RAs w σ Hf H [] []
  | cons {v : V} {a : AR} {vs : List V} {as : List AR} : RA1 w σ Hf H v a → RAs w σ Hf H vs as → RAs w σ Hf H (v :: vs) (a :: as)
theorem RA1.mono {v : V} {a : AR} {H1 Hf1 : Hp} (r : RA1 w σ Hf H v a) (s : Sub Hf Hf1) : RA1 w σ Hf1 H1 v a := by
  cases r with
  | v r => exact .v (r.mono s)
  | io e => exact .io e
  | f r => exact .f (r.stay s fun a h => nomatch h)
theorem RAs.length : ∀ {vs : List V} {as : List AR}, RAs w σ Hf H vs as → vs.length = as.length
  | _, _, .nil => rfl
  | _, _, .cons _ r => by simp [RAs.length r]
def tR (w : Wd) (g : CV) (p : List Bool) : TA := fun σ H Q => ∃ Hf s φ as s', Good w σ H Hf s φ ∧ g s = .ok (as, s') ∧
  ∀ vs H' Hf' φ', Good w σ H' Hf' s' φ' → RAs w σ Hf' H' vs as → as.map isIo = p → Stp H Hf (Own s φ) H' Hf' (Own s' φ') → Q vs H'
abbrev GR (w : Wd) (X : Cx) (es : List Expr) (g : CV) (p : List Bool) : Prop := PA X es (tR w g p)
theorem gr_nil : GR w X [] cNil [] := pa_imp pa_nil fun σ H Q => by
  rintro ⟨Hf, s, φ, as, s', g, e, q⟩
  cases e
  exact q [] H Hf φ g .nil rfl Stp.refl
theorem gr_v {e : Expr} {es : List Expr} {f : EV} {g : CV} {p : List Bool} (he : GE w X e f) (hr : GR w X es g p) (hs : starEach (e :: es) X.env = (false, eval e X.env) :: starEach es X.env := by rfl) : GR w X (e :: es) (cV f g) (false :: p) := by
  refine pa_imp (pa_cons he hr hs) fun σ H Q => ?_
  rintro ⟨Hf, s, φ, as, s', gd, e, q⟩
  obtain ⟨⟨d, s1⟩, h1, h2⟩ := R.bind_eq_ok.mp e
  obtain ⟨⟨as', s2⟩, h3, h4⟩ := R.bind_eq_ok.mp h2
  cases h4
  refine tE_D gd h1 fun v H1 Hf1 φ1 g1 r1 k1 => ⟨Hf1, s1, φ1, as', _, g1, h3, fun vs H2 Hf2 φ2 g2 r2 p2 k2 => ?_⟩
  exact q (v :: vs) H2 Hf2 φ2 g2 (.cons (.v (r1.mono k2.sub)) r2) (by rw [List.map_cons, p2]; rfl) (k1.trans k2 (fun _ => id) fun x hx => g1.own_free hx)
theorem gr_io (i : Nat) {x : Str} {px : Pos} {es : List Expr} {g : CV} {p : List Bool} (hr : GR w X es g p) (hN : X.N[i]? = some x := by rfl) (hv : Vis X.env.scope x := by first | exact Or.inl rfl | exact Or.inr (Or.inl rfl) | exact Or.inr (Or.inr rfl)) (hd : (x == ("__debug__" : Str)) = false := by decide) (hcd : (x == ("__classdict__" : Str)) = false := by decide)
    (hs : starEach (.Name x px :: es) X.env = (false, eval (.Name x px) X.env) :: starEach es X.env := by rfl) : GR w X (.Name x px :: es) (cMv i g) (true :: p) := by
  refine pa_imp (pa_cons (pv i hN hv hd hcd) hr hs) fun σ H Q => ?_
  rintro ⟨Hf, s, φ, as, s', gd, e, q⟩
  unfold cMv at e
  split at e
  · rename_i t ht
    obtain ⟨⟨as', s2⟩, h3, h4⟩ := R.bind_eq_ok.mp e
    cases h4
    obtain ⟨v, hv, _⟩ := gd.here i t ht
    exact ⟨v, hv, Hf, s, φ, as', _, gd, h3, fun vs H2 Hf2 φ2 g2 r2 p2 k2 => q (v :: vs) H2 Hf2 φ2 g2 (.cons (.io hv) r2) (by rw [List.map_cons, p2]; rfl) k2⟩
  · cases e

/-! ### what is lent -/
theorem Good.nilS : Sub Hf H → Good w [] H Hf [] φ := fun sub => ⟨sub, rfl, fun i t e => by simp at e, fun i t a e => by simp at e, fun i j t u a e => by simp at e⟩
/-- one slot more in front -/
theorem Good.cons {v : V} {t : T} {F : List Addr} (g : Good w σ H Hf s φ) (r : OR w Hf H v t F) (c : ∀ a ∈ F, Hf a = none ∧ ¬ Own s φ a) :
    Good w (some v :: σ) H Hf (some t :: s) (fun j => match j with | 0 => F | j + 1 => φ j) ∧ ∀ a, Own (some t :: s) (fun j => match j with | 0 => F | j + 1 => φ j) a → a ∈ F ∨ Own s φ a := by
  refine ⟨⟨g.sub, by rw [List.length_cons, List.length_cons, g.len], fun i u e => ?_, fun i u a e m => ?_, fun i j u u' a e1 e2 m1 m2 => ?_⟩, fun a ⟨i, u, e, m⟩ => ?_⟩
  · cases i with
    | zero => simp at e; subst e; exact ⟨v, rfl, r⟩
    | succ i => exact g.here i u (by simpa using e)
  · cases i with
    | zero => exact (c a m).1
    | succ i => exact g.fr i u a (by simpa using e) m
  · cases i with
    | zero =>
      cases j with
      | zero => rfl
      | succ j => exact ((c a m1).2 ⟨j, u', by simpa using e2, m2⟩).elim
    | succ i =>
      cases j with
      | zero => exact ((c a m2).2 ⟨i, u, by simpa using e1, m1⟩).elim
      | succ j => rw [g.dj i j u u' a (by simpa using e1) (by simpa using e2) m1 m2]
  · cases i with
    | zero => exact .inl m
    | succ i => exact .inr ⟨i, u, by simpa using e, m⟩
theorem lend_ok : ∀ {vs : List V} {as : List AR} {s s1 : Sl} {ts : List T}, RAs w σ Hf H vs as → Good w σ H Hf s φ → lend as s = .ok (ts, s1) →
    ∃ ψ, Good w (vs.map some) H Hf (ts.map some) ψ ∧ Good w σ H Hf s1 φ ∧ (∀ a, Own (ts.map some) ψ a → Own s φ a) ∧ (∀ a, Own s1 φ a → Own s φ a) ∧ ∀ a, Own (ts.map some) ψ a → ¬ Own s1 φ a
  | _, _, s, s1, ts, .nil, g, e => by
    cases e
    exact ⟨φ, Good.nilS g.sub, g, fun a ⟨i, t, e, _⟩ => by simp at e, fun _ => id, fun a ⟨i, t, e, _⟩ => by simp at e⟩
  | _, _, s, s1, ts, .cons (.v r) rr, g, e => by
    obtain ⟨⟨ts', s2⟩, h1, h2⟩ := R.bind_eq_ok.mp e
    cases h2
    obtain ⟨ψ, g1, g2, o1, o2, dj⟩ := lend_ok rr g h1
    obtain ⟨g3, o3⟩ := g1.cons (.val r) (F := []) fun a h => nomatch h
    exact ⟨_, g3, g2, fun a z => (o3 a z).elim (fun z => nomatch z) (o1 a), o2, fun a z => (o3 a z).elim (fun z => nomatch z) (dj a)⟩
  | _, _, s, s1, ts, .cons (.f r) rr, g, e => by
    obtain ⟨⟨ts', s2⟩, h1, h2⟩ := R.bind_eq_ok.mp e
    cases h2
    obtain ⟨ψ, g1, g2, o1, o2, dj⟩ := lend_ok rr g h1
    obtain ⟨g3, o3⟩ := g1.cons r (F := []) fun a h => nomatch h
    exact ⟨_, g3, g2, fun a z => (o3 a z).elim (fun z => nomatch z) (o1 a), o2, fun a z => (o3 a z).elim (fun z => nomatch z) (dj a)⟩
  | _, _, s, s1, ts, .cons (.io (i := i) hv) rr, g, e => by
    unfold lend at e
    split at e
    · cases e
    · rename_i t _ ht
      obtain ⟨⟨ts', s2⟩, h1, h2⟩ := R.bind_eq_ok.mp e
      cases h2
      obtain ⟨gc, oc⟩ := g.clr (i := i)
      obtain ⟨ψ, g1, g2, o1, o2, dj⟩ := lend_ok rr gc h1
      obtain ⟨v', e1, r⟩ := g.here i t ht
      rw [hv] at e1; cases e1
      have fresh : ∀ a ∈ φ i, ¬ Own (s.set i none) φ a := fun a ha ⟨j, u, q, m⟩ => (clr_at q).1 (g.dj j i u t a (clr_at q).2 ht m ha)
      obtain ⟨g3, o3⟩ := g1.cons r fun a ha => ⟨g.fr i t a ht ha, fun z => fresh a ha (o1 a z)⟩
      refine ⟨_, g3, g2, fun a z => (o3 a z).elim (fun z => ⟨i, t, ht, z⟩) (fun z => oc a (o1 a z)), fun a z => oc a (o2 a z), fun a z q => ?_⟩
      rcases o3 a z with z | z
      · exact fresh a z (o2 a q)
      · exact dj a z q
    · cases e
/-- what stands aside of a call stays -/
theorem Good.aside {H1 Hf1 : Hp} {P P1 : Addr → Prop} (g : Good w σ H Hf s φ) (k1 : Stp H Hf P H1 Hf1 P1) (sub : Sub Hf1 H1) (no : ∀ a, P a → ¬ Own s φ a) : Good w σ H1 Hf1 s φ ∧ ∀ a, P1 a → ¬ Own s φ a := by
  have key : ∀ a, (P1 a ∨ Hf1 a ≠ none) → ¬ Own s φ a := fun a z q => by
    rcases k1.new a z with z | z | z
    · exact no a z q
    · exact z (g.own_free q)
    · obtain ⟨o, e⟩ := g.own_some q
      rw [e] at z; cases z
  refine ⟨⟨sub, g.len, fun i t e => ?_, fun i t a e m => ?_, g.dj⟩, fun a z => key a (.inl z)⟩
  · obtain ⟨v, e1, r⟩ := g.here i t e
    exact ⟨v, e1, r.stay k1.sub fun a ha o q => k1.keep a o q fun z => no a z ⟨i, t, e, ha⟩⟩
  · cases q : Hf1 a with
    | none => rfl
    | some u => exact (key a (.inr (by rw [q]; simp)) ⟨i, t, e, m⟩).elim
theorem set_self {i : Nat} {v : V} {σ : L2.St} (h : σ[i]? = some (some v)) : σ.set i (some v) = σ := by
  apply List.ext_getElem?
  intro j
  by_cases e : i = j
  · subst e
    rw [List.getElem?_set_self (List.getElem?_eq_some_iff.mp h).1, h]
  · rw [List.getElem?_set_ne e]
/-- the values at the places of what is lent -/
def usOf : List V → List AR → List V
  | v :: vs, .io _ :: as => v :: usOf vs as
  | _ :: vs, _ :: as => usOf vs as
  | _, _ => []
theorem back_ok : ∀ {vs : List V} {as : List AR} {os : List T} {s s1 : Sl} {φ ψ : Nat → List Addr}, RAs w σ Hf H vs as → Good w σ H Hf s φ → Good w ((usOf vs as).map some) H Hf (os.map some) ψ → (∀ a, Own (os.map some) ψ a → ¬ Own s φ a) → back as os s = .ok s1 →
    ∃ φ', Good w σ H Hf s1 φ' ∧ ∀ a, Own s1 φ' a → Own s φ a ∨ Own (os.map some) ψ a
  | _, _, os, s, s1, φ, ψ, .nil, g, g2, dj, e => by
    cases os with
    | nil => cases e; exact ⟨φ, g, fun a => .inl⟩
    | cons _ _ => cases e
  | _, _, os, s, s1, φ, ψ, .cons (.v r) rr, g, g2, dj, e => by
    cases os with
    | nil => exact back_ok rr g g2 dj e
    | cons _ _ => exact back_ok rr g g2 dj e
  | _, _, os, s, s1, φ, ψ, .cons (.f r) rr, g, g2, dj, e => by
    cases os with
    | nil => exact back_ok rr g g2 dj e
    | cons _ _ => exact back_ok rr g g2 dj e
  | _, _, os, s, s1, φ, ψ, .cons (v := v) (vs := vs) (as := as) (.io (i := i) hv) rr, g, g2, dj, e => by
    cases os with
    | nil => cases e
    | cons t os =>
      obtain ⟨v', e1, r⟩ := g2.here 0 t rfl
      have ev : v' = v := by
        have e1 : (some (some v) : Option (Option V)) = some (some v') := e1
        cases e1; rfl
      subst ev
      obtain ⟨g3, o3⟩ := g.set (i := i) r fun a ha => ⟨g2.fr 0 t a rfl ha, fun j u _ q m => dj a ⟨0, t, rfl, ha⟩ ⟨j, u, q, m⟩⟩
      rw [set_self hv] at g3
      have g4 : Good w ((usOf vs as).map some) H Hf (os.map some) (fun j => ψ (j + 1)) :=
        ⟨g2.sub, by have := g2.len; simpa [usOf] using this, fun j u q => g2.here (j + 1) u (by simpa using q), fun j u a q m => g2.fr (j + 1) u a (by simpa using q) m, fun j l u u' a q1 q2 m1 m2 => by
          have := g2.dj (j + 1) (l + 1) u u' a (by simpa using q1) (by simpa using q2) m1 m2
          omega⟩
      have up : ∀ a, Own (os.map some) (fun j => ψ (j + 1)) a → Own ((t :: os).map some) ψ a := fun a ⟨j, u, q, m⟩ => ⟨j + 1, u, by simpa using q, m⟩
      obtain ⟨φ', g5, o5⟩ := back_ok rr g3 g4 (fun a z q => by
        rcases o3 a q with q | q
        · exact dj a (up a z) q
        · obtain ⟨j, u, q1, m⟩ := z
          have := g2.dj (j + 1) 0 u t a (by simpa using q1) rfl m q
          omega) e
      refine ⟨φ', g5, fun a z => ?_⟩
      rcases o5 a z with z | z
      · rcases o3 a z with z | z
        · exact .inl z
        · exact .inr ⟨0, t, rfl, z⟩
      · exact .inr (up a z)
end
end KV

set_option Elab.async false
set_option linter.all false
set_option maxRecDepth 100000
set_option maxHeartbeats 2000000
/-! KVN: defs of the text, called; the law's own call. -/
namespace KV
open PySem L2
open PySem.Spec PyProof.Rows

/-- like FnOk, where no repr is under way -/
structure FnG (P : Program) (w0 : World) (K : PySem.W.Frag) (mg : Str → Option Value) (base : Heap) (k : Nat) (f : Addr) (fd : FuncData) (ps : List Str) (sp : Sp) : Prop where
  len : ∀ vs H Q E, sp vs H Q E → vs.length = ps.length
  run : ∀ (A : Around) (outer : List Env) (s : Shared) (H : Hp) (args : Args) (us : List Value) (vs : List V) (Q : VK) (E : XK), Room k A → A.guards = some [] → Env0 P w0 K mg base A outer s H → BindsTo s fd args (ps.zip us) → Vals vs us → sp vs H Q E →
    codeAny (model P w0) A (.call (.ref f) args) (CR CX0 outer P w0 H s Q E) s
/-- its contexts -/
abbrev bodyCx (P : Program) (w0 : World) (K : PySem.W.Frag) (mg : Str → Option Value) (base : Heap) (N : List Str) (x : Str) (st : Stmt) (f : Addr) (cdv : Value) (A : Around) (outer : List Env) (s : Shared) (H : Hp) (E : XK) : Cx :=
  (cxOf CX0 P w0 K mg base N x (defScope st) f cdv A outer s H E).nox
theorem fnG_of {P : Program} {w0 : World} {K : PySem.W.Frag} {mg : Str → Option Value} {base : Heap} {k : Nat} {f : Addr} {x : Str} {st : Stmt} {fd : FuncData} {N ps : List Str} {sp : Sp} (F : L2.Fun K x x st f fd) (S : FnScope N ps (defScope st)) (len : ∀ vs H Q E, sp vs H Q E → vs.length = ps.length)
    (hbody : ∀ (cdv : Value) (A : Around) (outer : List Env) (s : Shared) (H : Hp) (vs : List V) (Q : VK) (E : XK), Room k (A.deeper (envOfC x (defScope st) s.heap.objs.size f cdv)) → A.guards = some [] → sp vs H Q E →
      ∃ t, PSs (bodyCx P w0 K mg base N x st f cdv A outer s H E) (defBody st) t ∧ t { nx := fun _ H' => Q .non H', rt := Q } (start N vs) H) : FnG P w0 K mg base (k + 1) f fd ps sp := by
  obtain ⟨oc, od, kV, doc, pm, an, cdv, ct, osl, rfl, lk, hcd⟩ := F.ex
  refine ⟨len, fun A outer s H args us vs Q E room gd env0 bound vals want => ?_⟩
  have nArgs := len _ _ _ _ want
  have kin : K.In s.heap := env0.mod.kin.keeps fun b o e => (env0.bs b o e).1
  have noLim : s.heap.NoLimit := env0.mod.nolimit.keeps fun b o e => (env0.bs b o e).1
  have kinds : ∀ y ∈ ps.zip us, (defScope st).names.lookup y.1 = some .local ∨ ((defScope st).names.lookup y.1 = some .cell ∧ ((cellsFrom (s.heap.objs.size + 1) (defScope st).names []).lookup y.1).isSome = true) := fun y hy => by
    rcases S.par y.1 (List.of_mem_zip (show (y.1, y.2) ∈ ps.zip us from hy)).1 with z | z
    · exact .inl z
    · exact .inr ⟨z, PySem.W.cellsFrom_some _ _ _ (.inl z)⟩
  refine codeAny_call_function room.depth (kin _ _ lk) rfl S.co S.gen rfl (PySem.W.codeRec_of kin hcd) (bound _ _ _ _ ?_)
  refine wpAny_newFunctionEnv_cells S.kind kinds fun env ee s1 inC => ?_
  subst ee
  refine ⟨noLim.keeps inC.toInCall.keep, codeAny_func ?_⟩
  obtain ⟨t, tb, tq⟩ := hbody cdv A outer s H vs Q E (room.deeper _) gd want
  have inv0 : Inv (cxOf CX0 P w0 K mg base N x (defScope st) f cdv A outer s H E) [] (start N vs) H s1 := inv_start S room.hd env0 nArgs vals inC
  refine wpAny_mono (tb.nox.run [] s1 (start N vs) H _ inv0 tq) (fun fl s' hs => ?_) fun e s' hs => hs
  cases fl with
  | ret u =>
    obtain ⟨v, σ', H', J, rv, q⟩ := hs
    exact ⟨v, H', J.os, J.bare, J.base, J.hok, rv, q⟩
  | next =>
    obtain ⟨σ', H', J, q⟩ := hs
    exact ⟨V.non, H', J.os, J.bare, J.base, J.hok, rfl, q⟩
  | brk => exact hs.elim fun _ h => h.elim fun _ h => False.elim h.2
  | cont => exact hs.elim fun _ h => h.elim fun _ h => False.elim h.2

/-- a def of the module that may be called -/
structure CalG (P : Program) (w0 : World) (K : PySem.W.Frag) (mg : Str → Option Value) (base : Heap) (k : Nat) (x : Str) (sp : Sp) : Prop where
  ex : ∃ (f : Addr) (fd : FuncData) (ps : List Str), FnG P w0 K mg base k f fd ps sp ∧ mg x = some (.ref f) ∧ PySem.W.keepIn K (.ref f) = true ∧ Binds K fd ps []

section
variable {w : Wd} {k : Nat} {X : Cx} {pos : Pos} {σ : L2.St} {H Hf : Hp} {s s' : Sl} {φ : Nat → List Addr} {Q : VK} {io : List Nat}
theorem run_G {j : Nat} {f : Addr} {fd : FuncData} {ps : List Str} {sp : Sp} {pins : List (Addr × Obj)} {sh : Shared} {us : List Value} {vs : List V} {E : XK} (c : Cok w k X) (hk : j ≤ k) (F : FnG X.prog X.w X.K X.mg X.base j f fd ps sp) (hb : Binds X.K fd ps [])
    (I : Inv X pins σ H sh) (r : Vals vs us) (h : sp vs H Q E) : wpAny (model X.prog X.w) X.A (call (.ref f) us) (EP X pins σ Q) X.xe sh := by
  have hl : (us ++ []).length = ps.length := by rw [List.append_nil, ← r.length]; exact F.len _ _ _ _ h
  have bd := hb sh us I.kIn hl
  rw [List.append_nil] at bd
  refine wpAny_call (codeAny_mono (F.run X.A X.stack sh H ⟨us, []⟩ us vs Q E (c.room.mono hk) c.gd I.env0 bd r h) fun res s' hq => ?_)
  cases res with
  | error e => exact False.elim hq
  | ok fl =>
    cases fl with
    | ret u => exact I.after hq
    | next => exact False.elim hq
    | brk => exact False.elim hq
    | cont => exact False.elim hq
theorem pe_G {j : Nat} {x : Str} {sp : Sp} {p : Pos} {e : Expr} {es : List Expr} {t : TA} {E : XK} (c : Cok w k X) (C : CalG X.prog X.w X.K X.mg X.base j x sp) (hk : j ≤ k) (hg : Gl X x) (ha : PA X (e :: es) t) (hdb : (x == ("__debug__" : Str)) = false)
    (he : starEach (e :: es) X.env = (false, eval e X.env) :: starEach es X.env) (hpl : (backTo pos (starEach es X.env)).any (·.1) = false) : PE X (.Call (.Name x p) (e :: es) [] pos) (fun σ H Q => t σ H fun vs H1 => sp vs H1 Q E) := by
  obtain ⟨f, fd, ps, F, hm, kp, hb⟩ := C.ex
  refine ⟨fun pins s σ H Q I h => ?_⟩
  refine wpAny_Call_Name_kw (ld_glob I hg hm ?_ hdb)
  exact PySem.W.callWith_K (h₀ := X.base) I.ok.mod.kin kp (thn (ha.run pos pins s σ H _ I h) fun us s1 ⟨vs, H1, I1, r, q⟩ => ⟨I1.kIn, run_G c hk F hb I1 r q⟩) he hpl
theorem pe_G0 {j : Nat} {x : Str} {sp : Sp} {p : Pos} {E : XK} (c : Cok w k X) (C : CalG X.prog X.w X.K X.mg X.base j x sp) (hk : j ≤ k) (hg : Gl X x) (hdb : (x == ("__debug__" : Str)) = false) : PE X (.Call (.Name x p) [] [] pos) (fun σ H Q => sp [] H Q E) := by
  obtain ⟨f, fd, ps, F, hm, kp, hb⟩ := C.ex
  refine ⟨fun pins s σ H Q I h => ?_⟩
  refine wpAny_Call_Name_kw (ld_glob I hg hm ?_ hdb)
  exact PySem.W.callWith_K0 I.kIn kp (run_G (us := []) c hk F hb I .nil h)

/-! ### what a denotation promises -/
def spD (w : Wd) (np : Nat) (d : Def) : Sp := fun vs H Q _ => ∃ Hf ts φ t os, vs.length = np ∧ Good w (vs.map some) H Hf (ts.map some) φ ∧ d.run ts = .ok (t, os) ∧
  ∀ v H' Hf' ψ F, Good w ((d.io.filterMap fun i => vs[i]?).map some) H' Hf' (os.map some) ψ → OR w Hf' H' v t F → (∀ a ∈ F, Hf' a = none ∧ ¬ Own (os.map some) ψ a) →
    Stp H Hf (Own (ts.map some) φ) H' Hf' (fun a => Own (os.map some) ψ a ∨ a ∈ F) → Q v H'
theorem at_pad {xs : List (Option T)} {n i : Nat} {t : T} (h : (xs ++ List.replicate n none)[i]? = some (some t)) : xs[i]? = some (some t) := by
  by_cases hi : i < xs.length
  · rw [List.getElem?_append_left hi] at h; exact h
  · rw [List.getElem?_append_right (by omega), List.getElem?_replicate] at h
    split at h <;> cases h
theorem Good.pad {n : Nat} (g : Good w σ H Hf s φ) : Good w (σ ++ List.replicate n none) H Hf (s ++ List.replicate n none) φ ∧ ∀ a, Own (s ++ List.replicate n none) φ a ↔ Own s φ a := by
  refine ⟨⟨g.sub, by simp [g.len], fun i t e => ?_, fun i t a e m => g.fr i t a (at_pad e) m, fun i j t u a e1 e2 m1 m2 => g.dj i j t u a (at_pad e1) (at_pad e2) m1 m2⟩, fun a => ⟨fun ⟨i, t, e, m⟩ => ⟨i, t, at_pad e, m⟩, fun ⟨i, t, e, m⟩ => ⟨i, t, ?_, m⟩⟩⟩
  · have e1 := at_pad e
    obtain ⟨v, h1, h2⟩ := g.here i t e1
    exact ⟨v, by rw [List.getElem?_append_left (List.getElem?_eq_some_iff.mp h1).1]; exact h1, h2⟩
  · rw [List.getElem?_append_left (List.getElem?_eq_some_iff.mp e).1]; exact e
theorem outs_ok {vs : List V} : ∀ {io : List Nat} {os : List T}, Good w σ H Hf s φ → outs io s = .ok os → io.Nodup → (∀ i ∈ io, ∃ v, vs[i]? = some v ∧ σ[i]? = some (some v)) →
    ∃ ψ, Good w ((io.filterMap fun i => vs[i]?).map some) H Hf (os.map some) ψ ∧ ∀ a, Own (os.map some) ψ a → ∃ i ∈ io, ∃ t, s[i]? = some (some t) ∧ a ∈ φ i
  | [], os, g, e, _, _ => by
    cases e
    exact ⟨φ, Good.nilS g.sub, fun a ⟨i, t, e, _⟩ => by simp at e⟩
  | i :: io, os, g, e, nd, hv => by
    unfold outs at e
    split at e
    · rename_i t ht
      obtain ⟨os', h1, h2⟩ := R.bind_eq_ok.mp e
      cases h2
      obtain ⟨ψ, g1, o1⟩ := outs_ok (io := io) g h1 (List.nodup_cons.mp nd).2 fun j hj => hv j (List.mem_cons_of_mem _ hj)
      obtain ⟨v, hv1, hv2⟩ := hv i (List.mem_cons_self ..)
      obtain ⟨v', e1, r⟩ := g.here i t ht
      rw [hv2] at e1; cases e1
      obtain ⟨g2, o2⟩ := g1.cons r fun a ha => ⟨g.fr i t a ht ha, fun z => by
        obtain ⟨j, hj, u, q, m⟩ := o1 a z
        have := g.dj j i u t a q ht m ha
        subst this
        exact (List.nodup_cons.mp nd).1 hj⟩
      refine ⟨_, by rw [List.filterMap_cons_some hv1]; exact g2, fun a z => ?_⟩
      rcases o2 a z with z | z
      · exact ⟨i, List.mem_cons_self .., t, ht, z⟩
      · obtain ⟨j, hj, q⟩ := o1 a z
        exact ⟨j, List.mem_cons_of_mem _ hj, q⟩
    · cases e
/-- a def by its denotation -/
theorem fnD_of {P : Program} {w0 : World} {K : PySem.W.Frag} {mg : Str → Option Value} {base : Heap} {f : Addr} {x : Str} {st : Stmt} {fd : FuncData} {N ps : List Str} {d : Def} (F : L2.Fun K x x st f fd) (S : FnScope N ps (defScope st)) (hn : d.n = N.length) (hnd : d.io.Nodup) (hio : ∀ i ∈ d.io, i < ps.length)
    (hb : ∀ (cdv : Value) (A : Around) (outer : List Env) (s : Shared) (H : Hp) (E : XK), Room k (A.deeper (envOfC x (defScope st) s.heap.objs.size f cdv)) → A.guards = some [] → GSs w d.io (bodyCx P w0 K mg base N x st f cdv A outer s H E) (defBody st) d.body) : FnG P w0 K mg base (k + 1) f fd ps (spD w ps.length d) := by
  refine fnG_of F S (fun vs H Q E h => ?_) fun cdv A outer s0 H vs Q E room gd h => ⟨_, hb cdv A outer s0 H E room gd, ?_⟩
  · obtain ⟨_, _, _, _, _, hl, _⟩ := h
    exact hl
  · obtain ⟨Hf, ts, φ, t, os, hl, g, hr, q⟩ := h
    have hlt : ts.length = vs.length := by have := g.len; simpa using this
    obtain ⟨⟨fl, s1⟩, h1, h2⟩ := R.bind_eq_ok.mp hr
    obtain ⟨t', h3, h4⟩ := R.bind_eq_ok.mp h2
    obtain ⟨os', h5, h6⟩ := R.bind_eq_ok.mp h4
    cases h6
    obtain ⟨g0, o0⟩ := g.pad (n := N.length - vs.length)
    rw [hn, hlt] at h1
    refine ⟨Hf, _, φ, fl, s1, g0, h1, ?_⟩
    have fin : ∀ v σ' H' Hf' φ' F1, Good w σ' H' Hf' s1 φ' → OR w Hf' H' v t F1 → (∀ a ∈ F1, Hf' a = none ∧ ¬ Own s1 φ' a) → Stp H Hf (Own (ts.map some ++ List.replicate (N.length - vs.length) none) φ) H' Hf' (fun a => Own s1 φ' a ∨ a ∈ F1) → Kp d.io (start N vs) σ' → Q v H' := by
      intro v σ' H' Hf' φ' F1 g1 r1 c1 k1 kp
      obtain ⟨ψ, g2, o2⟩ := outs_ok (vs := vs) g1 h5 hnd fun i hi => by
        have hlt2 : i < vs.length := by rw [hl]; exact hio i hi
        refine ⟨vs[i], List.getElem?_eq_getElem hlt2, ?_⟩
        rw [kp i hi]
        unfold L2.start
        rw [List.getElem?_append_left (by simpa using hlt2), List.getElem?_map, List.getElem?_eq_getElem hlt2]
        rfl
      have up : ∀ a, Own (os.map some) ψ a → Own s1 φ' a := fun a z => by
        obtain ⟨i, _, t, e, m⟩ := o2 a z
        exact ⟨i, t, e, m⟩
      refine q v H' Hf' ψ F1 g2 r1 (fun a ha => ⟨(c1 a ha).1, fun z => (c1 a ha).2 (up a z)⟩) ⟨k1.sub, fun a o e n => k1.keep a o e fun z => n ((o0 a).mp z), fun a z => ?_⟩
      have := k1.new a (z.imp (fun z => z.imp (up a) id) id)
      rcases this with z | z | z
      · exact .inl ((o0 a).mp z)
      · exact .inr (.inl z)
      · exact .inr (.inr z)
    cases fl with
    | nx =>
      cases h3
      exact fun σ' H' Hf' φ' g1 k1 kp => fin .non σ' H' Hf' φ' [] g1 (.val .non) (fun a h => nomatch h) (k1.weak fun a z => z.elim id fun z => nomatch z) kp
    | rt t2 =>
      cases h3
      exact fun v σ' H' Hf' φ' F1 g1 r1 c1 k1 kp => fin v σ' H' Hf' φ' F1 g1 r1 c1 k1 kp
    | bk => cases h3
    | ct => cases h3
theorem usOf_eq : ∀ {as : List AR} {vs vs0 : List V} {n : Nat}, vs.length = as.length → (∀ i, vs[i]? = vs0[n + i]?) → usOf vs as = (ioAt n (as.map isIo)).filterMap fun i => vs0[i]?
  | [], [], vs0, n, _, _ => rfl
  | a :: as, v :: vs, vs0, n, hl, h => by
    have ih := usOf_eq (as := as) (vs := vs) (vs0 := vs0) (n := n + 1) (by simpa using hl) fun i => by
      have := h (i + 1)
      rw [List.getElem?_cons_succ] at this
      rw [this]; congr 1; omega
    cases a with
    | io i =>
      have h0 : vs0[n]? = some v := by have := h 0; simpa using this.symm
      show v :: usOf vs as = (n :: ioAt (n + 1) (as.map isIo)).filterMap _
      rw [List.filterMap_cons_some h0, ih]
    | v d => exact ih
    | f t => exact ih
/-- a call -/
theorem tR_call {np : Nat} {d : Def} {g : CV} {p : List Bool} {E : XK} (hp : ioAt 0 p = d.io) (hnp : p.length = np) : tE w (kCall d.run g) σ H Q → tR w g p σ H fun vs H1 => spD w np d vs H1 Q E := by
  rintro ⟨Hf, s, φ, l, s', gd, e, q⟩
  obtain ⟨⟨as, s1⟩, h1, h2⟩ := R.bind_eq_ok.mp e
  obtain ⟨⟨ts, s2⟩, h3, h4⟩ := R.bind_eq_ok.mp h2
  obtain ⟨⟨t, os⟩, h5, h6⟩ := R.bind_eq_ok.mp h4
  obtain ⟨s3, h7, h8⟩ := R.bind_eq_ok.mp h6
  cases h8
  refine ⟨Hf, s, φ, as, s1, gd, h1, fun vs H1 Hf1 φ1 g1 r1 p1 k1 => ?_⟩
  obtain ⟨ψ, ga, g2, o1, o2, dj⟩ := lend_ok r1 g1 h3
  have hlen := r1.length
  refine ⟨Hf1, ts, ψ, t, os, by rw [hlen, ← hnp, ← p1, List.length_map], ga, h5, fun v H2 Hf2 ψ2 F gb r2 c2 k2 => ?_⟩
  obtain ⟨g3, n3⟩ := g2.aside k2 gb.sub dj
  have eu : usOf vs as = d.io.filterMap fun i => vs[i]? := by
    rw [usOf_eq (n := 0) hlen fun i => by rw [Nat.zero_add], p1, hp]
  rw [← eu] at gb
  have r1' : RAs w σ Hf2 H2 vs as := by
    have : ∀ {vs : List V} {as : List AR}, RAs w σ Hf1 H1 vs as → RAs w σ Hf2 H2 vs as := fun r => by
      induction r with
      | nil => exact .nil
      | cons a _ ih => exact .cons (a.mono k2.sub) ih
    exact this r1
  obtain ⟨φ3, g4, o4⟩ := back_ok r1' g3 gb (fun a z => n3 a (.inl z)) h7
  have nF : ∀ a ∈ F, Hf2 a = none ∧ ¬ Own s' φ3 a := fun a ha => ⟨(c2 a ha).1, fun z => (o4 a z).elim (n3 a (.inr ha)) (c2 a ha).2⟩
  have step : Stp H1 Hf1 (Own s1 φ1) H2 Hf2 (fun a => Own s' φ3 a ∨ a ∈ F) := by
    refine ⟨k2.sub, fun a o e n => k2.keep a o e fun z => n (o1 a z), fun a z => ?_⟩
    have lift : Own (ts.map some) ψ a ∨ Hf1 a ≠ none ∨ H1 a = none → Own s1 φ1 a ∨ Hf1 a ≠ none ∨ H1 a = none := fun z => z.imp (o1 a) id
    rcases z with (z | z) | z
    · rcases o4 a z with z | z
      · exact .inl (o2 a z)
      · exact lift (k2.new a (.inl (.inl z)))
    · exact lift (k2.new a (.inl (.inr z)))
    · exact lift (k2.new a (.inr z))
  have tot := k1.trans step (fun _ => id) fun x hx => g1.own_free hx
  cases t with
  | val x =>
    cases r2 with
    | val r2 => exact q v H2 Hf2 φ3 [] g4 (.d r2) (tot.weak fun a z => z)
  | lst x => exact q v H2 Hf2 φ3 F g4 (.t r2 nF) tot
  | dct x => exact q v H2 Hf2 φ3 F g4 (.t r2 nF) tot
  | src x => exact q v H2 Hf2 φ3 F g4 (.t r2 nF) tot
  | clo n x => exact q v H2 Hf2 φ3 F g4 (.t r2 nF) tot
  | scr x => exact q v H2 Hf2 φ3 F g4 (.t r2 nF) tot
  | tab x => exact q v H2 Hf2 φ3 F g4 (.t r2 nF) tot
theorem ge_call {j np : Nat} {x : Str} {d : Def} {px : Pos} {e : Expr} {es : List Expr} {g : CV} {p : List Bool} (c : Cok w k X) (C : CalG X.prog X.w X.K X.mg X.base j x (spD w np d)) (ha : GR w X (e :: es) g p) (hk : j ≤ k := by decide) (hp : ioAt 0 p = d.io := by rfl) (hnp : p.length = np := by rfl) (hg : Gl X x := by rfl)
    (hdb : (x == ("__debug__" : Str)) = false := by decide) (he : starEach (e :: es) X.env = (false, eval e X.env) :: starEach es X.env := by rfl) (hpl : (backTo pos (starEach es X.env)).any (·.1) = false := by rfl) : GE w X (.Call (.Name x px) (e :: es) [] pos) (kCall d.run g) :=
  pe_imp (pe_G (E := E0) c C hk hg ha hdb he hpl) fun _ _ _ => tR_call hp hnp
theorem ge_call0 {j : Nat} {x : Str} {d : Def} {px : Pos} (c : Cok w k X) (C : CalG X.prog X.w X.K X.mg X.base j x (spD w 0 d)) (hk : j ≤ k := by decide) (hp : ioAt 0 [] = d.io := by rfl) (hg : Gl X x := by rfl)
    (hdb : (x == ("__debug__" : Str)) = false := by decide) : GE w X (.Call (.Name x px) [] [] pos) (kCall d.run cNil) :=
  pe_imp (pe_G0 (E := E0) c C hk hg hdb) fun σ H Q h => by
    obtain ⟨Hf, s, φ, as, s', gd, e, q⟩ := tR_call (E := E0) (np := 0) hp rfl h
    cases e
    exact q [] H Hf φ gd .nil rfl Stp.refl
end
end KV

set_option Elab.async false
set_option linter.all false
set_option maxRecDepth 100000
set_option maxHeartbeats 4000000
/-! KVO: repetition. -/
namespace KV
open PySem L2
open PySem.Spec PyProof.Rows
theorem tup_mulS (l : Addr) (items : Array Value) (n : Nat) (dd : Option Addr) (sl : Array (Option Value)) (x : Int) (u : Tok) (c0 : (decide (x < -(2 ^ 63)) || decide (x ≥ 2 ^ 63)) = false) (c1 : (items.isEmpty || x == 1) = true) :
    Meets (Builtin.«tuple.__mul__» ⟨[.ref l, .int x u], []⟩) (fun _ R s => s.heap.get? l = some { cls := .type "tuple", dict := dd, data := .seq items n, slots := sl } ∧ R (.ok (.ret (Value.ref l))) s) :=
  .of_wp fun prog w A R s h => by
    obtain ⟨hp, g, d, tk, os⟩ := s
    obtain ⟨hl, h⟩ := h
    have f1 := AutoSeq1.idx_int
    wp_walk using AutoSeq1.wpAny_loadPart' hl
    repeat (first
      | (refine wpAny_ite_false (decide_eq_false (by rw [c0]; exact Bool.false_ne_true)) ?_; wp_walk using AutoSeq1.wpAny_loadPart' hl)
      | (refine wpAny_ite_true (decide_eq_true c1) ?_; wp_walk using AutoSeq1.wpAny_loadPart' hl))
    exact ⟨_, rfl, h⟩
theorem tup_mul0 (l : Addr) (items : Array Value) (n : Nat) (dd : Option Addr) (sl : Array (Option Value)) (x : Int) (u : Tok) (c0 : (decide (x < -(2 ^ 63)) || decide (x ≥ 2 ^ 63)) = false) (c1 : (items.isEmpty || x == 1) = false) (c2 : (decide (x ≤ 0) || items.isEmpty) = true) :
    Meets (Builtin.«tuple.__mul__» ⟨[.ref l, .int x u], []⟩) (fun _ R s => s.heap.get? l = some { cls := .type "tuple", dict := dd, data := .seq items n, slots := sl } ∧
      R (.ok (.ret (Value.ref s.heap.objs.size))) { s with heap := s.heap.push { cls := Value.type "tuple", data := Data.seq #[] }, toks := s.toks }) :=
  .of_wp fun prog w A R s h => by
    obtain ⟨hp, g, d, tk, os⟩ := s
    obtain ⟨hl, h⟩ := h
    have f1 := AutoSeq1.idx_int
    wp_walk using AutoSeq1.wpAny_loadPart' hl
    repeat (first
      | (refine wpAny_ite_false (decide_eq_false (by rw [c0]; exact Bool.false_ne_true)) ?_; wp_walk using AutoSeq1.wpAny_loadPart' hl)
      | (refine wpAny_ite_false (decide_eq_false (by rw [c1]; exact Bool.false_ne_true)) ?_; wp_walk using AutoSeq1.wpAny_loadPart' hl)
      | (refine wpAny_ite_true (decide_eq_true c2) ?_; wp_walk using AutoSeq1.wpAny_loadPart' hl))
    exact ⟨_, rfl, h⟩
def rRepF (K : PySem.W.Frag) : R2 := fun x y H Q => ∃ l k xs, x = .ref l ∧ y = .int k ∧ STup K H l xs ∧ 0 ≤ k ∧ k ≤ 1000 ∧ xs.length ≤ 1000 ∧ (xs = [] ∨ k = 1 → Q (.ref l) H) ∧
  (¬ (xs = [] ∨ k = 1) → ∀ p, H p = none → ∀ o : Obj, o.dict = none → Q (.ref p) (upd H p (.frz o (.tup (List.replicate k.toNat xs).flatten))))
section
variable {w : Wd} {k : Nat} {X : Cx}
theorem op_repF : OpR X (binaryOp .Mult) (rRepF X.K) := by
  intro pins s σ H x y v u Q I rx ry h
  obtain ⟨l, k, xs, rfl, rfl, hT, h0, h1, hz, qs, qn⟩ := h
  cases rx
  obtain ⟨t, rfl⟩ := ry
  obtain ⟨its, r, ⟨⟨cls, dd, data, sl⟩, ho, hc, n, hd⟩, hs⟩ := I.tuple hT.sq
  simp only at hc hd
  subst hc hd
  have hle : its.length = xs.length := r.length.symm
  have c0 : (decide (k < -(2 ^ 63)) || decide (k ≥ 2 ^ 63)) = false := by
    rw [decide_eq_false (by omega), decide_eq_false (by omega)] <;> rfl
  have go : ∀ {Q' : Value → Shared → Prop}, wpAny (model X.prog X.w) X.A (call (.builtin "tuple.__mul__") [.ref l, .int k t]) Q' X.xe s → wpAny (model X.prog X.w) X.A (binaryOp .Mult (.ref l) (.int k t)) Q' X.xe s := fun {Q'} h =>
    wpAny_binaryOp_repeat_ref (T := "tuple") (U := "int") (by decide) ⟨_, ho, rfl⟩ (fun s' => typeIs_int s' k t) noFill_tuple_mul PySem.F.fills_int_mul PySem.F.slot_int_rmul repeat_tuple PySem.F.slot_int_index.lookup
      (call_meets PySem.F.slot_int_rmul (typeIs_int s k t) PySem.F.entry_int_rmul (PySem.F.args_int_rmul_2 _ _) (int_rmul_tuple k t l its.toArray n dd sl) ⟨ho, rfl, ⟨_, ho, rfl⟩, h⟩)
  have hemp : its.toArray.isEmpty = true ↔ xs = [] := by
    rw [List.isEmpty_toArray, List.isEmpty_iff]
    exact r.nil_iff
  by_cases same : xs = [] ∨ k = 1
  · have c1 : (its.toArray.isEmpty || k == 1) = true := by
      rcases same with e | e
      · rw [hemp.mpr e, Bool.true_or]
      · subst e; simp
    exact go (call_meets PySem.F.slot_tuple_mul ⟨_, ho, rfl⟩ PySem.F.entry_tuple_mul (PySem.F.args_tuple_mul_2 _ _) (tup_mulS l its.toArray n dd sl k t c0 c1) ⟨ho, .ref l, H, I, rfl, qs same⟩)
  · have ne : xs ≠ [] := fun e => same (.inl e)
    have i0 : its.toArray.isEmpty = false := by
      cases e : its.toArray.isEmpty with
      | false => rfl
      | true => exact (ne (hemp.mp e)).elim
    have c1 : (its.toArray.isEmpty || k == 1) = false := by
      rw [i0, Bool.false_or]
      exact beq_eq_false_iff_ne.mpr fun e => same (.inr e)
    have lenF : (List.replicate k.toNat xs).flatten.length ≤ sizeLine := by
      rw [PyProof.Rows.lm_len_rep_flat, sizeLine_eq]
      have a1 : k.toNat * xs.length ≤ 1000 * 1000 := Nat.mul_le_mul (by omega) hz
      omega
    have laid : ∀ (zs : List Value), Vals (List.replicate k.toNat xs).flatten zs → EP X pins σ Q (.ref s.heap.objs.size) { s with heap := s.heap.push { cls := Value.type "tuple", data := Data.seq zs.toArray }, toks := s.toks } := fun zs rz => by
      have hl := I.laid (t' := s.toks) (a := s.heap.objs.size) (h' := s.heap.push { cls := .type "tuple", data := .seq zs.toArray }) (o := .frz { cls := .type "tuple", data := .seq zs.toArray } (.tup (List.replicate k.toNat xs).flatten)) (fun c ob q => Heap.get?_push_of_some _ q) (Nat.le_refl _)
        ⟨Heap.get?_push_size _ rfl, lenF, _, rz, IsTup.new _ _⟩
      exact ⟨.ref s.heap.objs.size, _, hl, rfl, qn same _ (I.hok.fresh (Nat.le_refl _)) _ rfl⟩
    by_cases z : k ≤ 0
    · have k0 : k = 0 := by omega
      subst k0
      have c2 : (decide ((0 : Int) ≤ 0) || its.toArray.isEmpty) = true := rfl
      exact go (call_meets PySem.F.slot_tuple_mul ⟨_, ho, rfl⟩ PySem.F.entry_tuple_mul (PySem.F.args_tuple_mul_2 _ _) (tup_mul0 l its.toArray n dd sl 0 t c0 c1 c2) ⟨ho, laid [] .nil⟩)
    · have hm : ((its.toArray.size : Nat) : Int) * k ≤ 1000000 := by
        rw [List.size_toArray, hle]
        have a1 : ((xs.length : Nat) : Int) * k ≤ 1000 * k := Int.mul_le_mul_of_nonneg_right (by omega) (by omega)
        omega
      have c2 : (decide (k ≤ 0) || its.toArray.isEmpty) = false := by
        rw [i0, Bool.or_false]
        exact decide_eq_false z
      have c4 : Builtin.Tuple.tupleTooMany (((its.toArray.size : Nat) : Int) * k) = false := by
        unfold Builtin.Tuple.tupleTooMany
        rw [sizeLine_eq]
        exact decide_eq_false (by omega)
      refine go (call_meets PySem.F.slot_tuple_mul ⟨_, ho, rfl⟩ PySem.F.entry_tuple_mul (PySem.F.args_tuple_mul_2 _ _) (tuple_mulW l its.toArray n dd sl k t c0 c1 c2 (by omega) c4 ?_) ⟨ho, ?_⟩)
      · rw [size_rep, List.size_toArray, ← (r.rep k.toNat).length]
        exact lenF
      · rw [size_rep]
        exact laid _ (r.rep k.toNat)
def rMulA (K : PySem.W.Frag) : R2 := fun x y H Q => (rI CMul fun i j => .int (i * j)) x y H Q ∨ rRepF K x y H Q ∨ rRep x y H Q
theorem u_mul (c : Cok w k X) : U2 w (rMulA X.K) pMul := by
  intro σ H Hf s φ v u d e l Q g r1 r2 hp q
  unfold pMul at hp
  split at hp
  · split at hp
    · rename_i hc
      cases hp
      exact .inl ⟨_, _, r1.int, r2.int, hc, q.d g (.int _)⟩
    · cases hp
  · split at hp
    · rename_i hc
      cases hp
      obtain ⟨a, vs, rfl, ha, r⟩ := r1.tup g.sub
      have hl := r.length
      have rr := r1.tupR
      cases r2.int
      refine .inr (.inl ⟨a, _, vs, rfl, rfl, by rw [c.K]; exact ha, hc.1, hc.2.1, by rw [hl]; exact hc.2.2, fun same => ?_, fun _ p hp o ho => q.tup g (r.rep _) hp ho⟩)
      refine q.d g ?_
      rcases same with e | e
      · subst e
        cases r
        simp only [List.flatten_replicate_nil]
        exact rr
      · subst e
        simpa using rr
    · cases hp
  · rename_i ds b
    split at hp
    · rename_i hc
      cases hp
      obtain ⟨a, vs, rfl, ha, r⟩ := r1.list g.sub
      have hl := r.length
      cases r2.int
      have a1 : ds.length * b.toNat ≤ 1000 * 1000 := Nat.mul_le_mul hc.2.2 (by omega)
      exact .inr (.inr ⟨a, _, vs, rfl, rfl, ha, by omega, by omega, by rw [sizeLine_eq, hl]; omega, fun p hp => q.lst g (r.rep _) hp⟩)
    · cases hp
  · cases hp
theorem ge_mul (c : Cok w k X) {pos : Pos} {a b : Expr} {f f' : EV} (ha : GE w X a f) (hb : GE w X b f') : GE w X (.BinOp a .Mult b pos) (k2 pMul f f') := ge_op (OpR.or op_mul (OpR.or op_repF op_rep)) (u_mul c) ha hb
end
end KV

set_option Elab.async false
set_option linter.all false
set_option maxRecDepth 100000
set_option maxHeartbeats 4000000
/-! KVP: dict displays; the law's source of numbers. -/
namespace KV
open PySem L2
open PySem.Spec PyProof.Rows

/-! ### denotations -/
def dNil : Sl → R (List (D × D) × Sl) := fun s => .ok ([], s)
def dCons (f g : EV) (h : Sl → R (List (D × D) × Sl)) : Sl → R (List (D × D) × Sl) := fun s => (kS f s).bind fun r => (kD g r.2).bind fun q => (h q.2).bind fun t => .ok ((r.1, q.1) :: t.1, t.2)
/-- {k: v, ..} -/
def kDisp (h : Sl → R (List (D × D) × Sl)) : EV := fun s => (h s).bind fun r => if r.1.length ≤ 15 then .ok (.t (.dct (mergeD [] r.1)), r.2) else .no
def kInt (f : EV) : Sl → R (Int × Sl) := fun s => (kG f s).bind fun r => match r.1 with | .int i => .ok (i, r.2) | _ => .no
/-- the source, new -/
def kSrc (f g h m : EV) : EV := fun s => (f s).bind fun r => match r.1 with
  | .t (.lst xs) => (match intsOf xs with
    | some cs => (kInt g r.2).bind fun a => (kInt h a.2).bind fun b => (kInt m b.2).bind fun c => .ok (.t (.src ⟨cs, a.1, b.1, c.1⟩), c.2)
    | none => .no)
  | _ => .no
inductive SF where
  | left | mixed | turn
def SF.get : SF → Src → Int
  | .left, S => S.left
  | .mixed, S => S.mixed
  | .turn, S => S.turn
def SF.put : SF → Int → Src → Src
  | .left, x, S => { S with left := x }
  | .mixed, x, S => { S with mixed := x }
  | .turn, x, S => { S with turn := x }
def SF.nm : SF → Str
  | .left => "left"
  | .mixed => "mixed"
  | .turn => "turn"
def srcAt (i : Nat) (s : Sl) : R Src := match s[i]? with
  | some (some (.src S)) => .ok S
  | _ => .no
def kSGet (i : Nat) (f : SF) : EV := fun s => (srcAt i s).bind fun S => .ok (.d (.int (f.get S)), s)
def kSLen (i : Nat) : EV := fun s => (srcAt i s).bind fun S => .ok (.d (.int S.cells.length), s)
def kSPop (i : Nat) : EV := fun s => (srcAt i s).bind fun S => match S.cells[S.cells.length - 1]? with
  | some x => .ok (.d (.int x), s.set i (some (.src { S with cells := S.cells.dropLast })))
  | none => .no
def sSPut (i : Nat) (f : SF) (e : EV) : SV := fun s => (srcAt i s).bind fun _ => (kInt e s).bind fun r => (srcAt i r.2).bind fun S => .ok (.nx, r.2.set i (some (.src (f.put r.1 S))))

section
variable {w : Wd} {k : Nat} {X : Cx} {pos : Pos} {σ : L2.St} {H Hf : Hp} {s s' : Sl} {φ : Nat → List Addr} {Q : VK} {io : List Nat}

/-! ### values on the way, held -/
theorem RLs.stay {vs : List V} {ls : List L} {F : List Addr} {H1 Hf1 : Hp} {s1 : Sl} {φ1 : Nat → List Addr} {P' : Addr → Prop} (r : RLs w σ Hf H s φ vs ls F) (k : Stp H Hf (Own s φ) H1 Hf1 P') (hp : ∀ a, Own s1 φ1 a → P' a) : RLs w σ Hf1 H1 s1 φ1 vs ls F := by
  induction r with
  | nil => exact .nil
  | cons r _ dj ih => exact .cons (r.stay k hp) ih dj
theorem RLs.new {vs : List V} {ls : List L} {F : List Addr} (r : RLs w σ Hf H s φ vs ls F) : ∀ a ∈ F, (∃ o, H a = some o) ∧ Hf a = none ∧ ¬ Own s φ a := by
  induction r with
  | nil => exact fun a h => nomatch h
  | cons r _ _ ih =>
    intro a h
    rcases List.mem_append.mp h with h | h
    · cases r with
      | d _ => cases h
      | o _ => cases h
      | t r c => exact ⟨r.there a h, c a h⟩
    · exact ih a h
theorem RLs.two {v u : V} {t t' : T} {F : List Addr} (r : RLs w σ Hf H s φ [v, u] [.t t, .t t'] F) : ∃ F1 F2, F = F1 ++ F2 ∧ OR w Hf H v t F1 ∧ (∀ a ∈ F1, Hf a = none ∧ ¬ Own s φ a) ∧ OR w Hf H u t' F2 ∧ ∀ a ∈ F2, Hf a = none ∧ ¬ Own s φ a := by
  cases r with
  | cons ra rr dj =>
    cases rr with
    | cons rb rn dj2 =>
      cases rn
      cases ra with
      | t ra ca =>
        cases rb with
        | t rb cb => exact ⟨_, _, by rw [List.append_nil], ra, ca, rb, cb⟩
structure Bag (w : Wd) (σ : L2.St) (H0 Hf0 : Hp) (P0 : Addr → Prop) (vs : List V) (ls : List L) (F : List Addr) (H Hf : Hp) (s : Sl) (φ : Nat → List Addr) : Prop where
  g : Good w σ H Hf s φ
  r : RLs w σ Hf H s φ vs ls F
  k : Stp H0 Hf0 P0 H Hf (fun a => Own s φ a ∨ a ∈ F)
theorem Bag.free {H0 Hf0 : Hp} {P0 : Addr → Prop} {vs : List V} {ls : List L} {F : List Addr} (b : Bag w σ H0 Hf0 P0 vs ls F H Hf s φ) : ∀ a, Own s φ a → Hf0 a = none := fun a h => by
  cases e : Hf0 a with
  | none => rfl
  | some u => have := b.k.sub a u e; rw [b.g.own_free h] at this; cases this
theorem Bag.add {H0 Hf0 : Hp} {P0 : Addr → Prop} {vs : List V} {ls : List L} {F F1 : List Addr} {v : V} {l : L} {H1 Hf1 : Hp} {s1 : Sl} {φ1 : Nat → List Addr} (b : Bag w σ H0 Hf0 P0 vs ls F H Hf s φ) (g1 : Good w σ H1 Hf1 s1 φ1) (r1 : RL w σ Hf1 H1 s1 φ1 v l F1)
    (k1 : Stp H Hf (Own s φ) H1 Hf1 (fun a => Own s1 φ1 a ∨ a ∈ F1)) : Bag w σ H0 Hf0 P0 (v :: vs) (l :: ls) (F1 ++ F) H1 Hf1 s1 φ1 := by
  have nof : ∀ a ∈ F, ¬ (Own s1 φ1 a ∨ a ∈ F1) := fun a ha z => by
    obtain ⟨⟨o, e1⟩, e2, e3⟩ := b.r.new a ha
    rcases k1.new a (.inl z) with z | z | z
    · exact e3 z
    · exact z e2
    · rw [e1] at z; cases z
  have back : ∀ x, (Own s φ x ∨ x ∈ F) ∨ Hf x ≠ none → P0 x ∨ Hf0 x ≠ none ∨ H0 x = none := fun x => b.k.new x
  have main : ∀ a, (Own s1 φ1 a ∨ a ∈ F1) ∨ Hf1 a ≠ none → P0 a ∨ Hf0 a ≠ none ∨ H0 a = none := fun a z => by
    rcases k1.new a z with z | z | z
    · exact back a (.inl (.inl z))
    · exact back a (.inr z)
    · by_cases n : P0 a
      · exact .inl n
      · cases e : H0 a with
        | none => exact .inr (.inr rfl)
        | some u => rw [b.k.keep a u e n] at z; cases z
  refine ⟨g1, .cons r1 (b.r.stay k1 fun a => .inl) fun a h1 h2 => nof a h2 (.inr h1), ⟨b.k.sub.trans k1.sub, fun a o h n => k1.keep a o (b.k.keep a o h n) fun z => ?_, fun a z => ?_⟩⟩
  · rcases back a (.inl (.inl z)) with z' | z' | z'
    · exact n z'
    · exact z' (b.free a z)
    · rw [h] at z'; cases z'
  · rcases z with (z | z) | z
    · exact main a (.inl (.inl z))
    · rcases List.mem_append.mp z with z | z
      · exact main a (.inl (.inr z))
      · exact back a (.inl (.inr z))
    · exact main a (.inr z)
theorem Bag.keep {H0 Hf0 : Hp} {P0 : Addr → Prop} {vs : List V} {ls : List L} {F : List Addr} {H1 Hf1 : Hp} {s1 : Sl} {φ1 : Nat → List Addr} (b : Bag w σ H0 Hf0 P0 vs ls F H Hf s φ) (g1 : Good w σ H1 Hf1 s1 φ1)
    (k1 : Stp H Hf (Own s φ) H1 Hf1 (Own s1 φ1)) : Bag w σ H0 Hf0 P0 vs ls F H1 Hf1 s1 φ1 := by
  have b1 := b.add (v := .non) g1 (.d .non) (F1 := []) (k1.weak fun a z => z.elim id fun z => nomatch z)
  exact ⟨g1, b.r.stay k1 fun _ => id, b1.k⟩
/-- its first, written or replaced -/
theorem Bag.one {H0 Hf0 : Hp} {P0 : Addr → Prop} {v : V} {t : T} {F : List Addr} (b : Bag w σ H0 Hf0 P0 [v] [.t t] F H Hf s φ) : OR w Hf H v t F ∧ ∀ a ∈ F, Hf a = none ∧ ¬ Own s φ a := by
  cases b.r with
  | cons r rr _ =>
    cases rr
    cases r with
    | t r c => rw [List.append_nil]; exact ⟨r, c⟩

/-! ### {k: v, ..} -/
def tD (w : Wd) (h : Sl → R (List (D × D) × Sl)) (trs : List (TE × TE)) : Prop := ∀ (σ : L2.St) (H Hf : Hp) (s : Sl) (φ : Nat → List Addr) (H0 Hf0 : Hp) (P0 : Addr → Prop) (p : Addr) (ps : List (D × D)) (s' : Sl) (Q : List (V × V) → Hp → Prop),
  Bag w σ H0 Hf0 P0 [.ref p] [.t (.dct [])] [p] H Hf s φ → h s = .ok (ps, s') →
  (∀ kvs H' Hf' φ', Bag w σ H0 Hf0 P0 [.ref p] [.t (.dct [])] [p] H' Hf' s' φ' → RpKv w.K Hf' kvs ps → Sub Hf Hf' → Q (kvs.map fun kv => (kV kv.1, kv.2)) H') → tPairs trs σ H Q
structure GDs (w : Wd) (X : Cx) (pos : Pos) (keys : List (Option Expr)) (values : List Expr) (h : Sl → R (List (D × D) × Sl)) : Prop where
  ex : ∃ trs, PPs X pos keys values trs ∧ tD w h trs
theorem gd_nil : GDs w X pos [] [] dNil := ⟨[], pps_nil, fun σ H Hf s φ H0 Hf0 P0 p ps s' Q b e q => by
  cases e
  exact q [] H Hf φ b .nil (Sub.refl _)⟩
theorem gd_cons {ek ev : Expr} {ks : List (Option Expr)} {vs : List Expr} {f g : EV} {h : Sl → R (List (D × D) × Sl)} (hk : GE w X ek f) (hv : GE w X ev g) (hr : GDs w X pos ks vs h) : GDs w X pos (some ek :: ks) (ev :: vs) (dCons f g h) := by
  obtain ⟨trs, pr, tr⟩ := hr.ex
  refine ⟨_, pps_cons hk hv pr, fun σ H Hf s φ H0 Hf0 P0 p ps s' Q b e q => ?_⟩
  obtain ⟨⟨kd, s1⟩, h1, h2⟩ := R.bind_eq_ok.mp e
  obtain ⟨⟨d, s2⟩, h3, h4⟩ := R.bind_eq_ok.mp h2
  obtain ⟨⟨ps', s3⟩, h5, h6⟩ := R.bind_eq_ok.mp h4
  cases h6
  obtain ⟨l1, h7, h8, h9⟩ := kS_ok h1
  refine ⟨Hf, s, φ, l1, s1, b.g, h7, fun v H1 Hf1 φ1 F1 g1 r1 k1 => ?_⟩
  obtain ⟨ky, rfl, rfl⟩ := (Vs.of (r1.rw g1 h8) h9).key
  have b1 := b.keep g1 (k1.weak fun a => .inl)
  refine tE_D g1 h3 fun u H2 Hf2 φ2 g2 r2 k2 => ?_
  have b2 := b1.keep g2 k2
  refine tr σ H2 Hf2 s2 φ2 H0 Hf0 P0 p ps' _ _ b2 h5 fun kvs H3 Hf3 φ3 b3 r3 sb => ?_
  exact q ((ky, u) :: kvs) H3 Hf3 φ3 b3 (.cons (r2.mono sb) r3) (k1.sub.trans (k2.sub.trans sb))
theorem ge_disp {keys : List (Option Expr)} {values : List Expr} {h : Sl → R (List (D × D) × Sl)} (hd : GDs w X pos keys values h) (hall : keys.all (·.isSome) = true := by rfl) (hl : keys.length = values.length := by rfl) (h0 : keys ≠ [] := by simp) (h15 : keys.length ≤ 15 := by decide) : GE w X (.Dict keys values pos) (kDisp h) := by
  obtain ⟨trs, pr, tr⟩ := hd.ex
  refine pe_imp (pe_disp pr hall hl h0 h15) fun σ H Q => ?_
  rintro ⟨Hf, s, φ, l, s', g, e, q⟩ p hp
  obtain ⟨⟨ps, s1⟩, h1, h2⟩ := R.bind_eq_ok.mp e
  simp only at h2
  split at h2
  · rename_i hz
    cases h2
    have b0 : Bag w σ H Hf (Own s φ) [.ref p] [.t (.dct [])] [p] (upd H p (.dK [])) Hf s φ :=
      ⟨g.updH hp, .cons (.t (.dct upd_same .nil) fun a ha => by rw [List.mem_singleton] at ha; subst ha; exact ⟨g.hf_none hp, g.own_ne hp⟩) .nil (fun _ _ h => nomatch h), Stp.updH hp fun a z => z.imp id fun z => by simpa using z⟩
    refine tr σ _ Hf s φ H Hf (Own s φ) p ps _ _ b0 h1 fun kvs H1 Hf1 φ1 b1 r1 _ => ?_
    obtain ⟨o1, n1⟩ := b1.one
    obtain ⟨n1, n2⟩ := n1 p (by simp)
    cases o1 with
    | dct hp1 r0 =>
      cases r0
      refine ⟨hp1, kvs, rfl, by rw [r1.length]; exact hz, ?_⟩
      exact q (.ref p) _ Hf1 φ1 [p] (b1.g.updO n1 n2) (.t (.dct upd_same (merge_rp r1 .nil)) fun a ha => by rw [List.mem_singleton] at ha; subst ha; exact ⟨n1, n2⟩) (b1.k.updO (.inr (by simp)) n1)
  · cases h2
/-- {} -/
theorem ge_disp0 : GE w X (.Dict [] [] pos) (kDisp dNil) := pe_imp pe_dnewK fun σ H Q => by
  rintro ⟨Hf, s, φ, l, s', g, e, q⟩
  cases e
  exact fun p hp => q.dct g .nil hp

/-! ### the source -/
theorem Good.updM {a : Addr} {o : HO} {i : Nat} {t t' : T} (g : Good w σ H Hf s φ) (h : s[i]? = some (some t)) (m : a ∈ φ i) {v : V} (hv : σ[i]? = some (some v)) (r : OR w Hf (upd H a o) v t' (φ i)) :
    Good w σ (upd H a o) Hf (s.set i (some t')) φ ∧ ∀ x, Own (s.set i (some t')) φ x → Own s φ x := by
  have hf : Hf a = none := g.fr i t a h m
  have fix : ∀ {j : Nat} {u : T}, (s.set i (some t'))[j]? = some (some u) → ∃ u0, s[j]? = some (some u0) := fun {j u} q => by
    rcases set_at q with ⟨rfl, _, _⟩ | ⟨_, q⟩
    · exact ⟨_, h⟩
    · exact ⟨_, q⟩
  refine ⟨⟨fun x u q => ?_, by rw [List.length_set]; exact g.len, fun j u q => ?_, fun j u x q m => ?_, fun j k u u' x q1 q2 m1 m2 => ?_⟩, fun x q => ?_⟩
  · have : x ≠ a := fun z => by rw [z, hf] at q; cases q
    rw [upd_ne this]; exact g.sub x u q
  · rcases set_at q with ⟨rfl, rfl, _⟩ | ⟨z, q⟩
    · exact ⟨v, hv, r⟩
    · obtain ⟨v', e1, r'⟩ := g.here j u q
      refine ⟨v', e1, r'.stay (Sub.refl _) fun x hx u' q' => ?_⟩
      have : x ≠ a := fun y => z (g.dj j i u t x q h hx (by rw [y]; exact m))
      rw [upd_ne this]; exact q'
  · obtain ⟨u0, q0⟩ := fix q
    exact g.fr j u0 x q0 m
  · obtain ⟨u1, q1⟩ := fix q1
    obtain ⟨u2, q2⟩ := fix q2
    exact g.dj j k u1 u2 x q1 q2 m1 m2
  · obtain ⟨j, u, q, m⟩ := q
    obtain ⟨u0, q0⟩ := fix q
    exact ⟨j, u0, q0, m⟩
theorem srcAt_ok {i : Nat} {S : Src} (h : srcAt i s = .ok S) : s[i]? = some (some (.src S)) := by
  unfold srcAt at h
  split at h
  · cases h; assumption
  · cases h
theorem Good.srcs (g : Good w σ H Hf s φ) {i : Nat} {S : Src} (h : s[i]? = some (some (.src S))) : ∃ a b, σ[i]? = some (some (.ref a)) ∧ φ i = [a, b] ∧ H a = some (.dK (srcKv b S)) ∧ H b = some (.lst (S.cells.map V.int)) := by
  obtain ⟨v, e, r⟩ := g.here i _ h
  generalize hF : φ i = F at r
  cases r with
  | src h1 h2 => exact ⟨_, _, e, rfl, h1, h2⟩
theorem ints_lst {K : PySem.W.Frag} {H : Hp} {vs : List V} {ds : List D} {ns : List Int} (r : RpA K H vs ds) (h : intsOf ds = some ns) : vs = ns.map V.int := ints_rp r h
theorem kInt_ok {f : EV} {i : Int} (h : kInt f s = .ok (i, s')) : ∃ l, f s = .ok (l, s') ∧ l.get s' = .ok (.int i) := by
  obtain ⟨⟨d, s1⟩, h1, h2⟩ := R.bind_eq_ok.mp h
  obtain ⟨l, h3, h4⟩ := kG_ok h1
  simp only at h2
  split at h2
  · cases h2; exact ⟨l, h3, h4⟩
  · cases h2
theorem tE_I {f : EV} {i : Int} {Z : V → Hp → Prop} (g : Good w σ H Hf s φ) (e : kInt f s = .ok (i, s'))
    (h : ∀ H' Hf' φ', Good w σ H' Hf' s' φ' → Stp H Hf (Own s φ) H' Hf' (Own s' φ') → Z (.int i) H') : tE w f σ H Z := by
  obtain ⟨l, h1, h2⟩ := kInt_ok e
  refine ⟨Hf, s, φ, l, s', g, h1, fun v H1 Hf1 φ1 F1 g1 r1 k1 => ?_⟩
  cases (r1.rw g1 h2).int
  exact h H1 Hf1 φ1 g1 (k1.weak fun a => .inl)
theorem ge_src {ec eg eh em : Expr} {f g h m : EV} {j1 j2 j3 j4 : Nat} {p1 p2 p3 p4 : Pos} (hc : GE w X ec f) (hl : GE w X eg g) (hm : GE w X eh h) (ht : GE w X em m) :
    GE w X (.Dict [some (.Constant (.str "cells") j1 p1), some (.Constant (.str "left") j2 p2), some (.Constant (.str "mixed") j3 p3), some (.Constant (.str "turn") j4 p4)] [ec, eg, eh, em] pos) (kSrc f g h m) := by
  refine pe_imp (pe_disp (pps_cons pe_str hc (pps_cons pe_str hl (pps_cons pe_str hm (pps_cons pe_str ht pps_nil)))) rfl rfl (by simp) (by show 4 ≤ 15; decide)) fun σ H Q => ?_
  rintro ⟨Hf, s, φ, l, s', gd, e, q⟩ p hp
  obtain ⟨⟨l1, s1⟩, h1, h2⟩ := R.bind_eq_ok.mp e
  simp only at h2
  split at h2
  · rename_i xs
    split at h2
    · rename_i cs hcs
      obtain ⟨⟨a, s2⟩, h3, h4⟩ := R.bind_eq_ok.mp h2
      obtain ⟨⟨b, s3⟩, h5, h6⟩ := R.bind_eq_ok.mp h4
      obtain ⟨⟨c, s4⟩, h7, h8⟩ := R.bind_eq_ok.mp h6
      cases h8
      have b0 : Bag w σ H Hf (Own s φ) [.ref p] [.t (.dct [])] [p] (upd H p (.dK [])) Hf s φ :=
        ⟨gd.updH hp, .cons (.t (.dct upd_same .nil) fun a ha => by rw [List.mem_singleton] at ha; subst ha; exact ⟨gd.hf_none hp, gd.own_ne hp⟩) .nil (fun _ _ h => nomatch h), Stp.updH hp fun a z => z.imp id fun z => by simpa using z⟩
      refine ⟨Hf, s, φ, .t (.lst xs), s1, b0.g, h1, fun v H1 Hf1 φ1 F1 g1 r1 k1 => ?_⟩
      have b1 := b0.add g1 r1 k1
      refine tE_I g1 h3 fun H2 Hf2 φ2 g2 k2 => ?_
      have b2 := b1.keep g2 k2
      refine tE_I g2 h5 fun H3 Hf3 φ3 g3 k3 => ?_
      have b3 := b2.keep g3 k3
      refine tE_I g3 h7 fun H4 Hf4 φ4 g4 k4 => ?_
      have b4 := b3.keep g4 k4
      obtain ⟨Fa, Fb, eF, ra, ca, rb, cb⟩ := b4.r.two
      cases ra with
      | lst ha rxs =>
        cases rb with
        | dct hb rk =>
          cases rk
          rename_i A vs
          obtain ⟨n1, n2⟩ := cb p (by simp)
          obtain ⟨m1, m2⟩ := ca A (by simp)
          have ev := ints_lst rxs hcs
          have ne : A ≠ p := fun z => by rw [z, hb] at ha; cases ha
          refine ⟨hb, [(Sum.inr "cells", .ref A), (Sum.inr "left", .int a), (Sum.inr "mixed", .int b), (Sum.inr "turn", .int c)], rfl, (by show 4 ≤ 15; decide), ?_⟩
          have em : mergeK [] [(Sum.inr "cells", V.ref A), (Sum.inr "left", .int a), (Sum.inr "mixed", .int b), (Sum.inr "turn", .int c)] = srcKv A ⟨cs, a, b, c⟩ := by
            rfl
          rw [em]
          refine q (.ref p) _ Hf4 φ4 [p, A] (b4.g.updO n1 n2) (.t (.src upd_same (by rw [upd_ne ne, ← ev]; exact ha)) fun x hx => ?_) ((b4.k.updO (.inr (by simp)) n1).weak fun x z => z.imp id fun z => ?_)
          · rcases List.mem_cons.mp hx with z | z
            · subst z; exact ⟨n1, n2⟩
            · rw [List.mem_singleton] at z; subst z; exact ⟨m1, m2⟩
          · rw [eF]
            rcases List.mem_cons.mp z with z | z
            · subst z; simp
            · rw [List.mem_singleton] at z; subst z; simp
    · cases h2
  · cases h2
section
variable {x : Str} {px pp apos cpos : Pos} {j : Nat}
theorem src_look {b : Addr} {S : Src} (f : SF) : valV (srcKv b S) (Sum.inr f.nm) = some (.int (f.get S)) := by
  cases f <;> rfl
theorem src_cells {b : Addr} {S : Src} : valV (srcKv b S) (Sum.inr "cells") = some (.ref b) := rfl
theorem ge_srcI (c : Cok w k X) (i : Nat) (f : SF) {nm : Str} (hn : f.nm = nm := by rfl) (hN : X.N[i]? = some x := by rfl) (hv : Vis X.env.scope x := by first | exact Or.inl rfl | exact Or.inr (Or.inl rfl) | exact Or.inr (Or.inr rfl)) (hd : (x == ("__debug__" : Str)) = false := by decide) (hcd : (x == ("__classdict__" : Str)) = false := by decide)
    (hs : PlainIx (.Constant (.str nm) j pp) := by exact fun _ _ => rfl) : GE w X (.Subscript (.Name x px) (.Constant (.str nm) j pp) pos) (kSGet i f) := by
  subst hn
  refine pe_imp (pe_ix (ix_all c) (pv i hN hv hd hcd) pe_str hs) fun σ H Q => ?_
  rintro ⟨Hf, s, φ, l, s', g, e, q⟩
  obtain ⟨S, h1, h2⟩ := R.bind_eq_ok.mp e
  cases h2
  obtain ⟨a, b, e1, _, ha, hb⟩ := g.srcs (srcAt_ok h1)
  exact ⟨_, e1, .inr (.inr ⟨a, _, rfl, by have := DGet.k (k := Sum.inr f.nm) ha; rw [src_look f] at this; exact this, q.d g (.int _)⟩)⟩
/-- len(source["cells"]) -/
theorem ge_srcLen (hm : X.mg "len" = none) (c : Cok w k X) (i : Nat) {lp : Pos} (hN : X.N[i]? = some x := by rfl) (hv : Vis X.env.scope x := by first | exact Or.inl rfl | exact Or.inr (Or.inl rfl) | exact Or.inr (Or.inr rfl)) (hd : (x == ("__debug__" : Str)) = false := by decide) (hcd : (x == ("__classdict__" : Str)) = false := by decide)
    (hs : PlainIx (.Constant (.str "cells") j pp) := by exact fun _ _ => rfl) (hg : Gl X "len" := by rfl) (he : starEach [.Subscript (.Name x px) (.Constant (.str "cells") j pp) apos] X.env = (false, eval (.Subscript (.Name x px) (.Constant (.str "cells") j pp) apos) X.env) :: starEach [] X.env := by rfl) :
    GE w X (.Call (.Name "len" lp) [.Subscript (.Name x px) (.Constant (.str "cells") j pp) apos] [] pos) (kSLen i) := by
  refine pe_imp (pe_callB call_len hg hm PySem.boot_len (pa_cons (pe_ix (ix_all c) (pv i hN hv hd hcd) pe_str hs) pa_nil he) (by decide) (by decide) he) fun σ H Q => ?_
  rintro ⟨Hf, s, φ, l, s', g, e, q⟩
  obtain ⟨S, h1, h2⟩ := R.bind_eq_ok.mp e
  cases h2
  obtain ⟨a, b, e1, _, ha, hb⟩ := g.srcs (srcAt_ok h1)
  have hg := DGet.k (k := Sum.inr "cells") ha
  rw [src_cells] at hg
  exact ⟨_, e1, .inr (.inr ⟨a, _, rfl, hg, _, S.cells.length, rfl, .inl ⟨_, SqL.of hb, by simp⟩, q.d g (.int _)⟩)⟩
theorem ge_srcPop (c : Cok w k X) (i : Nat) (hN : X.N[i]? = some x := by rfl) (hv : Vis X.env.scope x := by first | exact Or.inl rfl | exact Or.inr (Or.inl rfl) | exact Or.inr (Or.inr rfl)) (hd : (x == ("__debug__" : Str)) = false := by decide) (hcd : (x == ("__classdict__" : Str)) = false := by decide)
    (hs : PlainIx (.Constant (.str "cells") j pp) := by exact fun _ _ => rfl)
    (hbase : attributeBase (.Subscript (.Name x px) (.Constant (.str "cells") j pp) pos) "pop" X.env (eval (.Subscript (.Name x px) (.Constant (.str "cells") j pp) pos) X.env) = eval (.Subscript (.Name x px) (.Constant (.str "cells") j pp) pos) X.env := by rfl) (hline : (apos.endLine == cpos.line) = true := by rfl) :
    GE w X (.Call (.Attribute (.Subscript (.Name x px) (.Constant (.str "cells") j pp) pos) "pop" apos) [] [] cpos) (kSPop i) := by
  refine pe_imp (pe_bm0 PySem.F.plainAttrs_list PySem.F.slot_list_pop PySem.F.type_list_pop mt_pop (pe_ix (ix_all c) (pv i hN hv hd hcd) pe_str hs) hbase hline) fun σ H Q => ?_
  rintro ⟨Hf, s, φ, l, s', g, e, q⟩
  obtain ⟨S, h1, h2⟩ := R.bind_eq_ok.mp e
  have hS := srcAt_ok h1
  obtain ⟨a, b, e1, p1, ha, hb⟩ := g.srcs hS
  split at h2
  · rename_i z hz
    cases h2
    have hg := DGet.k (k := Sum.inr "cells") ha
    rw [src_cells] at hg
    have ne : a ≠ b := fun z => by rw [z, hb] at ha; cases ha
    refine ⟨_, e1, .inr (.inr ⟨a, _, rfl, hg, .inl ⟨rfl, _, SqL.of hb⟩, b, _, .int z, rfl, rfl, hb, by simp only [List.length_map, List.getElem?_map, hz]; rfl, ?_⟩)⟩
    have el : (S.cells.map V.int).dropLast = S.cells.dropLast.map V.int := by rw [List.map_dropLast]
    rw [el]
    have mb : b ∈ φ i := by rw [p1]; simp
    obtain ⟨g2, o2⟩ := g.updM (o := .lst (S.cells.dropLast.map V.int)) (t' := .src { S with cells := S.cells.dropLast }) hS mb e1 (by
      rw [p1]
      exact .src (by rw [upd_ne ne]; exact ha) upd_same)
    exact q (.int z) _ Hf φ [] g2 (.d (.int z)) ((Stp.refl.updO ⟨i, _, hS, mb⟩ (g.fr i _ b hS mb)).weak fun y z => z.elim (o2 y) fun z => nomatch z)
  · cases h2
theorem src_put {b : Addr} {S : Src} (f : SF) (y : Int) : putK (srcKv b S) (Sum.inr f.nm) (.int y) = srcKv b (f.put y S) := by
  cases f <;> rfl
theorem gs_srcPut (c : Cok w k X) (i : Nat) (f : SF) {nm : Str} {e : Expr} {fe : EV} {spos : Pos} (he : GE w X e fe) (hn : f.nm = nm := by rfl) (hN : X.N[i]? = some x := by rfl) (hv : Vis X.env.scope x := by first | exact Or.inl rfl | exact Or.inr (Or.inl rfl) | exact Or.inr (Or.inr rfl)) (hd : (x == ("__debug__" : Str)) = false := by decide) (hcd : (x == ("__classdict__" : Str)) = false := by decide)
    (ha : ∀ v, assign (.Subscript (.Name x px) (.Constant (.str nm) j pp) spos) X.env v = (do
      let ov ← holding [v] (eval (.Name x px) X.env)
      let iv ← holding [v, ov] (eval (.Constant (.str nm) j pp) X.env)
      standAt spos
      holding [v, ov, iv] (setItem ov iv v)
      release [v, ov, iv] []) := by intro _; rfl)
    (hs : swapsWithSole [.Subscript (.Name x px) (.Constant (.str nm) j pp) spos] e pos.line X.env = pure false := by rfl) (hw : swappedStores [.Subscript (.Name x px) (.Constant (.str nm) j pp) spos] e X.env = pure none := by rfl)
    (h1 : (assignEach [.Subscript (.Name x px) (.Constant (.str nm) j pp) spos] X.env).map (·.2) = [assign (.Subscript (.Name x px) (.Constant (.str nm) j pp) spos) X.env] := by rfl) :
    GS w io X (.Assign [.Subscript (.Name x px) (.Constant (.str nm) j pp) spos] e pos) (sSPut i f fe) := by
  subst hn
  refine ps_imp (ps_asg he (pg_sub (pv i hN hv hd hcd) pe_str (set_any c) ha) hs hw h1) fun D σ H => ?_
  rintro ⟨Hf, s, φ, fl, s', g, e, q⟩
  obtain ⟨S0, h2, h3⟩ := R.bind_eq_ok.mp e
  obtain ⟨⟨y, s1⟩, h4, h5⟩ := R.bind_eq_ok.mp h3
  obtain ⟨S, h6, h7⟩ := R.bind_eq_ok.mp h5
  cases h7
  obtain ⟨a0, b0, e0, _⟩ := g.srcs (srcAt_ok h2)
  refine tE_I g h4 fun H1 Hf1 φ1 g1 k1 => ?_
  have hS := srcAt_ok h6
  obtain ⟨a, b, e1, p1, ha, hb⟩ := g1.srcs hS
  rw [e0] at e1
  cases e1
  have ne : b ≠ a0 := fun z => by rw [z, ha] at hb; cases hb
  have ma : a0 ∈ φ1 i := by rw [p1]; simp
  obtain ⟨g2, o2⟩ := g1.updM (o := .dK (srcKv b (f.put y S))) (t' := .src (f.put y S)) hS ma e0 (by
    rw [p1]
    refine .src upd_same ?_
    rw [upd_ne ne]
    cases f <;> exact hb)
  refine ⟨_, e0, .inr ⟨a0, _, rfl, DPut.k (k := Sum.inr f.nm) (v := .int y) ha (by show 4 < sizeLine; decide), ?_⟩⟩
  rw [src_put]
  exact q σ _ Hf1 φ1 g2 ((k1.updO ⟨i, _, hS, ma⟩ (g1.fr i _ a0 hS ma)).weak o2) Kp.refl
end
end
end KV

set_option Elab.async false
set_option linter.all false
set_option maxRecDepth 100000
set_option maxHeartbeats 4000000
/-! KVQ: the script that is handed in; a law by its denotation. -/
namespace KV
open PySem L2
open PySem.Spec PyProof.Rows

def scrAt (i : Nat) (s : Sl) : R (List Int) := match s[i]? with
  | some (some (.scr ns)) => .ok ns
  | _ => .no
def iScr (i : Nat) : IV := fun s => (scrAt i s).bind fun ns => .ok (ns.map PyData.int, s)
/-- an argument that is passed on as it is -/
def cPass (i : Nat) (g : CV) : CV := fun s => match s[i]? with
  | some (some (.scr ns)) => (g s).bind fun q => .ok (.f (.scr ns) :: q.1, q.2)
  | some (some (.clo n f)) => (g s).bind fun q => .ok (.f (.clo n f) :: q.1, q.2)
  | _ => .no

section
variable {w : Wd} {k : Nat} {X : Cx} {pos : Pos} {σ : L2.St} {H Hf : Hp} {s s' : Sl} {φ : Nat → List Addr} {Q : VK} {io : List Nat}
theorem scrAt_ok {i : Nat} {ns : List Int} (h : scrAt i s = .ok ns) : s[i]? = some (some (.scr ns)) := by
  unfold scrAt at h
  split at h
  · cases h; assumption
  · cases h
theorem ints_rpa {K : PySem.W.Frag} {H : Hp} : ∀ ns : List Int, RpA K H (ns.map V.int) (ns.map PyData.int)
  | [] => .nil
  | i :: ns => .cons (.int i) (ints_rpa ns)
theorem gi_scr (c : Cok w k X) (i : Nat) {x : Str} {px : Pos} {tg : Expr} (hN : X.N[i]? = some x := by rfl) (hv : Vis X.env.scope x := by first | exact Or.inl rfl | exact Or.inr (Or.inl rfl) | exact Or.inr (Or.inr rfl)) (hd : (x == ("__debug__" : Str)) = false := by decide) (hcd : (x == ("__classdict__" : Str)) = false := by decide) : GI w X tg (.Name x px) (iScr i) := by
  refine pi_imp (pi_any (pv i hN hv hd hcd)) fun σ H Rv => ?_
  rintro ⟨Hf, s, φ, ds, s', gd, e, q⟩
  obtain ⟨ns, h1, h2⟩ := R.bind_eq_ok.mp e
  cases h2
  obtain ⟨v, e1, r⟩ := gd.here i _ (scrAt_ok h1)
  generalize φ i = F at r
  cases r with
  | scr hs =>
    refine ⟨_, e1, _, _, rfl, .inl ⟨by rw [c.K]; exact gd.sub.sqL hs, ?_⟩⟩
    rw [c.K]
    refine q _ H Hf φ gd Stp.refl ⟨fun i H1 Hf1 s1 s2 hi => ?_, fun H1 Hf1 s1 s2 => ?_, fun i H1 Hf1 y H' d s1 s2 hd y1 => ?_⟩
    · obtain ⟨v, hv, _⟩ := (ints_rpa (K := w.K) (H := Hf) ns).get (List.getElem?_eq_getElem hi)
      exact ⟨_, v, s2.sqL (s1.sqL hs), hv⟩
    · exact ⟨_, s2.sqL (s1.sqL hs), by simp⟩
    · obtain ⟨v, hv, rv⟩ := (ints_rpa (K := w.K) (H := Hf1) ns).get hd
      have := y1.2 _ (s2.sqL (s1.sqL hs))
      rw [hv] at this
      cases this
      exact ⟨y1.1, rv⟩
theorem gr_pass (i : Nat) {x : Str} {px : Pos} {es : List Expr} {g : CV} {p : List Bool} (hr : GR w X es g p) (hN : X.N[i]? = some x := by rfl) (hv : Vis X.env.scope x := by first | exact Or.inl rfl | exact Or.inr (Or.inl rfl) | exact Or.inr (Or.inr rfl)) (hd : (x == ("__debug__" : Str)) = false := by decide) (hcd : (x == ("__classdict__" : Str)) = false := by decide)
    (hs : starEach (.Name x px :: es) X.env = (false, eval (.Name x px) X.env) :: starEach es X.env := by rfl) : GR w X (.Name x px :: es) (cPass i g) (false :: p) := by
  refine pa_imp (pa_cons (pv i hN hv hd hcd) hr hs) fun σ H Q => ?_
  rintro ⟨Hf, s, φ, as, s', gd, e, q⟩
  have go : ∀ t, s[i]? = some (some t) → (∀ v F, OR w Hf H v t F → F = []) → (g s).bind (fun q => .ok (AR.f t :: q.1, q.2)) = R.ok (as, s') → ∃ v, σ[i]? = some (some v) ∧ tR w g p σ H fun vs H2 => Q (v :: vs) H2 := fun t ht hF e => by
    obtain ⟨⟨as', s2⟩, h3, h4⟩ := R.bind_eq_ok.mp e
    cases h4
    obtain ⟨v, hv, r⟩ := gd.here i t ht
    have eF := hF v _ r
    rw [eF] at r
    exact ⟨v, hv, Hf, s, φ, as', _, gd, h3, fun vs H2 Hf2 φ2 g2 r2 p2 k2 => q (v :: vs) H2 Hf2 φ2 g2 (.cons (.f (r.stay k2.sub fun a h => nomatch h)) r2) (by rw [List.map_cons, p2]; rfl) k2⟩
  unfold cPass at e
  split at e
  · rename_i ns ht
    exact go _ ht (fun v F r => by cases r; rfl) e
  · rename_i n f ht
    exact go _ ht (fun v F r => by cases r; rfl) e
  · cases e
end

/-! ### a law -/
def W0 (K : PySem.W.Frag) : Wd := ⟨K, fun _ _ _ _ => False, fun _ h => h⟩
theorem law_callG {P : Program} {w0 : World} {K : PySem.W.Frag} {mg mb : Str → Option Value} {k : Nat} {fa a : Addr} {fd : FuncData} {x : Str} {sp : Sp} {st : Shared} {vs : List Value} {ns : List Int}
    (inK : K.In st.heap) (nsM : st.heap.Ns mainGlobals mg) (nsB : st.heap.Ns builtinsNs mb) (boot : ∀ y : Str, y ≠ "__name__" → mb y = bootBuiltins y) (noLim : st.heap.NoLimit) (noGen : st.gens = #[])
    (atA : st.heap.get? a = some { cls := .type "list", data := .seq vs.toArray }) (areInts : IntsAre vs ns) (short : ns.length ≤ sizeLine) (room : Room k callerA)
    (F : ∀ base : Heap, K.In base → base.Ns mainGlobals mg → FnG P w0 K mg base k fa fd [x] sp) (binds : ∀ (s : Shared) (u : Value), BindsTo s fd ⟨[u], []⟩ [(x, u)])
    (want : ∀ H : Hp, SqL K H a (ns.map V.int) → sp [.ref a] H (fun v _ => v = .bl true) fun _ _ _ => False) :
    codeAny (model P w0) callerA (.call (.ref fa) ⟨[.ref a], []⟩) (fun r s' => r = .ok (.ret (.bool true)) ∧ OldK st.heap s'.heap ∧ s'.os = st.os ∧ AllBare s'.gens) st := by
  have rel := vals_ints areInts
  have lenV := areInts.length
  have main : ∀ H : Hp, (∀ b u, H b = some u → b = a ∧ K.lookup a = none ∧ ∃ o ys, u = .frz o (.lst ys)) → SqL K H a (ns.map V.int) → HOk P w0 H st.heap →
      codeAny (model P w0) callerA (.call (.ref fa) ⟨[.ref a], []⟩) (fun r s' => r = .ok (.ret (.bool true)) ∧ OldK st.heap s'.heap ∧ s'.os = st.os ∧ AllBare s'.gens) st := by
    intro H only sq hok
    have keepB : ∀ {b : Addr} {o : Obj}, st.heap.get? b = some o → H b = none → (hidT st.heap H).get? b = some o := fun e n => hidT_get e n
    have freeD : ∀ {b : Addr} {o : Obj} {es : Array DictEntry} {ep : Nat}, st.heap.get? b = some o → o.data = .dict es ep → H b = none := fun {b o es ep} e d => by
      cases q : H b with
      | none => rfl
      | some u =>
        obtain ⟨rfl, _⟩ := only b u q
        rw [atA] at e
        cases e
        exact nomatch (show Data.seq vs.toArray _ = Data.dict es ep from d)
    have nsH : ∀ {b : Addr} {m : Str → Option Value}, st.heap.Ns b m → (hidT st.heap H).Ns b m := fun ⟨o, es, ep, e, d, r⟩ => ⟨o, es, ep, keepB e (freeD e d), d, r⟩
    have inH : K.In (hidT st.heap H) := fun b o e => keepB (inK b o e) (by
      cases q : H b with
      | none => rfl
      | some u =>
        obtain ⟨rfl, z, _⟩ := only b u q
        rw [z] at e; cases e)
    have modH : Mod K mg (hidT st.heap H) := ⟨inH, nsH nsM, ⟨mb, nsH nsB, boot⟩, let ⟨mc, h1, h2⟩ := noLim; ⟨mc, nsH h1, h2⟩⟩
    have env0 : Env0 P w0 K mg (hidT st.heap H) callerA [] st H := ⟨rfl, modH, fun b o e => of_hidT e, Nat.le_of_eq (hidT_size _ _), trivial, fun b hb => (nomatch (show b ∈ ([] : List Addr) from hb)), hok, .of_eq noGen⟩
    refine codeAny_mono ((F _ inH (nsH nsM)).run callerA [] st H ⟨[.ref a], []⟩ [.ref a] [.ref a] _ _ room rfl env0 (binds st (.ref a)) (.cons rfl .nil) (want H sq)) fun r s' h => ?_
    cases r with
    | error e => exact False.elim h
    | ok fl =>
      cases fl with
      | next => exact False.elim h
      | brk => exact False.elim h
      | cont => exact False.elim h
      | ret u =>
        obtain ⟨v, H', os, bare, un, hok', rv, q⟩ := h
        obtain rfl : v = .bl true := q
        obtain rfl : u = Value.bool true := rv
        refine ⟨rfl, OldK.of_keep fun b o e => ?_, os, bare⟩
        cases q : H b with
        | none => exact un.keep b o e q (fun z => nomatch (show b ∈ ([] : List Addr) from z)) (by simp)
        | some u =>
          obtain ⟨rfl, _, ob, ys, rfl⟩ := only b u q
          obtain ⟨e1, _⟩ := hok _ _ q
          obtain ⟨e2, _⟩ := hok' _ _ (un.frzs _ ob _ q)
          rw [e] at e1
          cases e1
          exact e2
  cases hk : K.lookup a with
  | some o =>
    have e := inK a o hk
    rw [atA] at e
    cases e
    exact main (fun _ => none) (fun b u z => nomatch z) (.inr ⟨_, vs.toArray, _, hk, rfl, rfl, rfl, by rw [List.size_toArray, lenV]; exact short, by simpa using rel⟩) (fun b u z => nomatch z)
  | none =>
    have only : ∀ b u, (if b = a then some (HO.frz { cls := .type "list", data := .seq vs.toArray } (.lst (ns.map V.int))) else none) = some u → b = a ∧ u = .frz { cls := .type "list", data := .seq vs.toArray } (.lst (ns.map V.int)) := fun b u z => by
      by_cases hb : b = a
      · rw [if_pos hb] at z; cases z; exact ⟨hb, rfl⟩
      · rw [if_neg hb] at z; cases z
    refine main (fun b => if b = a then some (.frz { cls := .type "list", data := .seq vs.toArray } (.lst (ns.map V.int))) else none) (fun b u z => ?_) (.inl (.inr ⟨_, if_pos rfl⟩)) fun b u z => ?_
    · obtain ⟨rfl, rfl⟩ := only b u z
      exact ⟨rfl, hk, _, _, rfl⟩
    · obtain ⟨rfl, rfl⟩ := only b u z
      exact ⟨atA, by rw [List.length_map]; exact short, vs, _, rel, atA⟩
theorem walkG {l : PySem.W.OpenLaw} {k : Nat} {q : Program} {loose : List Str} {XP : (Str → Option Value) → Heap → Prop} {YP : World → Heap → Prop} {d : DefRec} {K : Params → PySem.W.Frag} {x : Str} {dl : Def}
    (hn : l.most = some 63) (hdf : d.params.defaults = []) (room : Room k callerA) (hY : ∀ (w : World) (h : Heap), YP w h → (K w.params).In h)
    (F : ∀ (w : World) (mg : Str → Option Value) (fa : Addr) (h : Heap), (K w.params).In h → h.Ns mainGlobals mg → mg d.name = some (.ref fa) →
      ∃ fd : FuncData, (∀ (s : Shared) (u : Value), BindsTo s fd ⟨[u], []⟩ [(x, u)]) ∧ ∀ base : Heap, (K w.params).In base → base.Ns mainGlobals mg → FnG l.prog w (K w.params) mg base k fa fd [x] (spD (W0 (K w.params)) 1 dl))
    (plain : ∀ ns : List Int, ns.length ≤ 63 → dl.run [.scr ns] = .ok (.val (.bool true), [])) (hio : dl.io = []) : PySem.W.WalkO q loose XP YP l.row.toRowW d [] (fun f vs => PySem.call f vs) := by
  refine Att.attach_call hn hdf fun w s₀ st mg mb fa o pm cd doc a vs ns G Y ho hd hcd hmg hobj hints hlen hg => ?_
  have inK := hY w _ Y
  obtain ⟨fd, hb, hF⟩ := F w mg fa _ inK G.T.g hmg
  refine law_callG inK G.T.g G.T.b G.T.builtins G.T.nolimit hg hobj hints (Nat.le_trans hlen (by decide)) room hF hb fun H sq => ?_
  refine ⟨H, [.scr ns], fun _ => [], .val (.bool true), [], rfl, ⟨Sub.refl _, rfl, fun i t e => ?_, fun i t a e m => (nomatch m), fun i j t u a e1 e2 m => (nomatch m)⟩, plain ns hlen, fun v H' Hf' ψ F g r _ _ => ?_⟩
  · match i, e with
    | 0, e =>
      cases e
      exact ⟨.ref a, rfl, .scr sq⟩
    | i + 1, e => simp at e
  · cases r with
    | val r => cases r; rfl
end KV

set_option Elab.async false
set_option linter.all false
set_option maxRecDepth 100000
set_option maxHeartbeats 4000000
/-! KVR: comparisons as tests; what is never come to. -/
namespace KV
open PySem L2
open PySem.Spec PyProof.Rows
def sNever : SV := fun _ => .no
def bIfE (c f g : BV) : BV := fun s => (c s).bind fun r => if r.1 then f r.2 else g r.2
section
variable {w : Wd} {k : Nat} {X : Cx} {pos p2 : Pos} {a b : Expr} {f f' : EV} {io : List Nat}
theorem gs_never {st : Stmt} : GS w io X st sNever := ps_imp ps_never fun D σ H h => by
  obtain ⟨Hf, s, φ, fl, s', g, e, q⟩ := h
  cases e
theorem gss_never {sts : List Stmt} : GSs w io X sts sNever := pss_imp pss_never fun D σ H h => by
  obtain ⟨Hf, s, φ, fl, s', g, e, q⟩ := h
  cases e
theorem gb_eq (c : Cok w k X) (ha : GE w X a f) (hb : GE w X b f') (hm : behindInMarks .Eq b = false := by rfl) : GB w X (.Compare a [.Eq] [b] pos) (bVal (k2 pEq f f')) := gb_cmp (op_eqD (by have := c.u; omega)) (u_eq c) ha hb hm
theorem gb_ne (c : Cok w k X) (ha : GE w X a f) (hb : GE w X b f') (hm : behindInMarks .NotEq b = false := by rfl) : GB w X (.Compare a [.NotEq] [b] pos) (bVal (k2 pNe f f')) := gb_cmp (op_neD (by have := c.u; omega)) (u_ne c) ha hb hm
theorem gb_lt (ha : GE w X a f) (hb : GE w X b f') (hm : behindInMarks .Lt b = false := by rfl) : GB w X (.Compare a [.Lt] [b] pos) (bVal (k2 pLt f f')) := gb_cmp o_lt u_lt ha hb hm
theorem gb_le (ha : GE w X a f) (hb : GE w X b f') (hm : behindInMarks .LtE b = false := by rfl) : GB w X (.Compare a [.LtE] [b] pos) (bVal (k2 pLe f f')) := gb_cmp o_le u_le ha hb hm
theorem gb_gt (ha : GE w X a f) (hb : GE w X b f') (hm : behindInMarks .Gt b = false := by rfl) : GB w X (.Compare a [.Gt] [b] pos) (bVal (k2 pGt f f')) := gb_cmp o_gt u_gt ha hb hm
theorem gb_ge (ha : GE w X a f) (hb : GE w X b f') (hm : behindInMarks .GtE b = false := by rfl) : GB w X (.Compare a [.GtE] [b] pos) (bVal (k2 pGe f f')) := gb_cmp o_ge u_ge ha hb hm
theorem gb_in (c : Cok w k X) (ha : GE w X a f) (hb : GE w X b f') (hm : behindInMarks .In b = false := by rfl) : GB w X (.Compare a [.In] [b] pos) (bVal (k2 pIn f f')) :=
  gb_cmp (op_inA c) (u_inN c false fun d e l h => by obtain ⟨b, rfl⟩ := pIn_bool h; exact ⟨b, h, rfl⟩) ha hb hm
theorem gb_notIn (c : Cok w k X) (ha : GE w X a f) (hb : GE w X b f') (hm : behindInMarks .NotIn b = false := by rfl) : GB w X (.Compare a [.NotIn] [b] pos) (bVal (k2 pNotIn f f')) :=
  gb_cmp (op_notInA c) (u_inN c true fun d e l h => by
    unfold pNotIn at h
    obtain ⟨l', h1, h2⟩ := R.bind_eq_ok.mp h
    obtain ⟨b, rfl⟩ := pIn_bool h1
    cases h2
    exact ⟨b, h1, rfl⟩) ha hb hm
theorem gb_isN {j : Nat} (ha : GE w X a f) : GB w X (.Compare a [.Is] [.Constant .none j p2] pos) (bVal (k1 pIsN f)) :=
  pt_imp (pt_cmpR op_isN ha pe_non rfl) fun σ H Q h => tE_1 (r := fun v H1 Q => V.non = .non ∧ Q (.bl (decide (v = .non))) H1) (fun σ H Hf s φ v d l Q g r hp q => by
    cases hp
    rw [r.isN]
    exact ⟨rfl, q.d g (.bl _)⟩) (tB_val h)
theorem gb_notN {j : Nat} (ha : GE w X a f) : GB w X (.Compare a [.IsNot] [.Constant .none j p2] pos) (bVal (k1 pNotN f)) :=
  pt_imp (pt_cmpR op_notN ha pe_non rfl) fun σ H Q h => tE_1 (r := fun v H1 Q => V.non = .non ∧ Q (.bl (!decide (v = .non))) H1) (fun σ H Hf s φ v d l Q g r hp q => by
    cases hp
    rw [r.isN]
    exact ⟨rfl, q.d g (.bl _)⟩) (tB_val h)
theorem gb_isB {j : Nat} {b : Bool} (ha : GE w X a f) : GB w X (.Compare a [.Is] [.Constant (.bool b) j p2] pos) (bVal (k1 (pIsB b) f)) :=
  pt_imp (pt_cmpR op_isBl ha pe_bl rfl) fun σ H Q h => tE_1 (r := fun v H1 Q => rIsB v (.bl b) H1 Q) (fun σ H Hf s φ v d l Q g r hp q => by
    unfold pIsB at hp
    split at hp
    · cases hp
      exact ⟨_, _, r.bool, rfl, q.d g (.bl _)⟩
    · cases hp) (tB_val h)
theorem gb_notB {j : Nat} {b : Bool} (ha : GE w X a f) : GB w X (.Compare a [.IsNot] [.Constant (.bool b) j p2] pos) (bVal (k1 (pNotB b) f)) :=
  pt_imp (pt_cmpR op_notBl ha pe_bl rfl) fun σ H Q h => tE_1 (r := fun v H1 Q => rNotB v (.bl b) H1 Q) (fun σ H Hf s φ v d l Q g r hp q => by
    unfold pNotB at hp
    split at hp
    · cases hp
      exact ⟨_, _, r.bool, rfl, q.d g (.bl _)⟩
    · cases hp) (tB_val h)
end
end KV

set_option Elab.async false
set_option linter.all false
set_option maxRecDepth 100000
set_option maxHeartbeats 4000000
/-! KVT: a comprehension over a list of one's own, which stays one's own. -/
namespace KV
open PySem L2
open PySem.Spec PyProof.Rows
section
variable {w : Wd} {k : Nat} {X : Cx} {pos : Pos} {σ : L2.St} {H Hf : Hp} {s s' : Sl} {φ : Nat → List Addr} {Q : VK}
/-- the list is put aside meanwhile -/
def kCompO (i : Nat) (g : GV) (c : Option BV) (f : EV) (own : List Nat) : EV := fun s => match s[i]? with
  | some (some (.lst xs)) => (compD g c f own xs (s.set i none)).bind fun q => if szOk q.1.length then .ok (.t (.lst q.1), q.2.set i (some (.lst xs))) else .no
  | _ => .no
def tIO (w : Wd) (i : Nat) : TI := fun σ H Rv => ∃ Hf s φ xs, Good w σ H Hf s φ ∧ s[i]? = some (some (.lst xs)) ∧ ∀ a us, σ[i]? = some (some (.ref a)) → H a = some (.lst us) → RpA w.K Hf us xs → a ∈ φ i → Rv (Itl w.K a) H
theorem gi_own (c : Cok w k X) (i : Nat) {tg : Expr} {x : Str} (hN : X.N[i]? = some x := by rfl) (hv : Vis X.env.scope x := by first | exact Or.inl rfl | exact Or.inr (Or.inl rfl) | exact Or.inr (Or.inr rfl)) (hd : (x == ("__debug__" : Str)) = false := by decide)
    (hcd : (x == ("__classdict__" : Str)) = false := by decide) : PI X tg (.Name x pos) (tIO w i) := by
  refine pi_imp (pi_any (pe_var hN hv hd hcd)) fun σ H Rv => ?_
  rintro ⟨Hf, s, φ, xs, gd, hs, q⟩
  obtain ⟨v, e1, r⟩ := gd.here i _ hs
  have key : ∀ F, OR w Hf H v (.lst xs) F → φ i = F → ∃ a us, v = .ref a ∧ H a = some (.lst us) ∧ RpA w.K Hf us xs ∧ a ∈ φ i := fun F r hF => by
    cases r with
    | lst h r => exact ⟨_, _, rfl, h, r, by rw [hF]; exact List.mem_singleton.mpr rfl⟩
  obtain ⟨a, us, rfl, h1, h2, h3⟩ := key _ r rfl
  exact ⟨_, e1, a, us, rfl, .inl ⟨SqL.of h1, by rw [c.K]; exact q a us e1 h1 h2 h3⟩⟩
theorem lc_O {g : GV} {c : Option BV} {f : EV} {vs ts : List Nat} {ds rest : List D} {A a : Addr} {us : List V} {i : Nat} (gd : Good w σ H Hf s φ) (hs : s[i]? = some (some (.lst ds))) (ha : σ[i]? = some (some (.ref a))) (hu : H a = some (.lst us)) (ru : RpA w.K Hf us ds) (hm : a ∈ φ i)
    (hA : H A = none) (ht : ∀ i ∈ ts, i ∈ vs) (e : compD g c f vs ds (s.set i none) = .ok (rest, s')) (hz : rest.length ≤ 16000000) (q : PQ w σ H Hf s φ (s'.set i (some (.lst ds))) (.t (.lst rest)) Q) :
    ∃ W : Nat → Nat → Hp → Prop, (∃ m, W 0 m (upd H A (.lst []))) ∧ ∀ i m H, W i m H → ((Itl w.K a).stop i H ∧ Q (.ref A) H) ∨ ((Itl w.K a).go i H ∧ ∃ Nx : Hp → Prop, (∀ H', Nx H' → ∃ m', m' < m ∧ W (i + 1) m' H') ∧
      ∀ x H', (Itl w.K a).yld i H x H' → tG w g ts x (wipe σ vs) H' fun σ2 H2 => wipe σ2 vs = wipe σ vs ∧ tC w c σ2 H2 fun b H3 => if b = true then tE w f σ2 H3 (fun y H4 => ∃ acc, H4 A = some (.lst acc) ∧ acc.length < sizeLine ∧ Nx (upd H4 A (.lst (acc ++ [y])))) else Nx H3) := by
  obtain ⟨g1, ow1⟩ := gd.clr (i := i)
  have noOwn : ¬ Own (s.set i none) φ a := fun ⟨j, t, e1, m1⟩ => by
    obtain ⟨z1, z2⟩ := clr_at e1
    exact z1 (gd.dj i j _ _ a hs z2 hm m1).symm
  have hfa : Hf a = none := gd.fr i _ a hs hm
  have haA : a ≠ A := fun z => by rw [z, hA] at hu; cases hu
  have kA : Stp H Hf (Own (s.set i none) φ) (upd H A (.lst [])) Hf (fun a => Own (s.set i none) φ a ∨ a ∈ [A]) := Stp.updH hA fun a z => z.imp id fun z => by simpa using z
  have fA : ∀ x, (Own (s.set i none) φ x ∨ x ∈ [A]) → Hf x = none := fun x z => by
    rcases z with z | z
    · exact g1.own_free z
    · rw [List.mem_singleton] at z; subst z; exact g1.hf_none hA
  have at0 : At w σ (upd H A (.lst [])) Hf (fun a => Own (s.set i none) φ a ∨ a ∈ [A]) A [] (upd H A (.lst [])) Hf (s.set i none) φ :=
    ⟨g1.updH hA, .t (.lst upd_same .nil) fun x hx => by rw [List.mem_singleton] at hx; subst hx; exact ⟨g1.hf_none hA, g1.own_ne hA⟩, Stp.refl⟩
  have hold : ∀ {Hc Hfc sc φc das}, At w σ (upd H A (.lst [])) Hf (fun a => Own (s.set i none) φ a ∨ a ∈ [A]) A das Hc Hfc sc φc → Hc a = some (.lst us) ∧ Hfc a = none ∧ ¬ Own sc φc a := fun {Hc Hfc sc φc das} ac => by
    have hua : (upd H A (.lst [])) a = some (.lst us) := by rw [upd_ne haA]; exact hu
    have nP : ¬ (Own (s.set i none) φ a ∨ a ∈ [A]) := fun z => by
      rcases z with z | z
      · exact noOwn z
      · exact haA (List.mem_singleton.mp z)
    have nn : ¬ ((Own sc φc a ∨ a ∈ [A]) ∨ Hfc a ≠ none) := fun z => by
      rcases ac.k.new a z with z | z | z
      · exact nP z
      · exact z hfa
      · rw [hua] at z; cases z
    refine ⟨ac.k.keep a _ hua nP, ?_, fun z => nn (.inl (.inl z))⟩
    cases e1 : Hfc a with
    | none => rfl
    | some o => exact (nn (.inr (by rw [e1]; exact nofun))).elim
  let Inv1 : Nat → Hp → Prop := fun j Hc => ∃ das rest' Hfc sc φc, At w σ (upd H A (.lst [])) Hf (fun a => Own (s.set i none) φ a ∨ a ∈ [A]) A das Hc Hfc sc φc ∧ compD g c f vs (ds.drop j) sc = .ok (rest', s') ∧ das ++ rest' = rest
  refine ⟨fun j m Hc => m = ds.length - j ∧ j ≤ ds.length ∧ Inv1 j Hc, ⟨ds.length, by simp, Nat.zero_le _, [], rest, Hf, s.set i none, φ, at0, e, rfl⟩, ?_⟩
  rintro j m Hc ⟨rfl, hj, das, rest', Hfc, sc, φc, ac, ec, er⟩
  obtain ⟨hc1, hc2, hc3⟩ := hold ac
  by_cases hlt : j < ds.length
  · rw [drop_at hlt] at ec
    obtain ⟨u, hu1, hu2⟩ := ru.get (List.getElem?_eq_getElem hlt)
    refine .inr ⟨⟨us, u, SqL.of hc1, hu1⟩, fun H' => Inv1 (j + 1) H', fun H' n => ⟨ds.length - (j + 1), by omega, rfl, hlt, n⟩, fun x H' y => ?_⟩
    have hz2 : das.length + rest'.length ≤ 16000000 := by rw [← er, List.length_append] at hz; exact hz
    obtain ⟨rfl, y2⟩ := y
    have hx := y2 us (SqL.of hc1)
    rw [hu1] at hx
    cases hx
    have rx : Rp w.K Hfc u ds[j] := hu2.mono ac.k.sub
    obtain ⟨gw, ow⟩ := ac.g.wipe (σ' := wipe σ vs) (vs := vs) (wipe_length _ _) fun i hi => wipe_out hi
    have key := fun σ2 => turn_lc (σ := σ) (σ2 := σ2) (das := das) (A := A) (H0 := upd H A (.lst [])) (Hf0 := Hf) (P0 := fun a => Own (s.set i none) φ a ∨ a ∈ [A]) (Nx := fun H' => Inv1 (j + 1) H') (w := w) ec hz2 fun das' rest'' H3 Hf3 s3 φ3 a3 e3 er3 => ⟨das', rest'', Hf3, s3, φ3, a3, e3, er3.trans er⟩
    obtain ⟨s2, h2, _⟩ := key σ
    refine ⟨Hfc, _, φc, ds[j], s2, gw, rx, h2, fun σ2 φ2 g2 o2 l2 n2 => ?_⟩
    have hw := wipe_eq l2 n2 ht
    refine ⟨hw, ?_⟩
    obtain ⟨s2', h2', h3⟩ := key σ2
    rw [h2] at h2'
    cases h2'
    exact h3 _ Hfc φ2 (ac.step g2 (Stp.refl.weak fun a z => ow a (o2 a z))) hw
  · have : j = ds.length := by omega
    subst this
    rw [List.drop_length] at ec
    cases ec
    rw [List.append_nil] at er
    subst er
    refine .inl ⟨⟨us, SqL.of hc1, by rw [ru.length]; exact Nat.le_refl _⟩, ?_⟩
    obtain ⟨g3, o3⟩ := ac.g.set (v := .ref a) (t := .lst ds) (F := [a]) (i := i) (.lst hc1 (ru.mono ac.k.sub)) (fun x hx => by
      rw [List.mem_singleton] at hx
      subst hx
      exact ⟨hc2, fun j u _ e1 m1 => hc3 ⟨j, u, e1, m1⟩⟩)
    have hset : σ.set i (some (.ref a)) = σ := by
      apply List.ext_getElem?
      intro j
      rw [List.getElem?_set]
      by_cases hj : i = j
      · subst hj
        rw [if_pos rfl, ha, if_pos (List.getElem?_eq_some_iff.mp ha).1]
      · rw [if_neg hj]
    rw [hset] at g3
    have kk := kA.trans ac.k (fun _ => id) fA
    obtain ⟨acc, l1, l2, l3, l4⟩ := ac.lst
    refine q _ Hc Hfc _ [A] g3 (.t (.lst l1 l2) fun x hx => ?_) ⟨kk.sub, fun x o e1 n => kk.keep x o e1 fun z => n (ow1 x z), fun x z => ?_⟩
    · rw [List.mem_singleton] at hx
      subst hx
      refine ⟨l3, fun z => ?_⟩
      rcases o3 _ z with z | z
      · exact l4 z
      · exact haA (List.mem_singleton.mp z).symm
    · have : ((Own s' φc x ∨ x ∈ [A]) ∨ Hfc x ≠ none) ∨ x = a := by
        rcases z with (z | z) | z
        · rcases o3 _ z with z | z
          · exact .inl (.inl (.inl z))
          · exact .inr (List.mem_singleton.mp z)
        · exact .inl (.inl (.inr z))
        · exact .inl (.inr z)
      rcases this with z | rfl
      · rcases kk.new x z with z | z
        · exact .inl (ow1 x z)
        · exact .inr z
      · exact .inl ⟨i, _, hs, hm⟩
theorem tLc_O {i : Nat} {g : GV} {c : Option BV} {f : EV} {vs ts : List Nat} (ht : ∀ i ∈ ts, i ∈ vs) : tE w (kCompO i g c f vs) σ H Q → tLc (tIO w i) (tG w g ts) (tC w c) (tE w f) vs σ H Q := by
  rintro ⟨Hf, s, φ, l, s', gd, e, q⟩
  unfold kCompO at e
  split at e
  · rename_i xs hs
    obtain ⟨⟨rest, s2⟩, h3, h4⟩ := R.bind_eq_ok.mp e
    simp only at h4
    split at h4
    · rename_i hz
      cases h4
      exact ⟨Hf, s, φ, xs, gd, hs, fun a us ha hu ru hm A hA => lc_O gd hs ha hu ru hm hA ht h3 (szOk_le hz) q⟩
    · cases h4
  · cases e
/-- a, b, .. = a list -/
def gTL (gs : List GV) : GV := fun d s => match d with
  | .list ds => gAll gs ds s
  | _ => .no
theorem gg_tl {es : List Expr} {k1 n : Nat} {gs : List GV} {ts : List Nat} (c : Cok w k X) (h : GGs w X es gs ts) (hn : (assignEach es X.env).length = n := by rfl) (hl : gs.length = n := by rfl) (hst : (assignEach es X.env).findIdx? (·.1) = none := by rfl) : GG w X (.Tuple es k1 pos) (gTL gs) ts :=
  pg_imp (pg_lst c.calm h hn hst) fun v σ H Q => by
    rintro ⟨Hf, s, φ, d, s', gd, r, e, q⟩
    cases r with
    | lst hs ra => exact ⟨_, _, rfl, SqL.of (gd.sub _ _ hs), by rw [ra.length, gAll_len e, hl], Hf, s, φ, _, s', gd, ra, e, q⟩
    | non => cases e
    | bl _ => cases e
    | int _ => cases e
    | str _ => cases e
    | tup _ _ => cases e
    | dct _ _ => cases e
section
variable {elt tg iter : Expr} {ifs : List Expr} {scope : Scope} {g : GV} {c0 : Option BV} {f : EV} {ts : List Nat} {iO : Nat}
theorem ge_lcO (own : List (Str × Nat)) (c : Cok w k X) (hi : PI X tg iter (tIO w iO)) (ok : blkC X.N X.env.scope scope own = true)
    (hg : ∀ (s : Shared) (H : Hp) (C : Addr) (cl : List (Str × Addr)) (fp : List Addr), GG w (X.blk s H scope (compEnvC scope cl C X.env) fp) tg g ts) (ht : ∀ (s : Shared) (H : Hp) (C : Addr) (cl : List (Str × Addr)) (fp : List Addr), GC w (X.blk s H scope (compEnvC scope cl C X.env) fp) ifs c0)
    (he : ∀ (s : Shared) (H : Hp) (C : Addr) (cl : List (Str × Addr)) (fp : List Addr), GE w (X.blk s H scope (compEnvC scope cl C X.env) fp) elt f) (hts : ∀ i ∈ ts, i ∈ own.map (·.2) := by decide) (hs : ∀ x, foldedSetIterable iter X.env x = pure x := by intro _; rfl) :
    GE w X (.ListComp elt [⟨tg, iter, ifs, 0⟩] scope pos) (kCompO iO g c0 f (own.map (·.2))) := pe_imp (pe_lc c.calm c.nd hi (blkOk_by ok) hg ht he hs) fun _ _ _ => tLc_O hts
theorem gs_setLcO {io : List Nat} (i : Nat) (own : List (Str × Nat)) {y : Str} {py : Pos} {spos : Pos} (c : Cok w k X) (hi : PI X tg iter (tIO w iO)) (ok : blkC X.N X.env.scope scope own = true)
    (hg : ∀ (s : Shared) (H : Hp) (C : Addr) (cl : List (Str × Addr)) (fp : List Addr), GG w (X.blk s H scope (compEnvC scope cl C X.env) fp) tg g ts) (ht : ∀ (s : Shared) (H : Hp) (C : Addr) (cl : List (Str × Addr)) (fp : List Addr), GC w (X.blk s H scope (compEnvC scope cl C X.env) fp) ifs c0)
    (he : ∀ (s : Shared) (H : Hp) (C : Addr) (cl : List (Str × Addr)) (fp : List Addr), GE w (X.blk s H scope (compEnvC scope cl C X.env) fp) elt f) (hio : i ∉ io := by decide) (hy : X.N[i]? = some y := by rfl) (hyl : X.env.scope.names.lookup y = some .local := by rfl)
    (hsw : swapsWith (.ListComp elt [⟨tg, iter, ifs, 0⟩] scope pos) (some (.Name y py)) spos.line X.env = pure true := by rfl) (hts : ∀ i ∈ ts, i ∈ own.map (·.2) := by decide) (hs : ∀ x, foldedSetIterable iter X.env x = pure x := by intro _; rfl) :
    GS w io X (.Assign [.Name y py] (.ListComp elt [⟨tg, iter, ifs, 0⟩] scope pos) spos) (sSet i (kCompO iO g c0 f (own.map (·.2)))) :=
  ps_setLcI hio c.calm c.nd hy hyl hsw hi (blkOk_by ok) hg ht he hs fun _ _ _ => tLc_O hts
end
end
end KV
/-! ### texts alone, == and != -/
namespace KV
open PySem L2
open PySem.Spec PyProof.Rows
def pEqS : D → D → R L
  | .str a, .str b => bl (decide (a = b))
  | _, _ => .no
def pNeS : D → D → R L
  | .str a, .str b => bl (!decide (a = b))
  | _, _ => .no
section
variable {w : Wd} {k : Nat} {X : Cx} {pos : Pos} {a b : Expr} {f f' : EV}
theorem dec_strV {x y : Str} : decide (V.str x = V.str y) = decide (x = y) := by
  by_cases h : x = y
  · subst h; simp
  · rw [decide_eq_false h, decide_eq_false (fun z => h (V.str.inj z))]
theorem u_eqS : U2 w rEq pEqS := by
  intro σ H Hf s φ v u d e l Q g r1 r2 hp q
  unfold pEqS at hp
  split at hp
  · cases hp
    rw [r1.str, r2.str]
    exact ⟨rfl, by rw [dec_strV]; exact q.d g (.bl _)⟩
  · cases hp
theorem u_neS : U2 w rNe pNeS := by
  intro σ H Hf s φ v u d e l Q g r1 r2 hp q
  unfold pNeS at hp
  split at hp
  · cases hp
    rw [r1.str, r2.str]
    exact ⟨rfl, by rw [dec_strV]; exact q.d g (.bl _)⟩
  · cases hp
theorem ge_eqS (ha : GE w X a f) (hb : GE w X b f') (hm : behindInMarks .Eq b = false := by rfl) : GE w X (.Compare a [.Eq] [b] pos) (k2 pEqS f f') := ge_cmp op_eq u_eqS ha hb hm
theorem ge_neS (ha : GE w X a f) (hb : GE w X b f') (hm : behindInMarks .NotEq b = false := by rfl) : GE w X (.Compare a [.NotEq] [b] pos) (k2 pNeS f f') := ge_cmp op_ne u_neS ha hb hm
theorem gb_eqS (ha : GE w X a f) (hb : GE w X b f') (hm : behindInMarks .Eq b = false := by rfl) : GB w X (.Compare a [.Eq] [b] pos) (bVal (k2 pEqS f f')) := gb_cmp op_eq u_eqS ha hb hm
theorem gb_neS (ha : GE w X a f) (hb : GE w X b f') (hm : behindInMarks .NotEq b = false := by rfl) : GB w X (.Compare a [.NotEq] [b] pos) (bVal (k2 pNeS f f')) := gb_cmp op_ne u_neS ha hb hm
end
end KV

set_option Elab.async false
set_option linter.all false
set_option maxRecDepth 100000
set_option maxHeartbeats 4000000
/-! KVU: dict(zip(a, b)) of two tuples. -/
namespace KV
open PySem L2
open PySem.Spec PyProof.Rows
section
variable {prog : Program} {w : World} {A : Around} {E : Value → Shared → Prop} {s : Shared} {z TI TO T i1 i2 l1 l2 : Addr} {f : Bool} {oT : Obj} {n1 n2 : Nat} {us vs : Array Value}
theorem dz_item {x y : Value} {Q : Value → Shared → Prop} (D : ZipApart z TI TO i1 i2 l1 l2) (gz : IsZipHeld s.heap z TI TO T f) (gT : s.heap.get? T = some oT) (gI : IsPair s.heap TI (.ref i1) (.ref i2))
    (ga : s.heap.IsTupleIter i1 l1 n1) (gb : s.heap.IsTupleIter i2 l2 n2) (gl : s.heap.IsTuple l1 us) (gm : s.heap.IsTuple l2 vs) (ex : us[n1]? = some x) (ey : vs[n2]? = some y)
    (q : ∀ h', IsZipHeld h' z TI TO T true → h'.IsTupleIter i1 l1 (n1 + 1) → h'.IsTupleIter i2 l2 (n2 + 1) → IsPair h' s.heap.objs.size x y → (∀ c o, c ≠ z → c ≠ i1 → c ≠ i2 → s.heap.get? c = some o → h'.get? c = some o) → Q (.ref s.heap.objs.size) { s with heap := h' }) :
    wpAny (model prog w) A (Builtin.«zip.__next__» ⟨[.ref z], []⟩) (fun fin t => ∃ v, fin = .done (.ret v) ∧ Q v t) E s := by
  show wpAny _ _ (field (.ref z) 2 >>= _) _ _ _; refine wpAny_bind (wpAny_field gz rfl (x := .bool false) rfl ?_)
  show wpAny _ _ (field (.ref z) 3 >>= _) _ _ _; refine wpAny_bind (wpAny_field gz rfl (x := .ref TI) rfl (wpAny_bind (wpAny_seqItems gI rfl ?_)))
  show wpAny _ _ (Builtin.SmallTypes.ownedTupleIsFree (.ref z) >>= _) _ _ _; refine wpAny_bind (wpAny_tupleHeld_zip gz gT fun g1 z1 b1 => ?_)
  simp only [Bool.false_eq_true, if_false]; refine wpAny_bind ?_; rw [← Array.forIn_toList]; simp only [List.forIn_cons, List.forIn_nil]
  refine wpAny_bind (wpAny_bind (wpAny_holding ?_)); show wpAny _ _ (Builtin.SmallTypes.nextOf (.ref i1) >>= _) _ _ _
  refine wpAny_bind (RZ.nextOf_tuple_item (s := { s with heap := g1 }) (ga.extBut b1.extBut D.i1z) (gl.extBut b1.extBut D.l1z) ex fun g2 a2 b2 => wpAny_pure (wpAny_pure ?_))
  refine wpAny_bind (wpAny_bind (wpAny_holding ?_)); show wpAny _ _ (Builtin.SmallTypes.nextOf (.ref i2) >>= _) _ _ _
  refine wpAny_bind (RZ.nextOf_tuple_item (s := { s with heap := g2 }) ((gb.extBut b1.extBut D.i2z).extBut b2.extBut D.i12.symm) ((gm.extBut b1.extBut D.l2z).extBut b2.extBut D.l2i1) ey fun g3 a3 b3 => wpAny_pure (wpAny_pure (wpAny_pure ?_)))
  show wpAny _ _ (newTuple [x, y] >>= _) _ _ _; refine wpAny_bind (wpAny_newTuple ?_)
  have hs : g3.objs.size = s.heap.objs.size := by rw [b3.1, b2.1, b1.1]
  have z3 : IsZipHeld g3 z TI TO T true := b3.extBut _ _ D.i2z.symm (b2.extBut _ _ D.i1z.symm z1)
  have old : ∀ c o, c ≠ z → c ≠ i1 → c ≠ i2 → s.heap.get? c = some o → g3.get? c = some o := fun c o e1 e2 e3 e => b3.extBut _ _ e3 (b2.extBut _ _ e2 (b1.extBut _ _ e1 e))
  have a23 : g3.IsTupleIter i1 l1 (n1 + 1) := a2.extBut b3.extBut D.i12
  refine wpAny_pure ⟨_, rfl, ?_⟩; show Q (.ref g3.objs.size) _
  have pr : IsPair (g3.push { cls := .type "tuple", data := .seq #[x, y] }) g3.objs.size x y := Heap.get?_push_size _ rfl
  rw [hs] at pr ⊢
  exact q _ (Heap.get?_push_of_some _ z3) (a23.at fun o e => Heap.get?_push_of_some _ e) (a3.at fun o e => Heap.get?_push_of_some _ e) pr fun c o e1 e2 e3 e => Heap.get?_push_of_some _ (old c o e1 e2 e3 e)
theorem dz_end {Q : Fin → Shared → Prop} (hh : A.handled = none) (D : ZipApart z TI TO i1 i2 l1 l2) (gz : IsZipHeld s.heap z TI TO T f) (gT : s.heap.get? T = some oT) (gI : IsPair s.heap TI (.ref i1) (.ref i2))
    (ga : s.heap.IsTupleIter i1 l1 n1) (gb : s.heap.IsTupleIter i2 l2 n2) (gl : s.heap.IsTuple l1 us) (gm : s.heap.IsTuple l2 vs) (none_ : us[n1]? = none ∨ vs[n2]? = none)
    (q : ∀ h' e, (∀ c o, c ≠ z → c ≠ i1 → c ≠ i2 → s.heap.get? c = some o → h'.get? c = some o) → (∃ o, h'.get? e = some o ∧ o.cls = .type "StopIteration") → E (.ref e) { s with heap := h' }) :
    wpAny (model prog w) A (Builtin.«zip.__next__» ⟨[.ref z], []⟩) Q E s := by
  show wpAny _ _ (field (.ref z) 2 >>= _) _ _ _; refine wpAny_bind (wpAny_field gz rfl (x := .bool false) rfl ?_)
  show wpAny _ _ (field (.ref z) 3 >>= _) _ _ _; refine wpAny_bind (wpAny_field gz rfl (x := .ref TI) rfl (wpAny_bind (wpAny_seqItems gI rfl ?_)))
  show wpAny _ _ (Builtin.SmallTypes.ownedTupleIsFree (.ref z) >>= _) _ _ _; refine wpAny_bind (wpAny_tupleHeld_zip gz gT fun g1 z1 b1 => ?_)
  simp only [Bool.false_eq_true, if_false]; refine wpAny_bind ?_; rw [← Array.forIn_toList]; simp only [List.forIn_cons, List.forIn_nil]
  refine wpAny_bind (wpAny_bind (wpAny_holding ?_)); show wpAny _ _ (Builtin.SmallTypes.nextOf (.ref i1) >>= _) _ _ _
  cases ex : us[n1]? with
  | none => exact wpAny_bind (RZ.nextOf_tuple_end (s := { s with heap := g1 }) hh (ga.extBut b1.extBut D.i1z) (gl.extBut b1.extBut D.l1z) ex fun g2 e b2 o => q g2 e (fun c o e1 e2 _ x => b2 _ _ e2 (b1.extBut _ _ e1 x)) o)
  | some x =>
    have ey : vs[n2]? = none := none_.resolve_left (by rw [ex]; exact fun z => nomatch z)
    refine wpAny_bind (RZ.nextOf_tuple_item (s := { s with heap := g1 }) (ga.extBut b1.extBut D.i1z) (gl.extBut b1.extBut D.l1z) ex fun g2 a2 b2 => wpAny_pure (wpAny_pure ?_))
    refine wpAny_bind (wpAny_bind (wpAny_holding ?_)); show wpAny _ _ (Builtin.SmallTypes.nextOf (.ref i2) >>= _) _ _ _
    exact wpAny_bind (RZ.nextOf_tuple_end (s := { s with heap := g2 }) hh ((gb.extBut b1.extBut D.i2z).extBut b2.extBut D.i12.symm) ((gm.extBut b1.extBut D.l2z).extBut b2.extBut D.l2i1) ey fun g3 e b3 o => q g3 e (fun c o e1 e2 e3 x => b3 _ _ e3 (b2.extBut _ _ e2 (b1.extBut _ _ e1 x))) o)
theorem dz_next {x y : Value} {Q : Option Value → Shared → Prop} (D : ZipApart z TI TO i1 i2 l1 l2) (gz : IsZipHeld s.heap z TI TO T f) (gT : s.heap.get? T = some oT) (gI : IsPair s.heap TI (.ref i1) (.ref i2))
    (ga : s.heap.IsTupleIter i1 l1 n1) (gb : s.heap.IsTupleIter i2 l2 n2) (gl : s.heap.IsTuple l1 us) (gm : s.heap.IsTuple l2 vs) (ex : us[n1]? = some x) (ey : vs[n2]? = some y)
    (q : ∀ h', IsZipHeld h' z TI TO T true → h'.IsTupleIter i1 l1 (n1 + 1) → h'.IsTupleIter i2 l2 (n2 + 1) → IsPair h' s.heap.objs.size x y → (∀ c o, c ≠ z → c ≠ i1 → c ≠ i2 → s.heap.get? c = some o → h'.get? c = some o) → Q (some (.ref s.heap.objs.size)) { s with heap := h' }) :
    wpAny (model prog w) A (pyNext (.ref z)) Q E s := by
  have ty : s.TypeIs (.ref z) "zip" := ⟨_, gz, rfl⟩
  unfold pyNext
  exact wpAny_bind (wpAny_attempt (wpAny_callSpecial?_slot (name := Str.ofString "__next__") ty PySem.F.slot_zip_next (wpAny_call_entry PySem.F.slot_zip_next ty PySem.F.entry_zip_next (dz_item D gz gT gI ga gb gl gm ex ey fun h' a1 a2 a3 a4 a5 => wpAny_pure (q h' a1 a2 a3 a4 a5)) (PySem.F.args_zip_next_1 _))))
theorem dz_stop {Q : Option Value → Shared → Prop} (hh : A.handled = none) (D : ZipApart z TI TO i1 i2 l1 l2) (gz : IsZipHeld s.heap z TI TO T f) (gT : s.heap.get? T = some oT) (gI : IsPair s.heap TI (.ref i1) (.ref i2))
    (ga : s.heap.IsTupleIter i1 l1 n1) (gb : s.heap.IsTupleIter i2 l2 n2) (gl : s.heap.IsTuple l1 us) (gm : s.heap.IsTuple l2 vs) (none_ : us[n1]? = none ∨ vs[n2]? = none)
    (q : ∀ h', (∀ c o, c ≠ z → c ≠ i1 → c ≠ i2 → s.heap.get? c = some o → h'.get? c = some o) → Q none { s with heap := h' }) : wpAny (model prog w) A (pyNext (.ref z)) Q E s := by
  have ty : s.TypeIs (.ref z) "zip" := ⟨_, gz, rfl⟩
  unfold pyNext
  refine wpAny_bind (wpAny_attempt (wpAny_callSpecial?_slot (name := Str.ofString "__next__") ty PySem.F.slot_zip_next (wpAny_call_entry PySem.F.slot_zip_next ty PySem.F.entry_zip_next (dz_end hh D gz gT gI ga gb gl gm none_ fun h' e k o => ?_) (PySem.F.args_zip_next_1 _))))
  obtain ⟨o, ho, hc⟩ := o
  exact wpAny_bind (wpAny_isInstance (T := "StopIteration") (b := true) ⟨o, ho, hc⟩ isSubtype_stop (wpAny_pure (q _ k)))
/-- where the zip stands behind i pairs, while a dict is filled at d -/
def dzAt (z TI TO i1 i2 l1 l2 d : Addr) (us vs : Array Value) (i : Nat) (h : Heap) : Prop :=
  IsPair h TI (.ref i1) (.ref i2) ∧ h.IsTupleIter i1 l1 i ∧ h.IsTupleIter i2 l2 i ∧ h.IsTuple l1 us ∧ h.IsTuple l2 vs ∧
    ((IsZip h z TI TO .none ∧ ∃ a b, IsPair h TO a b) ∨ ∃ T f oT, IsZipHeld h z TI TO T f ∧ h.get? T = some oT ∧ T ≠ z ∧ T ≠ i1 ∧ T ≠ i2 ∧ T ≠ d)
def dzOk (z TI TO i1 i2 l1 l2 : Addr) (us vs : Array Value) (h : Heap) : Prop :=
  IsZip h z TI TO .none ∧ IsPair h TI (.ref i1) (.ref i2) ∧ (∃ a b, IsPair h TO a b) ∧ h.IsTupleIter i1 l1 0 ∧ h.IsTupleIter i2 l2 0 ∧ h.IsTuple l1 us ∧ h.IsTuple l2 vs
theorem dz_src (hA : A.handled = none) (D : ZipApart z TI TO i1 i2 l1 l2) {d : Addr} (off : d ∉ [z, TI, TO, i1, i2, l1, l2]) : PairSrc prog w A z d [z, TO, i1, i2] (min us.size vs.size) (fun i k v => us[i]? = some k ∧ vs[i]? = some v) (dzAt z TI TO i1 i2 l1 l2 d us vs) := by
  simp only [List.mem_cons, List.not_mem_nil, or_false, not_or] at off
  obtain ⟨dz, dI, dO, d1, d2, e1, e2⟩ := off
  refine ⟨by simp only [List.mem_cons, List.not_mem_nil, or_false, not_or]; exact ⟨dz, dO, d1, d2⟩, fun i h h' st k => ?_, fun i s Q E hi st hd q => ?_, fun s Q E st q => ?_⟩
  · obtain ⟨gI, ga, gb, gl, gm, gz⟩ := st
    refine ⟨k _ _ (Ne.symm dI) gI, ga.at fun o e => k _ o (Ne.symm d1) e, gb.at fun o e => k _ o (Ne.symm d2) e, gl.at fun o e => k _ o (Ne.symm e1) e, gm.at fun o e => k _ o (Ne.symm e2) e, ?_⟩
    rcases gz with ⟨gz, a, b, gO⟩ | ⟨T, f, oT, gz, gT, r1, r2, r3, r4⟩
    · exact .inl ⟨k _ _ (Ne.symm dz) gz, a, b, k _ _ (Ne.symm dO) gO⟩
    · exact .inr ⟨T, f, oT, k _ _ (Ne.symm dz) gz, k _ _ r4 gT, r1, r2, r3, r4⟩
  · obtain ⟨gI, ga, gb, gl, gm, gz⟩ := st
    have ex := Array.getElem?_eq_getElem (Nat.lt_of_lt_of_le hi (Nat.min_le_left us.size vs.size))
    have ey := Array.getElem?_eq_getElem (Nat.lt_of_lt_of_le hi (Nat.min_le_right us.size vs.size))
    have new : ∀ {c o}, s.heap.get? c = some o → s.heap.objs.size ≠ c := fun e => Nat.ne_of_gt (Heap.lt_size e)
    have m1 : s.heap.objs.size ≠ i1 := let ⟨_, e, _⟩ := ga; new e
    have m2 : s.heap.objs.size ≠ i2 := let ⟨_, e, _⟩ := gb; new e
    rcases gz with ⟨gz, a, b, gO⟩ | ⟨T, f, oT, gz, gT, r1, r2, r3, r4⟩
    · refine RZ.pyNext_zipT_item D gz gI gO ga gb gl gm ex ey fun h' a1 a2 a3 a4 a5 a6 k => ?_
      refine q s.heap.objs.size _ _ h' s.toks ⟨ex, ey⟩ (.inl ⟨_, a5, rfl, _, rfl⟩) ⟨k _ _ D.TIz D.TITO D.TIi1 D.TIi2 gI, a3, a4, gl.at fun o e => k _ o D.l1z D.l1TO D.l1i1 D.l1i2 e, gm.at fun o e => k _ o D.l2z D.l2TO D.l2i1 D.l2i2 e, .inr ⟨s.heap.objs.size, false, _, a1, a5, new gz, m1, m2, Nat.ne_of_gt hd⟩⟩ fun c o hc e => ?_
      exact k c o (fun y => hc (by rw [y]; simp)) (fun y => hc (by rw [y]; simp)) (fun y => hc (by rw [y]; simp)) (fun y => hc (by rw [y]; simp)) e
    · refine dz_next D gz gT gI ga gb gl gm ex ey fun h' a1 a3 a4 a5 k => ?_
      refine q s.heap.objs.size _ _ h' s.toks ⟨ex, ey⟩ (.inl ⟨_, a5, rfl, _, rfl⟩) ⟨k _ _ D.TIz D.TIi1 D.TIi2 gI, a3, a4, gl.at fun o e => k _ o D.l1z D.l1i1 D.l1i2 e, gm.at fun o e => k _ o D.l2z D.l2i1 D.l2i2 e, .inr ⟨T, true, oT, a1, k _ _ r1 r2 r3 gT, r1, r2, r3, r4⟩⟩ fun c o hc e => ?_
      exact k c o (fun y => hc (by rw [y]; simp)) (fun y => hc (by rw [y]; simp)) (fun y => hc (by rw [y]; simp)) e
  · obtain ⟨gI, ga, gb, gl, gm, gz⟩ := st
    have none_ : us[min us.size vs.size]? = none ∨ vs[min us.size vs.size]? = none := (Nat.le_total us.size vs.size).imp (fun h => Array.getElem?_eq_none (by omega)) fun h => Array.getElem?_eq_none (by omega)
    rcases gz with ⟨gz, a, b, gO⟩ | ⟨T, f, oT, gz, gT, r1, r2, r3, r4⟩
    · exact RZ.pyNext_zipT_end hA D gz gI gO ga gb gl gm none_ fun h' k => q h' s.toks fun c o hc e => k c o (fun y => hc (by rw [y]; simp)) (fun y => hc (by rw [y]; simp)) (fun y => hc (by rw [y]; simp)) (fun y => hc (by rw [y]; simp)) e
    · exact dz_stop hA D gz gT gI ga gb gl gm none_ fun h' k => q h' s.toks fun c o hc e => k c o (fun y => hc (by rw [y]; simp)) (fun y => hc (by rw [y]; simp)) (fun y => hc (by rw [y]; simp)) e
theorem dz_arg (D : ZipApart z TI TO i1 i2 l1 l2) : PairArg prog w "zip" z [z, TI, TO, i1, i2, l1, l2] [z, TO, i1, i2] (min us.size vs.size) (fun i k v => us[i]? = some k ∧ vs[i]? = some v) (dzOk z TI TO i1 i2 l1 l2 us vs) where
  type := fun s ok => ⟨_, ok.1, rfl⟩
  notDict := by decide
  keep := fun h h' ⟨gz, gI, ⟨a, b, gO⟩, ga, gb, gl, gm⟩ k => ⟨k _ _ gz, k _ _ gI, ⟨a, b, k _ _ gO⟩, ga.at fun o e => k _ o e, gb.at fun o e => k _ o e, gl.at fun o e => k _ o e, gm.at fun o e => k _ o e⟩
  there := fun h ⟨gz, gI, ⟨a, c, gO⟩, ⟨o1, ga, _⟩, ⟨o2, gb, _⟩, ⟨o3, gl, _⟩, ⟨o4, gm, _⟩⟩ b hb => by
    simp only [List.mem_cons, List.not_mem_nil, or_false] at hb
    rcases hb with rfl | rfl | rfl | rfl | rfl | rfl | rfl
    · exact ⟨_, gz⟩
    · exact ⟨_, gI⟩
    · exact ⟨_, gO⟩
    · exact ⟨_, ga⟩
    · exact ⟨_, gb⟩
    · exact ⟨_, gl⟩
    · exact ⟨_, gm⟩
  sub := fun b hb => by
    simp only [List.mem_cons, List.not_mem_nil, or_false] at hb ⊢
    rcases hb with rfl | rfl | rfl | rfl <;> simp
  noKeys := fun A s Q E hA ok h => getAttrOr_miss_zip ok.1 rfl rfl rfl zip_no_keys (by decide +kernel) hA h
  iter := fun A s d Q E hA ⟨gz, gI, gO, ga, gb, gl, gm⟩ hd off h => wpAny_pyIter_zip gz (h z [z, TO, i1, i2] _ s.heap s.toks (dz_src hA D off) ⟨gI, ga, gb, gl, gm, .inl ⟨gz, gO⟩⟩ (fun _ _ e => e) fun b hb => .inl hb)
end
/-! ### the expression -/
def kDictZip (f g : EV) : EV := fun s => (kD f s).bind fun r => (kD g r.2).bind fun q => match r.1, q.1 with
  | .tuple xs, .tuple ys => if xs.all (fun x => (keyOf x).isSome) then .ok (.t (.dct (mergeD [] (xs.zip ys))), q.2) else .no
  | _, _ => .no
def tDz (K : PySem.W.Frag) (ta : TA) : TE := fun σ H Q => ta σ H fun vs H1 => ∃ (a b : Addr) (ks : List Key) (ys : List V), vs = [.ref a, .ref b] ∧ SqT K H1 a (ks.map kV) ∧ SqT K H1 b ys ∧ ∀ p, H1 p = none → Q (.ref p) (upd H1 p (.dK (mergeK [] (ks.zip ys))))
theorem zip_kv : ∀ (ks : List Key) {ys : List V} {us : List Value}, Vals ys us → L2.KV (ks.zip ys) (ks.zip us)
  | [], _, _, _ => .nil
  | _ :: _, _, _, .nil => .nil
  | _ :: ks, _, _, .cons r t => .cons ⟨rfl, r⟩ (zip_kv ks t)
section
variable {w : Wd} {k : Nat} {X : Cx} {pos : Pos} {σ : L2.St} {H Hf : Hp} {s s' : Sl} {φ : Nat → List Addr} {Q : VK}
theorem pe_dz {e e2 : Expr} {ta : TA} {p p2 pos2 : Pos} (hcalm : X.calm = true) (hg : Gl X "dict") (hm : X.mg "dict" = none) (hg2 : Gl X "zip") (hm2 : X.mg "zip" = none) (ha : PA X [e, e2] ta)
    (hs : starEach [e, e2] X.env = (false, eval e X.env) :: starEach [e2] X.env) (hpl : (backTo pos2 (starEach [e2] X.env)).any (·.1) = false)
    (hs2 : starEach [.Call (.Name "zip" p2) [e, e2] [] pos2] X.env = (false, eval (.Call (.Name "zip" p2) [e, e2] [] pos2) X.env) :: starEach [] X.env) :
    PE X (.Call (.Name "dict" p) [.Call (.Name "zip" p2) [e, e2] [] pos2] [] pos) (tDz X.K ta) := by
  refine ⟨fun pins s σ H Q I h => ?_⟩
  refine Call_ (ld_blt I hg hm boot_dict (PyProof.Rows.callWith_type1 (args_cons (Call_ (ld_blt I hg2 hm2 PyProof.Rows.boot_zip (PyProof.Rows.callWith_type1 (thn (ha.run pos2 pins s σ H _ I h) fun us s1 ⟨vs, H1, I1, r1, q1⟩ => ?_) hs hpl))) hs2) hs2 rfl))
  obtain ⟨a, b, ks, ys, ex, hx, hy, q⟩ := q1
  subst ex
  cases r1 with
  | cons r rr =>
    cases rr with
    | cons r' rr =>
      cases rr
      cases r
      cases r'
      obtain ⟨it1, v1, t1, z1⟩ := I1.tuple hx
      obtain ⟨it2, v2, t2, z2⟩ := I1.tuple hy
      obtain ⟨o1, e1, _⟩ := id t1
      obtain ⟨o2, e2', _⟩ := id t2
      have l1 : it1.length = ks.length := by rw [← v1.length, List.length_map]
      have l2 : it2.length = ys.length := v2.length.symm
      refine RZ.call_zipT (show s1.heap.IsTuple a it1.toArray from t1) (show s1.heap.IsTuple b it2.toArray from t2) fun h' gz gI gO ga gb hsz hk => args_nil ?_
      have D := PySem.W.ktu_apart s1.heap.objs.size a b (Heap.lt_size e1) (Heap.lt_size e2')
      refine PySem.call_dict_pairs (s := { s1 with heap := h' }) (knd := mixKind X.prog X.w) (kvs := ks.zip it2) (dz_arg (us := it1.toArray) (vs := it2.toArray) D) (I1.ok.hd hcalm)
        ⟨gz, gI, ⟨_, _, gO⟩, ga, gb, (show s1.heap.IsTuple a it1.toArray from t1).at fun o e => hk _ o e, (show s1.heap.IsTuple b it2.toArray from t2).at fun o e => hk _ o e⟩ ⟨?_, fun i key v h => ?_⟩ ?_ fun g' tk hd' kp => ?_
      · rw [List.length_zip, List.size_toArray, List.size_toArray, l1]
      · obtain ⟨h1, h2⟩ := h
        have h1' : it1[i]? = some key := by simpa using h1
        have h2' : it2[i]? = some v := by simpa using h2
        have hi : i < ks.length := by rw [← l1]; exact (List.getElem?_eq_some_iff.mp h1').1
        obtain ⟨u, hu, ru⟩ := v1.get (show (ks.map kV)[i]? = some (kV ks[i]) by rw [List.getElem?_map, List.getElem?_eq_getElem hi]; rfl)
        rw [h1'] at hu
        cases hu
        exact ⟨ks[i], by rw [List.getElem?_zip_eq_some]; exact ⟨List.getElem?_eq_getElem hi, h2'⟩, kV_is (P := X.prog) (w := X.w) ru⟩
      · rw [List.size_toArray, List.size_toArray]
        exact Nat.le_trans (Nat.min_le_left _ _) (by rw [← v1.length]; exact z1)
      · have old : ∀ c o, s1.heap.get? c = some o → g'.get? c = some o := fun c o e => by
          have hc := Heap.lt_size e
          refine kp c o (fun hm => ?_) (hk c o e)
          simp only [List.mem_cons, List.not_mem_nil, or_false] at hm
          rcases hm with z | z | z | z
          · exact absurd hc (by rw [z]; exact Nat.not_lt.mpr (Nat.le_add_right _ _))
          · exact absurd hc (by rw [z]; exact Nat.not_lt.mpr (Nat.le_add_right _ _))
          · exact absurd hc (by rw [z]; exact Nat.lt_irrefl _)
          · exact absurd hc (by rw [z]; exact Nat.not_lt.mpr (Nat.le_add_right _ _))
        have hbig : (h'.objs.size == sysModules) = false := beq_eq_false_iff_ne.mpr (Nat.ne_of_gt (Nat.lt_of_lt_of_le I1.big (by rw [hsz]; exact Nat.le_add_right _ _)))
        have hlen : (mergeK [] (ks.zip ys)).length ≤ sizeLine := by
          refine Nat.le_trans (length_mergeK _ []) ?_
          rw [List.length_nil, Nat.zero_add, List.length_zip, ← l1]
          exact Nat.le_trans (Nat.min_le_left _ _) (by rw [← v1.length]; exact z1)
        exact ⟨.ref h'.objs.size, upd H1 h'.objs.size (.dK (mergeK [] (ks.zip ys))), I1.laid (t' := tk) old (by rw [hsz]; exact Nat.le_add_right _ _) (show ObjOk X.prog X.w _ _ _ (.dK (mergeK [] (ks.zip ys))) from ⟨hlen, hbig, merged [] (ks.zip it2), L2.KV.merge (zip_kv ks v2) .nil, hd'⟩), rfl, q _ (I1.hok.fresh (by rw [hsz]; exact Nat.le_add_right _ _))⟩
theorem keys_rp {K : PySem.W.Frag} : ∀ {vs : List V} {xs : List D}, RpA K Hf vs xs → xs.all (fun x => (keyOf x).isSome) = true → ∃ ks : List Key, vs = ks.map kV ∧ xs = ks.map keyD
  | _, _, .nil, _ => ⟨[], rfl, rfl⟩
  | _, _, .cons r t, h => by
    rw [List.all_cons, Bool.and_eq_true] at h
    obtain ⟨ks, rfl, rfl⟩ := keys_rp t h.2
    obtain ⟨ky, hk⟩ := Option.isSome_iff_exists.mp h.1
    have e := keyOf_some hk
    subst e
    have ev := (Rw.st (H := Hf) r).key
    subst ev
    exact ⟨ky :: ks, rfl, rfl⟩
theorem zip_rp {K : PySem.W.Frag} : ∀ (ks : List Key) {us : List V} {ys : List D}, RpA K Hf us ys → RpKv K Hf (ks.zip us) ((ks.map keyD).zip ys)
  | [], _, _, _ => .nil
  | _ :: _, _, _, .nil => .nil
  | _ :: ks, _, _, .cons r t => .cons r (zip_rp ks t)
theorem ge_dictZip (hm : X.mg "dict" = none) (hm2 : X.mg "zip" = none) (c : Cok w k X) {e e2 : Expr} {f f' : EV} {p p2 pos2 : Pos} (he : GE w X e f) (he2 : GE w X e2 f') (hg : Gl X "dict" := by rfl) (hg2 : Gl X "zip" := by rfl)
    (hs : starEach [e, e2] X.env = (false, eval e X.env) :: starEach [e2] X.env := by rfl) (hs2 : starEach [e2] X.env = (false, eval e2 X.env) :: starEach [] X.env := by rfl) (hpl : (backTo pos2 (starEach [e2] X.env)).any (·.1) = false := by rfl)
    (hs3 : starEach [.Call (.Name "zip" p2) [e, e2] [] pos2] X.env = (false, eval (.Call (.Name "zip" p2) [e, e2] [] pos2) X.env) :: starEach [] X.env := by rfl) :
    GE w X (.Call (.Name "dict" p) [.Call (.Name "zip" p2) [e, e2] [] pos2] [] pos) (kDictZip f f') := by
  refine pe_imp (pe_dz c.calm hg hm hg2 hm2 (pa_cons he (pa_cons he2 pa_nil hs2) hs) hs hpl hs3) fun σ H Q => ?_
  rintro ⟨Hf, s, φ, l, s', gd, e, q⟩
  obtain ⟨⟨d, s1⟩, h1, h2⟩ := R.bind_eq_ok.mp e
  obtain ⟨⟨d2, s2⟩, h3, h4⟩ := R.bind_eq_ok.mp h2
  refine tE_D gd h1 fun v H1 Hf1 φ1 g1 r1 k1 => tE_D g1 h3 fun v2 H2 Hf2 φ2 g2 r2 k2 => ?_
  have k12 := k1.trans k2 (fun _ => id) fun x hx => g1.own_free hx
  have r1' := r1.mono k2.sub
  simp only at h4
  split at h4
  · split at h4
    · rename_i hall
      cases h4
      cases r1' with
      | tup h r =>
        cases r2 with
        | tup h' r' =>
          obtain ⟨ks, rfl, rfl⟩ := keys_rp r hall
          exact ⟨_, _, ks, _, rfl, by rw [c.K]; exact (g2.sub.stup h).sq, by rw [c.K]; exact (g2.sub.stup h').sq, fun p hp => (q.later k12 (fun _ => id) g2).dct g2 (merge_rp (zip_rp ks r') .nil) hp⟩
    · cases h4
  · cases h4
end
end KV

set_option Elab.async false
set_option linter.all false
set_option maxRecDepth 100000
set_option maxHeartbeats 4000000
/-! KVW: range(a, b, -1); xs.count(x); a tuple of texts that a module holds. -/
namespace KV
open PySem L2
open PySem.Spec PyProof.Rows
section
variable {w : Wd} {k : Nat} {X : Cx} {pos : Pos} {σ : L2.St} {H Hf : Hp} {s s' : Sl} {φ : Nat → List Addr} {Q : VK}
/-! ### range downwards -/
def intDn (lo : Int) (n : Nat) : List D := (List.range n).map fun i => .int (lo + (i : Nat) * (-1))
def iRgD (f g : EV) : IV := fun s => (kD f s).bind fun r => (kD g r.2).bind fun q => match r.1, q.1 with
  | .int a, .int b => if (-16000000 ≤ a ∧ a ≤ 16000000) ∧ (-16000000 ≤ b ∧ b ≤ 16000000) then .ok (intDn a (a - b).toNat, q.2) else .no
  | _, _ => .no
theorem intDn_len {lo : Int} {n : Nat} : (intDn lo n).length = n := by simp [intDn]
theorem wk_rngD {lo : Int} {n : Nat} : Wk w (Itc lo (-1) n) (intDn lo n) Hf := by
  refine ⟨fun i H Hf2 s1 s2 hi => by rw [intDn_len] at hi; exact hi, fun H Hf2 s1 s2 => by rw [intDn_len]; exact Nat.le_refl _, fun i H Hf2 x H' d s1 s2 hd y => ?_⟩
  simp only [intDn, List.getElem?_map, List.getElem?_range, Option.map_eq_some_iff] at hd
  obtain ⟨j, h1, rfl⟩ := hd
  obtain ⟨h3, h4⟩ := List.getElem?_eq_some_iff.mp h1
  simp at h3 h4
  subst h4
  obtain ⟨rfl, rfl⟩ := y
  exact ⟨rfl, .int _⟩
theorem gi_rgD {tg a b : Expr} {p p3 : Pos} {f f' : EV} (c : Cok w k X) (hm : X.mg "range" = none) (ha : GE w X a f) (hb : GE w X b f') {e3 : Expr} (h3 : GE w X e3 (k1 pNeg (kC (.int 1)))) (hg : Gl X "range" := by rfl)
    (hs : starEach [a, b, e3] X.env = (false, eval a X.env) :: starEach [b, e3] X.env := by rfl) (hs2 : starEach [b, e3] X.env = (false, eval b X.env) :: starEach [e3] X.env := by rfl) (hs3 : starEach [e3] X.env = (false, eval e3 X.env) :: starEach [] X.env := by rfl) (hpl : (backTo p3 (starEach [b, e3] X.env)).any (·.1) = false := by rfl) :
    GI w X tg (.Call (.Name "range" p) [a, b, e3] [] p3) (iRgD f f') := by
  refine pi_imp (pi_range3 hg hm (pa_cons ha (pa_cons hb (pa_cons h3 pa_nil hs3) hs2) hs) hs hpl) fun σ H Rv => ?_
  rintro ⟨Hf, s, φ, ds, s', gd, e, q⟩
  obtain ⟨⟨d, s1⟩, h1, h2⟩ := R.bind_eq_ok.mp e
  obtain ⟨⟨d2, s2⟩, h4, h5⟩ := R.bind_eq_ok.mp h2
  refine tE_D gd h1 fun v H1 Hf1 φ1 g1 r1 k1 => tE_D g1 h4 fun v2 H2 Hf2 φ2 g2 r2 k2 => ?_
  have h6 : kD (KV.k1 pNeg (kC (.int 1))) s2 = .ok (.int (-1), s2) := rfl
  refine tE_D g2 h6 fun v3 H3 Hf3 φ3 g3 r3 k3 => ?_
  simp only at h5
  split at h5
  · split at h5
    · rename_i hb
      cases h5
      cases r1
      cases r2
      cases r3
      refine ⟨_, _, _, _, rfl, RgC.neg (by omega) (by omega) (by omega) (by omega), q _ H3 Hf3 φ3 g3 ((k1.trans k2 (fun _ => id) fun x hx => g1.own_free hx).trans k3 (fun _ => id) fun x hx => g2.own_free hx) wk_rngD⟩
    · cases h5
  · cases h5
/-! ### count -/
def rCntD (K : PySem.W.Frag) : V → List V → Hp → VK → Prop := fun x xs H Q => ∃ (y : V) (d : D) (ds : List D), xs = [y] ∧ Dp K H x (.list ds) ∧ SeqAt.shaped (.list ds) = true ∧ Dp K H y d ∧ SeqAt.shaped d = true ∧ Q (.int ((ds.countP fun z => PyData.eqv z d : Nat) : Int)) H
theorem mt_countD (c : Cok w k X) : MtR X "list.count" (rCntD X.K) := by
  intro pins s σ H x xs v us Q I rx rxs ⟨y, d, ds, exs, hl, sl, hy, sd, q⟩
  subst exs
  obtain ⟨uy, rfl, ry⟩ := vals1 rxs
  obtain ⟨bs, r1⟩ := Dp.reads I d y uy hy ry
  have hxs : PyData.canLayAll0 ds = true := by have := SeqAt.canLay_of_shaped sl; simpa only [PyData.canLay0] using this
  have hroom : X.A.units + 1 + min (PyData.depthAll ds) d.depth < cLine := room_in_shaped sd (by have := c.u; omega)
  cases hl with
  | lst hs ha =>
    cases rx
    obtain ⟨its, rv, ⟨⟨cls, dd, data, sls⟩, n, ho, hc, hdn, hdt⟩, hlen⟩ := I.list hs
    simp only at hc hdt
    subst hc hdt
    obtain ⟨as, h4⟩ := Dp.readsAll I ds _ its ha rv
    have hmap : its.map (SeqAt.readOf s.heap) = ds := SeqAt.readsAll_map ds its as hxs h4
    have hcnt : its.toArray.toList.countP (fun u => PyData.eqv (SeqAt.readOf s.heap u) d) = ds.countP fun z => PyData.eqv z d := by
      rw [← hmap, List.countP_map]
      rfl
    refine call_meets PySem.F.slot_list_count ⟨_, ho, rfl⟩ PySem.F.entry_list_count (PySem.F.args_list_count_2 _ _) (SeqAt.list_countAt _ its.toArray n dd sls uy (fun u => PyData.eqv (SeqAt.readOf s.heap u) d)) ⟨ho, SeqAt.items_eqAt (vs := its.toArray) (show ReadsAll s.heap its.toArray.toList ds as from h4) r1 hxs (SeqAt.canLay_of_shaped sd) hroom, ?_⟩
    rw [hcnt]
    exact ⟨.int _, H, I.tok _, ⟨_, rfl⟩, q⟩
theorem me_countL (c : Cok w k X) : MeOk X "count" "list" "list.count" (rCntD X.K) := ⟨PySem.F.plainAttrs_list, PySem.F.slot_list_count, PySem.F.type_list_count, mt_countD c⟩
/-- a.count(b), a a list -/
def kCount (f g : EV) : EV := fun s => (f s).bind fun r => (r.1.get r.2).bind fun d0 => (g r.2).bind fun q =>
  (r.1.get q.2).bind fun d => (q.1.get q.2).bind fun e => match d0, d with
    | .list _, .list ds => if eqOk e && eqOk (.list ds) then .ok (.d (.int ((ds.countP fun z => PyData.eqv z e : Nat) : Int)), q.2) else .no
    | _, _ => .no
theorem ge_count (c : Cok w k X) {o e : Expr} {apos cpos : Pos} {f f' : EV} (ho : GE w X o f) (he : GE w X e f') (hbase : attributeBase o "count" X.env (eval o X.env) = eval o X.env := by rfl)
    (hfew : ((backTo cpos (starEach [e] X.env)).all (fun x => !x.1) && (backToKw cpos (keywordEach [] X.env)).all (fun x => x.1.isSome)
      && decide ([e].length + ([] : List Keyword).length + (if ([] : List Keyword).isEmpty then 0 else 1) < 30)) = true := by rfl)
    (hline : (apos.endLine == cpos.line) = true := by rfl) (hs : starEach [e] X.env = (false, eval e X.env) :: starEach [] X.env := by rfl) (hplain : (backTo cpos (starEach [] X.env)).any (·.1) = false := by rfl) :
    GE w X (.Call (.Attribute o "count" apos) [e] [] cpos) (kCount f f') := by
  refine pe_imp (pe_md ho (pa_cons he pa_nil hs) hbase hfew hline hs hplain) fun σ H Q => ?_
  rintro ⟨Hf, s, φ, l, s', g, e, q⟩
  obtain ⟨⟨l1, s1⟩, h1, h2⟩ := R.bind_eq_ok.mp e
  obtain ⟨d0, h3, h4⟩ := R.bind_eq_ok.mp h2
  obtain ⟨⟨l2, s2⟩, h5, h6⟩ := R.bind_eq_ok.mp h4
  obtain ⟨d, h7, h8⟩ := R.bind_eq_ok.mp h6
  obtain ⟨e2, h9, h10⟩ := R.bind_eq_ok.mp h8
  simp only at h10
  cases d0 <;> cases d <;> simp only at h10 <;> first | cases h10 | skip
  split at h10
  · rename_i hb
    rw [Bool.and_eq_true] at hb
    cases h10
    refine ⟨Hf, s, φ, l1, s1, g, h1, fun v H1 Hf1 φ1 F1 g1 r1 k1 => ?_⟩
    have w1 := r1.rw g1 h3
    refine ⟨"list", _, _, me_countL c, by rw [c.K]; exact w1.tyL g1.sub, Hf1, s1, φ1, l2, s', g1, h5, fun v' H2 Hf2 φ2 F2 g2 r2 k2 => ?_⟩
    have w2 := (r1.stay (s' := s') (φ' := φ2) k2 fun a => .inl).rw g2 h7
    have w3 := r2.rw g2 h9
    have q2 := (q.later k1 (fun a => .inl) g1).later k2 (fun a => .inl) g2
    rw [c.K]
    exact ⟨v', _, _, rfl, w2.dp g2.sub (eqOk_lay hb.2), hb.2, w3.dp g2.sub (eqOk_lay hb.1), hb.1, q2.d g2 (.int _)⟩
  · cases h10
/-! ### a tuple of texts, written in a module -/
theorem rp_strs {K : PySem.W.Frag} : ∀ {xs : List Str}, RpA K Hf (xs.map V.str) (xs.map PyData.str)
  | [] => .nil
  | x :: xs => .cons (.str x) rp_strs
/-- what is written at a name: a tuple of these texts -/
def CTup (K : PySem.W.Frag) (mg : Str → Option Value) (n : Str) (xs : List Str) : Prop :=
  ∃ (a : Addr) (o : Obj) (its : Array Value) (m : Nat), mg n = some (.ref a) ∧ K.lookup a = some o ∧ o.cls = .type "tuple" ∧ o.dict = none ∧ o.data = .seq its m ∧ its.size ≤ sizeLine ∧ Vals (xs.map V.str) its.toList
theorem ge_ctup (c : Cok w k X) {n : Str} {xs : List Str} (h : CTup X.K X.mg n xs) (hg : Gl X n := by rfl) (hd : (n == ("__debug__" : Str)) = false := by decide) : GE w X (.Name n pos) (kC (.tuple (xs.map PyData.str))) := by
  obtain ⟨a, o, its, m, h1, h2, h3, h4, h5, h6, h7⟩ := h
  exact ge_glob (v := .ref a) (fun Hf => .tup (.inr ⟨o, its, m, by rw [c.K] at h2; exact h2, h3, h4, h5, h6, h7⟩) rp_strs) h1 rfl hg hd
end
end KV
namespace KV
open PySem L2
theorem ctup_of {K : PySem.W.Frag} {h : Heap} {mg : Str → Option Value} {n : Str} {xs : List Str} {a : Addr} {o : Obj} {its : Array Value} {m : Nat} (KX : K.In h) (G : h.Ns mainGlobals mg) (y : PySem.W.nsIn K mainGlobals n = some (some (.ref a))) (l : K.lookup a = some o)
    (hc : o.cls = .type "tuple") (hd : o.dict = none) (he : o.data = .seq its m) (hf : its.size ≤ sizeLine) (hv : Vals (xs.map V.str) its.toList) : CTup K mg n xs := ⟨a, o, its, m, PySem.W.mg_of KX G y, l, hc, hd, he, hf, hv⟩
end KV
namespace KV
open PySem L2
open PySem.Spec PyProof.Rows
section
variable {w : Wd} {k : Nat} {X : Cx} {pos : Pos}
/-- a number, a text that a module holds -/
theorem ge_cint {n : Str} {i : Int} (h : ∃ t, X.mg n = some (.int i t)) (hg : Gl X n := by rfl) (hd : (n == ("__debug__" : Str)) = false := by decide) : GE w X (.Name n pos) (kC (.int i)) := by
  obtain ⟨t, h⟩ := h
  exact ge_glob (v := .int i) (fun _ => .int _) h ⟨t, rfl⟩ hg hd
theorem ge_cstr {n x : Str} (h : ∃ t, X.mg n = some (.str x t)) (hg : Gl X n := by rfl) (hd : (n == ("__debug__" : Str)) = false := by decide) : GE w X (.Name n pos) (kC (.str x)) := by
  obtain ⟨t, h⟩ := h
  exact ge_glob (v := .str x) (fun _ => .str _) h ⟨t, rfl⟩ hg hd
end
theorem cint_of {K : PySem.W.Frag} {h : Heap} {mg : Str → Option Value} {n : Str} {i : Int} {t : Tok} (KX : K.In h) (G : h.Ns mainGlobals mg) (y : PySem.W.nsIn K mainGlobals n = some (some (.int i t))) : ∃ t, mg n = some (.int i t) := ⟨t, PySem.W.mg_of KX G y⟩
theorem cstr_of {K : PySem.W.Frag} {h : Heap} {mg : Str → Option Value} {n x : Str} {t : Tok} (KX : K.In h) (G : h.Ns mainGlobals mg) (y : PySem.W.nsIn K mainGlobals n = some (some (.str x t))) : ∃ t, mg n = some (.str x t) := ⟨t, PySem.W.mg_of KX G y⟩
end KV

set_option Elab.async false
set_option linter.all false
set_option maxRecDepth 100000
set_option maxHeartbeats 4000000
/-! KVX: sorted(..) of texts: a list, a dict's keys. -/
namespace KV
open PySem L2
open PySem.Spec PyProof.Rows PySem.W PySem.Calls
/-! ### the one sorted list -/
def insS (x : Str) : List Str → List Str
  | [] => [x]
  | y :: r => if ltCps y.cps.toList x.cps.toList then y :: insS x r else x :: y :: r
def sortS : List Str → List Str
  | [] => []
  | x :: r => insS x (sortS r)
def leS (a b : Str) : Prop := ¬ b.cps.toList < a.cps.toList
theorem leS_iff {a b : Str} : leS a b ↔ ltCps b.cps.toList a.cps.toList = false := by
  unfold leS
  rw [ltCps_eq]
  simp
theorem leS_trans {a b c : Str} (h1 : leS a b) (h2 : leS b c) : leS a c := by
  unfold leS at *
  rw [List.not_lt] at *
  exact List.le_trans h1 h2
theorem leS_total (a b : Str) : leS a b ∨ leS b a := by
  unfold leS
  by_cases h : b.cps.toList < a.cps.toList
  · exact .inr (List.lt_asymm h)
  · exact .inl h
theorem leS_anti {a b : Str} (h1 : leS a b) (h2 : leS b a) : a = b := by
  unfold leS at *
  rw [List.not_lt] at *
  have e := List.le_antisymm h1 h2
  cases a
  cases b
  simp only at e
  congr 1
  exact Array.toList_inj.mp e
theorem insS_perm (x : Str) : ∀ l : List Str, (insS x l).Perm (x :: l)
  | [] => List.Perm.refl _
  | y :: r => by
    unfold insS
    split
    · exact ((insS_perm x r).cons y).trans (List.Perm.swap x y r)
    · exact List.Perm.refl _
theorem sortS_perm : ∀ l : List Str, (sortS l).Perm l
  | [] => List.Perm.refl _
  | x :: r => (insS_perm x _).trans ((sortS_perm r).cons x)
theorem insS_pw {x : Str} : ∀ {l : List Str}, l.Pairwise leS → (insS x l).Pairwise leS
  | [], _ => List.pairwise_singleton _ _
  | y :: r, h => by
    obtain ⟨h1, h2⟩ := List.pairwise_cons.mp h
    unfold insS
    split
    · rename_i hlt
      have hyx : leS y x := by
        rcases leS_total y x with z | z
        · exact z
        · rw [leS_iff, hlt] at z; cases z
      refine List.pairwise_cons.mpr ⟨fun z hz => ?_, insS_pw h2⟩
      rcases List.mem_cons.mp ((insS_perm x r).mem_iff.mp hz) with e | e
      · exact e ▸ hyx
      · exact h1 z e
    · rename_i hlt
      have hxy : leS x y := leS_iff.mpr (by simpa using hlt)
      refine List.pairwise_cons.mpr ⟨fun z hz => ?_, h⟩
      rcases List.mem_cons.mp hz with e | e
      · exact e ▸ hxy
      · exact leS_trans hxy (h1 z e)
theorem sortS_pw : ∀ l : List Str, (sortS l).Pairwise leS
  | [] => List.Pairwise.nil
  | x :: r => insS_pw (sortS_pw r)
theorem rising_pw : ∀ {p : Str} {l : List Str}, risingS p l = true → (p :: l).Pairwise leS
  | p, [], _ => List.pairwise_singleton _ _
  | p, x :: r, h => by
    have h' : (!ltCps x.cps.toList p.cps.toList && risingS x r) = true := h
    rw [Bool.and_eq_true] at h'
    have hp : leS p x := leS_iff.mpr (by simpa using h'.1)
    have ih := rising_pw h'.2
    refine List.pairwise_cons.mpr ⟨fun z hz => ?_, ih⟩
    rcases List.mem_cons.mp hz with e | e
    · exact e ▸ hp
    · exact leS_trans hp ((List.pairwise_cons.mp ih).1 z e)
theorem sorted_pw : ∀ {l : List Str}, sortedS l = true → l.Pairwise leS
  | [], _ => List.Pairwise.nil
  | x :: r, h => rising_pw h
theorem pw_one : ∀ {l m : List Str}, l.Perm m → l.Pairwise leS → m.Pairwise leS → l = m
  | [], m, p, _, _ => p.nil_eq
  | a :: l, [], p, _, _ => absurd p.symm.nil_eq (by simp)
  | a :: l, b :: m, p, h1, h2 => by
    obtain ⟨a1, a2⟩ := List.pairwise_cons.mp h1
    obtain ⟨b1, b2⟩ := List.pairwise_cons.mp h2
    have refl : ∀ x, leS x x := fun x => (leS_total x x).elim id id
    have hab : leS a b := by
      rcases List.mem_cons.mp (p.mem_iff.mpr (List.mem_cons_self ..)) with e | e
      · exact e ▸ refl _
      · exact a1 b e
    have hba : leS b a := by
      rcases List.mem_cons.mp (p.mem_iff.mp (List.mem_cons_self ..)) with e | e
      · exact e ▸ refl _
      · exact b1 a e
    have e := leS_anti hab hba
    subst e
    rw [pw_one (List.Perm.cons_inv p) a2 b2]
theorem sort_the {ys xs : List Str} (p : ys.Perm xs) (h : sortedS ys = true) : ys = sortS xs := pw_one (p.trans (sortS_perm xs).symm) (sorted_pw h) (sortS_pw xs)
/-! ### sorted(d) -/
def rSortK (K : PySem.W.Frag) : List V → Hp → VK → Prop := fun vs H Q => ∃ (a : Addr) (kvs : List (Key × V)) (ss : List Str), vs = [V.ref a] ∧ Rd H a (.dK kvs) ∧ kvs.map (·.1) = ss.map Sum.inr ∧ ss.length < 64 ∧
  ∀ (p : Addr), H p = none → Q (.ref p) (upd H p (.lst ((sortS ss).map V.str)))
theorem strs_pt : ∀ {vs : List Value} {ss : List Str}, vs.length = ss.length → (∀ (j : Nat) (v : Value), vs[j]? = some v → ∃ (x : Str) (t : Tok), ss[j]? = some x ∧ v = Value.str x t) → StrsAre vs ss
  | [], [], _, _ => .nil
  | [], _ :: _, h, _ => by simp at h
  | _ :: _, [], h, _ => by simp at h
  | v :: vs, x :: ss, h, k => by
    obtain ⟨y, t, e1, rfl⟩ := k 0 v rfl
    simp at e1
    subst e1
    exact .cons _ _ (strs_pt (by simpa using h) fun j v hj => by simpa using k (j + 1) v (by simpa using hj))
theorem kv_key : ∀ {kvs : List (Key × V)} {prs : List (Key × Value)}, L2.KV kvs prs → prs.map (·.1) = kvs.map (·.1) := fun {kvs prs} r => by
  unfold L2.KV at r
  induction r with
  | nil => rfl
  | cons h t ih => rw [List.map_cons, List.map_cons, ih, h.1]
theorem cr_sortK {X : Cx} (hc : X.calm = true) : CallR X (.builtin "sorted") (rSortK X.K) := by
  intro pins s σ H vs us Q I r h
  obtain ⟨a, kvs, ss, rfl, ha, hk, h64, q⟩ := h
  rw [Vals.ref1 r]
  obtain ⟨hlen, hbig, prs, rel, hd⟩ : ObjOk X.prog X.w _ _ a (.dK kvs) := ha.ok I.hok
  obtain ⟨ep, hat⟩ := hd.dictAt
  have hh := I.ok.hd hc
  have hks : prs.map (·.1) = ss.map Sum.inr := (kv_key rel).trans hk
  have hpl : prs.length = ss.length := by have := congrArg List.length hks; simpa using this
  refine Calls.call_function_entry kind_sorted plain_sorted entry_sorted (args_sorted1 _) ?_
  unfold Builtin.«sorted»
  refine wpAny_bind (m := checkCount "sorted" 1 1 _) (wpAny_pure ?_)
  refine wpAny_bind (kdu_collect (A := X.A.in1) (kdl_dict (knd := mixKind X.prog X.w) (kvs := prs) (ep := ep) hbig) hh hat (by rw [hpl, sizeLine_eq]; omega) fun h' tk acc k1 items => ?_)
  have hS : StrsAre acc.toList ss := strs_pt (by rw [Array.length_toList, items.1, hpl]) fun j v hj => by
    obtain ⟨k, x, e1, e2⟩ := items.2 j v (by rw [← Array.getElem?_toList]; exact hj)
    have e3 : (ss.map (Sum.inr : Str → Key))[j]? = some k := by rw [← hks, List.getElem?_map, e1]; rfl
    rw [List.getElem?_map] at e3
    obtain ⟨y, e4, e5⟩ := Option.map_eq_some_iff.mp e3
    subst e5
    rcases keyIs_shape (show keyIs (Sum.inr y) v = true from e2) with ⟨i, t, e6, _⟩ | ⟨z, t, e6, e7⟩
    · cases e6
    · cases e6
      exact ⟨y, t, e4, e7⟩
  have hvl : acc.toList.length = ss.length := hS.len_eq
  refine wpAny_bind (wpAny_newList ?_ (by rw [hvl, sizeLine_eq]; omega))
  have hoL : (h'.push (seqObj "list" acc.toList.toArray 0)).get? h'.objs.size = some (seqObj "list" acc.toList.toArray 0) := Heap.get?_push_size _ rfl
  refine wpAny_bind (wpAny_holding (wpAny_call_entry slot_list_sort ⟨_, hoL, rfl⟩ entry_list_sort (list_sort_treeK strKind_oneLt hoL hS.keysOf (fun v₁ v₂ rest e => keyKind_strs (by rw [← e]; exact hS)) (by rw [hvl]; exact h64) fun st' hp hs => ⟨_, rfl, ?_⟩) (args_list_sort _)))
  obtain ⟨ys, b1, b2, b3⟩ := sorted_out_str hS hp hs
  have ey := sort_the b2 b3
  subst ey
  obtain ⟨c, hcc⟩ := sortedHeap_at (vs := acc.toList) (out := (arrOf st').map (·.2)) hoL
  have hn : H h'.objs.size = none := (I.hok.kept k1).fresh (Nat.le_refl _)
  have hg : s.heap.get? h'.objs.size = none := by
    cases e : s.heap.get? h'.objs.size with
    | none => rfl
    | some u => exact absurd (Heap.lt_size (k1 _ _ e)) (Nat.lt_irrefl _)
  have old : ∀ b o, s.heap.get? b = some o → (sortedHeap (h'.push (seqObj "list" acc.toList.toArray 0)) h'.objs.size acc.toList ((arrOf st').map (·.2))).get? b = some o := fun b o e => by
    have e1 := k1 b o e
    have hlt := Heap.lt_size e1
    rw [sortedHeap_old (Nat.ne_of_lt hlt) (by rw [size_push']; exact Nat.lt_succ_of_lt hlt)]
    exact Heap.get?_push_of_some _ e1
  refine wpAny_pure ⟨_, rfl, ?_⟩
  exact ⟨.ref h'.objs.size, upd H h'.objs.size (.lst ((sortS ss).map V.str)), I.laidN (t' := tk) old hg hn ⟨by rw [List.length_map, (sortS_perm ss).length_eq, sizeLine_eq]; omega, ((arrOf st').map (·.2)).toList, c, vals_of_strs b1, by rw [Array.toArray_toList]; exact hcc⟩, rfl, q _ hn⟩
/-! ### the rule -/
def strsOfD : List D → Option (List Str)
  | [] => some []
  | .str x :: r => (strsOfD r).map (x :: ·)
  | _ :: _ => none
theorem strsOfD_eq : ∀ {ds : List D} {ss : List Str}, strsOfD ds = some ss → ds = ss.map PyData.str
  | [], ss, h => by cases h; rfl
  | d :: r, ss, h => by
    cases d <;> first | cases h | skip
    unfold strsOfD at h
    obtain ⟨q, h1, rfl⟩ := Option.map_eq_some_iff.mp h
    rw [strsOfD_eq h1]
    rfl
theorem strsOfD_map : ∀ {ss : List Str}, strsOfD (ss.map PyData.str) = some ss
  | [] => rfl
  | x :: r => by
    rw [List.map_cons]
    unfold strsOfD
    rw [strsOfD_map]
    rfl
/-- sorted(..) of texts: a list, a dict's keys -/
def pSorted : D → R L
  | .list ds => match strsOfD ds with
    | some ss => if ss.length < 64 then .ok (.t (.lst ((sortS ss).map PyData.str))) else .no
    | none => .no
  | .dict kvs => match strsOfD (kvs.map (·.1)) with
    | some ss => if ss.length < 64 then .ok (.t (.lst ((sortS ss).map PyData.str))) else .no
    | none => .no
  | _ => .no
def rSortAny (K : PySem.W.Frag) : List V → Hp → VK → Prop := fun vs H Q => rSortedS K vs H Q ∨ rSortK K vs H Q
section
variable {w : Wd} {k : Nat} {X : Cx} {pos : Pos} {Hf H : Hp}
theorem cr_sortAny (hc : X.calm = true) : CallR X (.builtin "sorted") (rSortAny X.K) := by
  intro pins s σ H vs us Q I r h
  rcases h with h | h
  · exact cr_sortedS pins s σ H vs us Q I r h
  · exact cr_sortK hc pins s σ H vs us Q I r h
theorem rpa_strs {K : PySem.W.Frag} : ∀ {vs : List V} {ss : List Str}, RpA K Hf vs (ss.map PyData.str) → vs = ss.map V.str
  | _, [], r => by cases r; rfl
  | _, x :: ss, r => by
    rw [List.map_cons] at r
    cases r with
    | cons h t => cases h; rw [rpa_strs t]; rfl
theorem rpkv_keys {K : PySem.W.Frag} : ∀ {kvs : List (Key × V)} {ds : List (D × D)} {ss : List Str}, RpKv K Hf kvs ds → ds.map (·.1) = ss.map PyData.str → kvs.map (·.1) = ss.map Sum.inr
  | _, _, [], .nil, _ => rfl
  | _, _, [], .cons _ _, h => by simp at h
  | _, _, _ :: _, .nil, h => by simp at h
  | _, _, x :: ss, .cons (k := k) _ t, h => by
    rw [List.map_cons, List.map_cons, List.cons.injEq] at h
    have e : k = Sum.inr x := by
      cases k with
      | inl i => cases h.1
      | inr y => cases h.1; rfl
    rw [List.map_cons, List.map_cons, rpkv_keys t h.2, e]
theorem u_sorted (c : Cok w k X) : U1 w (fun v H Q => rSortAny X.K [v] H Q) pSorted := by
  intro σ H Hf s φ v d l Q g r hp q
  unfold pSorted at hp
  split at hp
  · split at hp
    · rename_i ss hs
      split at hp
      · rename_i h64
        cases hp
        have e := strsOfD_eq hs
        subst e
        obtain ⟨a, vs, rfl, ha, ra⟩ := r.list g.sub
        have ev := rpa_strs ra
        subst ev
        refine .inl ⟨a, ss, rfl, SqL.of ha, h64, fun ys p p1 p2 hp => ?_⟩
        rw [sort_the p1 p2]
        exact q.lst g rp_strs hp
      · cases hp
    · cases hp
  · split at hp
    · rename_i kvs ss hs
      split at hp
      · rename_i h64
        cases hp
        obtain ⟨a, ks, rfl, ha, ra⟩ := r.dict g.sub
        exact .inr ⟨a, ks, ss, rfl, ha, rpkv_keys ra (strsOfD_eq hs), h64, fun p hp => q.lst g rp_strs hp⟩
      · cases hp
    · cases hp
  · cases hp
theorem ge_sorted (hm : X.mg "sorted" = none) (c : Cok w k X) {a : Expr} {f : EV} {px : Pos} (ha : GE w X a f) (hg : Gl X "sorted" := by rfl) (he : starEach [a] X.env = (false, eval a X.env) :: starEach [] X.env := by rfl) : GE w X (.Call (.Name "sorted" px) [a] [] pos) (k1 pSorted f) :=
  ge_b1 (cr_sortAny c.calm) (u_sorted c) hm ha (by decide +kernel) hg (by decide) (by decide) he
end
end KV

set_option Elab.async false
set_option linter.all false
set_option maxRecDepth 100000
set_option maxHeartbeats 4000000
/-! KVY: d.update(e); three dicts of one's own under three names: made, lent to be read, stored in. -/
namespace KV
open PySem L2
open PySem.Spec PyProof.Rows

/-! ### d.update(e) -/
def rUpd : V → List V → Hp → VK → Prop := fun x xs H Q => ∃ a b ka kb, x = .ref a ∧ xs = [.ref b] ∧ H a = some (.dK ka) ∧ Rd H b (.dK kb) ∧ a ≠ b ∧ ka.length + kb.length ≤ sizeLine ∧ Q .non (upd H a (.dK (mergeK ka kb)))
theorem mt_upd {X : Cx} : MtR X "dict.update" rUpd := by
  intro pins s σ H x vs v us Q I rx rv h
  obtain ⟨a, b, ka, kb, rfl, rfl, ha, hb, ne, hz, q⟩ := h
  cases rx
  obtain ⟨u, rfl, ru⟩ := rv.one
  cases ru
  obtain ⟨z, hd, vs, rel, dd⟩ := dk_of I.hok ha
  obtain ⟨z2, hd2, vs2, rel2, dd2⟩ := dk_rd I.hok hb
  refine call_meetsIn PySem.F.slot_dict_update dd.typeIs PySem.F.entry_dict_update (PySem.F.args_dict_update_2 _ _) (meets_dict_update (mixKind X.prog X.w) a b ne hd2) ⟨vs, vs2, dd, dd2, by rw [← rel.length, ← rel2.length]; exact hz, fun h' dd' _ hs => ?_⟩
  have he : ∃ q, h'.get? a = some q := let ⟨q, _, _, hq, _⟩ := dd'; ⟨q, hq⟩
  have hl : (mergeK ka kb).length ≤ sizeLine := Nat.le_trans (length_mergeK kb ka) hz
  exact ⟨.non, _, d_write I (by rw [ha]; exact True.intro) hs he (dk_new hl hd (rel2.merge rel) dd'), rfl, q⟩
def kUpd (i : Nat) (f : EV) : EV := fun s => match s[i]? with
  | some (some (.dct _)) => (kD f s).bind fun r => (match r.1, r.2[i]? with
    | .dict ys, some (some (.dct xs)) => if szOk (xs.length + ys.length) then .ok (.d .none, r.2.set i (some (.dct (mergeD xs ys)))) else .no
    | _, _ => .no)
  | _ => .no
section
variable {w : Wd} {k : Nat} {X : Cx} {pos : Pos} {σ : L2.St} {H Hf : Hp} {s s' : Sl} {φ : Nat → List Addr} {Q : VK} {io : List Nat}
section
variable {e : Expr} {f : EV} {x : Str} {px apos cpos : Pos}
theorem ge_upd (i : Nat) (he : GE w X e f) (hN : X.N[i]? = some x := by rfl) (hv : Vis X.env.scope x := by first | exact Or.inl rfl | exact Or.inr (Or.inl rfl) | exact Or.inr (Or.inr rfl)) (hd : (x == ("__debug__" : Str)) = false := by decide) (hcd : (x == ("__classdict__" : Str)) = false := by decide)
    (hbase : attributeBase (.Name x px) "update" X.env (eval (.Name x px) X.env) = eval (.Name x px) X.env := by rfl)
    (hfew : ((backTo cpos (starEach [e] X.env)).all (fun x => !x.1) && (backToKw cpos (keywordEach [] X.env)).all (fun x => x.1.isSome)
      && decide ([e].length + ([] : List Keyword).length + (if ([] : List Keyword).isEmpty then 0 else 1) < 30)) = true := by rfl)
    (hline : (apos.endLine == cpos.line) = true := by rfl) (hs : starEach [e] X.env = (false, eval e X.env) :: starEach [] X.env := by rfl) (hplain : (backTo cpos (starEach [] X.env)).any (·.1) = false := by rfl) :
    GE w X (.Call (.Attribute (.Name x px) "update" apos) [e] [] cpos) (kUpd i f) := by
  refine pe_imp (pe_bm PySem.F.plainAttrs_dict PySem.F.slot_dict_update PySem.F.type_dict_update mt_upd (pv i hN hv hd hcd) (pa_cons he pa_nil hs) hbase hfew hline hs hplain) fun σ H Q => ?_
  rintro ⟨Hf, s, φ, l, s', g, e, q⟩
  unfold kUpd at e
  split at e
  · rename_i xs0 h0
    obtain ⟨⟨d, s1⟩, h1, h2⟩ := R.bind_eq_ok.mp e
    simp only at h2
    split at h2
    · rename_i ys xs hx
      split at h2
      · rename_i hz
        cases h2
        obtain ⟨a, vs0, e0, p0, a0, r0⟩ := g.dct h0
        refine ⟨.ref a, e0, ?_, tE_D g h1 fun v H1 Hf1 φ1 g1 r1 k1 => ?_⟩
        · exact .inr (.inr (.inl ⟨rfl, .inl ⟨vs0, a0⟩⟩))
        obtain ⟨a', vs, e1, p1, a1, r2⟩ := g1.dct hx
        rw [e0] at e1; cases e1
        cases r1 with
        | dct hb rk =>
          rename_i b kb
          have hf : Hf1 a = none := g1.fr i _ a hx (by rw [p1]; simp)
          have ne : a ≠ b := fun z => by
            rcases hb with hb | ⟨_, hb⟩ <;> (rw [← z, hf] at hb; cases hb)
          obtain ⟨g2, o2⟩ := g1.updS (o := .dK (mergeK vs kb)) (t' := .dct (mergeD xs ys)) hx p1 e0 (.dct upd_same (merge_rp rk r2))
          exact ⟨a, b, vs, kb, rfl, rfl, a1, g1.sub.rd hb, ne, by have := sz_line (szOk_le hz); rw [r2.length, rk.length]; omega, q _ _ Hf1 φ1 [] g2 (.d .non) ((k1.updO ⟨i, _, hx, by rw [p1]; simp⟩ hf).weak fun x z => z.elim (o2 x) fun z => nomatch z)⟩
      · cases h2
    · cases h2
  · cases e
end
/-! ### three dicts under three names: made -/
def kTab (x y z : Str) (f g h : EV) : EV := fun s => (f s).bind fun r => match r.1 with
  | .t (.dct p) => (g r.2).bind fun r2 => (match r2.1 with
    | .t (.dct q) => (h r2.2).bind fun r3 => (match r3.1 with
      | .t (.dct u) => if x ≠ y ∧ x ≠ z ∧ y ≠ z then .ok (.t (.tab ⟨x, y, z, p, q, u⟩), r3.2) else .no
      | _ => .no)
    | _ => .no)
  | _ => .no
theorem merge3 {x y z : Str} {a b c : V} (h : x ≠ y ∧ x ≠ z ∧ y ≠ z) : mergeK [] [(Sum.inr x, a), (Sum.inr y, b), (Sum.inr z, c)] = [(Sum.inr x, a), (Sum.inr y, b), (Sum.inr z, c)] := by
  have e1 : (Sum.inr x : Key) ≠ Sum.inr y := fun q => h.1 (Sum.inr.inj q)
  have e2 : (Sum.inr x : Key) ≠ Sum.inr z := fun q => h.2.1 (Sum.inr.inj q)
  have e3 : (Sum.inr y : Key) ≠ Sum.inr z := fun q => h.2.2 (Sum.inr.inj q)
  simp [mergeK, putK, e1, e2, e3]
theorem RLs.four {v3 v2 v1 v0 : V} {t3 t2 t1 t0 : T} {F : List Addr} (r : RLs w σ Hf H s φ [v3, v2, v1, v0] [.t t3, .t t2, .t t1, .t t0] F) : ∃ F3 F2 F1 F0, F = F3 ++ (F2 ++ (F1 ++ F0)) ∧ OR w Hf H v3 t3 F3 ∧ OR w Hf H v2 t2 F2 ∧ OR w Hf H v1 t1 F1 ∧ OR w Hf H v0 t0 F0 ∧
    (∀ a ∈ F, Hf a = none ∧ ¬ Own s φ a) ∧ (∀ a ∈ F3, a ∉ F2 ++ (F1 ++ F0)) ∧ (∀ a ∈ F2, a ∉ F1 ++ F0) ∧ ∀ a ∈ F1, a ∉ F0 := by
  cases r with
  | cons r3 rr d3 =>
    cases rr with
    | cons r2 rr d2 =>
      cases rr with
      | cons r1 rr d1 =>
        cases rr with
        | cons r0 rn d0 =>
          cases rn
          cases r3 with
          | t r3 c3 =>
            cases r2 with
            | t r2 c2 =>
              cases r1 with
              | t r1 c1 =>
                cases r0 with
                | t r0 c0 =>
                  rw [List.append_nil] at d1 d2 d3 ⊢
                  refine ⟨_, _, _, _, rfl, r3, r2, r1, r0, fun a ha => ?_, d3, d2, d1⟩
                  rcases List.mem_append.mp ha with z | z
                  · exact c3 a z
                  · rcases List.mem_append.mp z with z | z
                    · exact c2 a z
                    · rcases List.mem_append.mp z with z | z
                      · exact c1 a z
                      · exact c0 a z
theorem ge_tab {ea eb ec : Expr} {f g h : EV} {j1 j2 j3 : Nat} {p1 p2 p3 : Pos} {x y z : Str} (ha : GE w X ea f) (hb : GE w X eb g) (hc : GE w X ec h) :
    GE w X (.Dict [some (.Constant (.str x) j1 p1), some (.Constant (.str y) j2 p2), some (.Constant (.str z) j3 p3)] [ea, eb, ec] pos) (kTab x y z f g h) := by
  refine pe_imp (pe_disp (pps_cons pe_str ha (pps_cons pe_str hb (pps_cons pe_str hc pps_nil))) rfl rfl (by simp) (by show 3 ≤ 15; decide)) fun σ H Q => ?_
  rintro ⟨Hf, s, φ, l, s', gd, e, q⟩ p hp
  obtain ⟨⟨l1, s1⟩, h1, h2⟩ := R.bind_eq_ok.mp e
  simp only at h2
  split at h2
  · rename_i d1
    obtain ⟨⟨l2, s2⟩, h3, h4⟩ := R.bind_eq_ok.mp h2
    simp only at h4
    split at h4
    · rename_i d2
      obtain ⟨⟨l3, s3⟩, h5, h6⟩ := R.bind_eq_ok.mp h4
      simp only at h6
      split at h6
      · rename_i d3
        split at h6
        · rename_i hne
          cases h6
          have b0 : Bag w σ H Hf (Own s φ) [.ref p] [.t (.dct [])] [p] (upd H p (.dK [])) Hf s φ :=
            ⟨gd.updH hp, .cons (.t (.dct upd_same .nil) fun a ha => by rw [List.mem_singleton] at ha; subst ha; exact ⟨gd.hf_none hp, gd.own_ne hp⟩) .nil (fun _ _ h => nomatch h), Stp.updH hp fun a z => z.imp id fun z => by simpa using z⟩
          refine ⟨Hf, s, φ, .t (.dct d1), s1, b0.g, h1, fun v1 H1 Hf1 φ1 F1 g1 r1 k1 => ?_⟩
          have b1 := b0.add g1 r1 k1
          refine ⟨Hf1, s1, φ1, .t (.dct d2), s2, g1, h3, fun v2 H2 Hf2 φ2 F2 g2 r2 k2 => ?_⟩
          have b2 := b1.add g2 r2 k2
          refine ⟨Hf2, s2, φ2, .t (.dct d3), s', g2, h5, fun v3 H3 Hf3 φ3 F3 g3 r3 k3 => ?_⟩
          have b3 := b2.add g3 r3 k3
          obtain ⟨G3, G2, G1, G0, eF, rd, rc, rb, ra, free, dj3, dj2, dj1⟩ := b3.r.four
          cases rd with
          | dct hd kd =>
            cases rc with
            | dct hc kc =>
              cases rb with
              | dct hb kb =>
                cases ra with
                | dct ha ka =>
                  cases ka
                  rename_i d vd c vc b vb
                  rw [eF] at free
                  have n3 : d ≠ c ∧ d ≠ b ∧ d ≠ p := by simpa using dj3 d (by simp)
                  have n2 : c ≠ b ∧ c ≠ p := by simpa using dj2 c (by simp)
                  have n1 : b ≠ p := by simpa using dj1 b (by simp)
                  obtain ⟨f1, f2⟩ := free p (by simp)
                  refine ⟨ha, [(Sum.inr x, .ref b), (Sum.inr y, .ref c), (Sum.inr z, .ref d)], rfl, (by show 3 ≤ 15; decide), ?_⟩
                  rw [merge3 hne]
                  refine q (.ref p) _ Hf3 φ3 [p, b, c, d] (b3.g.updO f1 f2) (.t (.tab (kb := vb) (kc := vc) (kd := vd) upd_same (by rw [upd_ne n1]; exact hb) (by rw [upd_ne n2.2]; exact hc) (by rw [upd_ne n3.2.2]; exact hd) kb kc kd (by simp only [List.nodup_cons, List.mem_cons, List.not_mem_nil, or_false, not_or, not_false_eq_true, and_true, List.nodup_nil]; exact ⟨⟨n1.symm, n2.2.symm, n3.2.2.symm⟩, ⟨n2.1.symm, n3.2.1.symm⟩, n3.1.symm⟩)) fun a ha => free a ?_) ((b3.k.updO (.inr (by rw [eF]; simp)) f1).weak fun a z => z.imp id fun z => ?_)
                  · simp only [List.mem_cons, List.not_mem_nil, or_false] at ha
                    rcases ha with rfl | rfl | rfl | rfl <;> simp
                  · rw [eF]
                    simp only [List.mem_cons, List.not_mem_nil, or_false] at z
                    rcases z with rfl | rfl | rfl | rfl <;> simp
        · cases h6
      · cases h6
    · cases h4
  · cases h2
/-! ### quiet expressions -/
def qS (x : Str) : Sl → R D := fun _ => .ok (.str x)
def qIx (j : Nat) (i : Int) : Sl → R D := fun s => match s[j]? with
  | some (some (.val (.tuple xs))) => (match (ixD xs.length i).bind (fun m => xs[m]?) with
    | some d => .ok d
    | none => .no)
  | _ => .no
def tq (w : Wd) (f : Sl → R D) : TE := fun σ H Q => ∃ Hf s φ d, Good w σ H Hf s φ ∧ f s = .ok d ∧ ∀ v, Rp w.K Hf v d → Q v H
abbrev GQ (w : Wd) (X : Cx) (e : Expr) (f : Sl → R D) : Prop := PE X e (tq w f)
theorem gq_str {x : Str} {j : Nat} {p : Pos} : GQ w X (.Constant (.str x) j p) (qS x) := pe_imp pe_str fun σ H Q => by
  rintro ⟨Hf, s, φ, d, g, e, q⟩
  cases e
  exact q _ (.str x)
theorem gq_ix (c : Cok w k X) (j : Nat) (i : Int) {x : Str} {px pp : Pos} {jj : Nat} (hN : X.N[j]? = some x := by rfl) (hv : Vis X.env.scope x := by first | exact Or.inl rfl | exact Or.inr (Or.inl rfl) | exact Or.inr (Or.inr rfl)) (hd : (x == ("__debug__" : Str)) = false := by decide) (hcd : (x == ("__classdict__" : Str)) = false := by decide)
    (hs : PlainIx (.Constant (.int i) jj pp) := by exact fun _ _ => rfl) : GQ w X (.Subscript (.Name x px) (.Constant (.int i) jj pp) pos) (qIx j i) := by
  refine pe_imp (pe_ix (ix_all c) (pv j hN hv hd hcd) pe_int hs) fun σ H Q => ?_
  rintro ⟨Hf, s, φ, d, g, e, q⟩
  unfold qIx at e
  split at e
  · rename_i xs hx
    split at e
    · rename_i d' hd'
      cases e
      obtain ⟨v, e1, r⟩ := g.here j _ hx
      generalize φ j = F at r
      cases r with
      | val r =>
        cases r with
        | tup h r =>
          obtain ⟨y, h1, h2⟩ := atI_of r hd'
          refine ⟨_, e1, .inr (.inl ⟨_, _, _, y, rfl, rfl, ?_, h1, q y h2⟩)⟩
          rw [c.K]
          exact (g.sub.stup h).sq
    · cases e
  · cases e
/-! ### told[x][k] = e -/
theorem Good.tabs (g : Good w σ H Hf s φ) {i : Nat} {t : Tab} (h : s[i]? = some (some (.tab t))) : ∃ a b c d kb kc kd, σ[i]? = some (some (.ref a)) ∧ φ i = [a, b, c, d] ∧ H a = some (.dK (tabKv t b c d)) ∧ H b = some (.dK kb) ∧ H c = some (.dK kc) ∧ H d = some (.dK kd) ∧
    RpKv w.K Hf kb t.p ∧ RpKv w.K Hf kc t.q ∧ RpKv w.K Hf kd t.r ∧ [a, b, c, d].Nodup := by
  obtain ⟨v, e, r⟩ := g.here i _ h
  generalize hF : φ i = F at r
  cases r with
  | tab h1 h2 h3 h4 r1 r2 r3 nd => exact ⟨_, _, _, _, _, _, _, e, rfl, h1, h2, h3, h4, r1, r2, r3, nd⟩
def Tab.put (t : Tab) (x : Str) (k d : D) : Option Tab :=
  if x = t.x then some { t with p := putD t.p k d } else if x = t.y then some { t with q := putD t.q k d } else if x = t.z then some { t with r := putD t.r k d } else none
def sTabPut (i : Nat) (k1 k2 : Sl → R D) (f : EV) : SV := fun s => match s[i]? with
  | some (some (.tab _)) => (kD f s).bind fun r => (k1 r.2).bind fun d1 => (k2 r.2).bind fun d2 => (match r.2[i]?, d1 with
    | some (some (.tab t)), .str x => if (keyOf d2).isSome && (szOk (t.p.length + 1) && (szOk (t.q.length + 1) && szOk (t.r.length + 1))) then (match t.put x d2 r.1 with
      | some t' => .ok (.nx, r.2.set i (some (.tab t')))
      | none => .no) else .no
    | _, _ => .no)
  | _ => .no
theorem gs_tabPut (c : Cok w k X) (i : Nat) {x : Str} {px p1 spos : Pos} {ek1 ek2 e : Expr} {k1 k2 : Sl → R D} {f : EV} (he : GE w X e f) (hk1 : GQ w X ek1 k1) (hk2 : GQ w X ek2 k2) (hs1 : PlainIx ek1 := by exact fun _ _ => rfl) (hN : X.N[i]? = some x := by rfl) (hv : Vis X.env.scope x := by first | exact Or.inl rfl | exact Or.inr (Or.inl rfl) | exact Or.inr (Or.inr rfl))
    (hd : (x == ("__debug__" : Str)) = false := by decide) (hcd : (x == ("__classdict__" : Str)) = false := by decide)
    (ha : ∀ v, assign (.Subscript (.Subscript (.Name x px) ek1 p1) ek2 spos) X.env v = (do
      let ov ← holding [v] (eval (.Subscript (.Name x px) ek1 p1) X.env)
      let iv ← holding [v, ov] (eval ek2 X.env)
      standAt spos
      holding [v, ov, iv] (setItem ov iv v)
      release [v, ov, iv] []) := by intro _; rfl)
    (hs : swapsWithSole [.Subscript (.Subscript (.Name x px) ek1 p1) ek2 spos] e pos.line X.env = pure false := by rfl) (hw : swappedStores [.Subscript (.Subscript (.Name x px) ek1 p1) ek2 spos] e X.env = pure none := by rfl) (h1 : (assignEach [.Subscript (.Subscript (.Name x px) ek1 p1) ek2 spos] X.env).map (·.2) = [assign (.Subscript (.Subscript (.Name x px) ek1 p1) ek2 spos) X.env] := by rfl) :
    GS w io X (.Assign [.Subscript (.Subscript (.Name x px) ek1 p1) ek2 spos] e pos) (sTabPut i k1 k2 f) := by
  refine ps_imp (ps_asg he (pg_sub (pe_ix (ix_all c) (pv i hN hv hd hcd) hk1 hs1) hk2 (set_any c) ha) hs hw h1) fun Dn σ H => ?_
  rintro ⟨Hf, s, φ, fl, s', g, e, q⟩
  unfold sTabPut at e
  split at e
  · rename_i t0 h0
    obtain ⟨v0, e0, _⟩ := g.here i _ h0
    obtain ⟨⟨d, s1⟩, h2, h3⟩ := R.bind_eq_ok.mp e
    obtain ⟨d1, h4, h5⟩ := R.bind_eq_ok.mp h3
    obtain ⟨d2, h6, h7⟩ := R.bind_eq_ok.mp h5
    simp only at h4 h6 h7
    split at h7
    · rename_i t y hx
      split at h7
      · rename_i hz
        simp only [Bool.and_eq_true] at hz
        obtain ⟨z0, z1, z2, z3⟩ := hz
        split at h7
        · rename_i t' ht'
          cases h7
          refine tE_D g h2 fun v H1 Hf1 φ1 g1 r1 kk => ⟨v0, e0, Hf1, s1, φ1, _, g1, h4, fun u ru => ?_⟩
          cases ru
          obtain ⟨a, b, c', d', kb, kc, kd, e1, p1, a1, hb, hc, hd, rb, rc, rd, nd⟩ := g1.tabs hx
          rw [e0] at e1; cases e1
          simp only [List.nodup_cons, List.mem_cons, List.not_mem_nil, or_false, not_or, not_false_eq_true, and_true, List.nodup_nil] at nd
          obtain ⟨⟨n1, n2, n3⟩, ⟨n4, n5⟩, n6⟩ := nd
          obtain ⟨ky, hky⟩ := Option.isSome_iff_exists.mp z0
          have ek := keyOf_some hky
          subst ek
          unfold Tab.put at ht'
          have put : ∀ (b0 : Addr) (k0 : List (Key × V)) (m0 : List (D × D)), H1 b0 = some (.dK k0) → RpKv w.K Hf1 k0 m0 → szOk (m0.length + 1) = true → b0 ∈ [a, b, c', d'] → valV (tabKv t b c' d') (Sum.inr y) = some (.ref b0) →
              (∀ o, OR w Hf1 (upd H1 b0 (.dK (putK k0 ky v))) (.ref a) (.tab t') [a, b, c', d']) → rIxA X.K (.ref a) (.str y) H1 (fun ov H2 => tq w k2 σ H2 fun iv H3 => rSetA ov iv v H3 fun H4 => Dn.nx σ H4) := fun b0 k0 m0 hb0 rk hz0 mem look orr => by
            refine .inr (.inr ⟨a, .ref b0, rfl, by have := DGet.k (k := Sum.inr y) a1; rw [look] at this; exact this, Hf1, s1, φ1, _, g1, h6, fun u2 r2 => ?_⟩)
            have ev := (Rw.st (H := H1) r2).key
            subst ev
            have mb : b0 ∈ φ1 i := by rw [p1]; exact mem
            obtain ⟨g3, o3⟩ := g1.updM (o := .dK (putK k0 ky v)) (t' := .tab t') hx mb e0 (by rw [p1]; exact orr 0)
            refine .inr ⟨b0, _, rfl, DPut.k hb0 (by have := sz_line (szOk_le hz0); rw [rk.length]; omega), q σ _ Hf1 φ1 g3 ((kk.updO ⟨i, _, hx, mb⟩ (g1.fr i _ b0 hx mb)).weak o3) Kp.refl⟩
          split at ht'
          · rename_i ey
            cases ht'
            exact put b kb t.p hb rb z1 (by simp) (by simp [valV, tabKv, ey]) fun _ => .tab (t := { t with p := putD t.p (keyD ky) d }) (by rw [upd_ne n1]; exact a1) upd_same (by rw [upd_ne (Ne.symm n4)]; exact hc) (by rw [upd_ne (Ne.symm n5)]; exact hd) (rb.put ky r1) rc rd (by simp [n1, n2, n3, n4, n5, n6])
          · rename_i ny
            split at ht'
            · rename_i ey
              cases ht'
              have f1 : ¬ t.x = y := fun z => ny z.symm
              exact put c' kc t.q hc rc z2 (by simp) (by simp [valV, tabKv, ey, f1, ey ▸ f1]) fun _ => .tab (t := { t with q := putD t.q (keyD ky) d }) (by rw [upd_ne n2]; exact a1) (by rw [upd_ne n4]; exact hb) upd_same (by rw [upd_ne (Ne.symm n6)]; exact hd) rb (rc.put ky r1) rd (by simp [n1, n2, n3, n4, n5, n6])
            · rename_i ny2
              split at ht'
              · rename_i ey
                cases ht'
                have f1 : ¬ t.x = y := fun z => ny z.symm
                have f2 : ¬ t.y = y := fun z => ny2 z.symm
                exact put d' kd t.r hd rd z3 (by simp) (by simp [valV, tabKv, ey, f1, f2, ey ▸ f1, ey ▸ f2]) fun _ => .tab (t := { t with r := putD t.r (keyD ky) d }) (by rw [upd_ne n3]; exact a1) (by rw [upd_ne n5]; exact hb) (by rw [upd_ne n6]; exact hc) upd_same rb rc (rd.put ky r1) (by simp [n1, n2, n3, n4, n5, n6])
              · cases ht'
        · cases h7
      · cases h7
    · cases h7
  · cases e
/-! ### a call that reads them alone -/
def tabD (t : Tab) : D := .dict [(.str t.x, .dict t.p), (.str t.y, .dict t.q), (.str t.z, .dict t.r)]
def kCallR (run : List T → R (T × List T)) (g : CV) : EV := fun s => (g s).bind fun q => match q.1 with
  | [.v a, .io j] => (match q.2[j]? with
    | some (some (.tab t)) => (run [.val a, .val (tabD t)]).bind fun r => (match r with
      | (.val x, []) => if x.hasDict = true then .no else .ok (.d x, q.2)
      | _ => .no)
    | _ => .no)
  | _ => .no
mutual
theorem Rp.nodict {K : PySem.W.Frag} {H H' : Hp} (s : ∀ a o, H a = some o → (∀ kvs, o ≠ .dK kvs) → H' a = some o) : ∀ {v : V} {d : D}, d.hasDict = false → Rp K H v d → Rp K H' v d
  | _, _, _, .non => .non
  | _, _, _, .bl b => .bl b
  | _, _, _, .int i => .int i
  | _, _, _, .str x => .str x
  | _, _, n, .lst h r => .lst (s _ _ h fun _ => by simp) (RpA.nodict s (by rw [PyData.hasDict] at n; exact n) r)
  | _, _, n, .tup h r => .tup (by
      rcases h with ⟨o, h, d⟩ | h
      · exact .inl ⟨o, s _ _ h fun _ => by simp, d⟩
      · exact .inr h) (RpA.nodict s (by rw [PyData.hasDict] at n; exact n) r)
  | _, _, n, .dct h r => by simp [PyData.hasDict] at n
theorem RpA.nodict {K : PySem.W.Frag} {H H' : Hp} (s : ∀ a o, H a = some o → (∀ kvs, o ≠ .dK kvs) → H' a = some o) : ∀ {vs : List V} {ds : List D}, PyData.hasDictAll ds = false → RpA K H vs ds → RpA K H' vs ds
  | _, _, _, .nil => .nil
  | _, _, n, .cons h r => by
    rw [PyData.hasDictAll, Bool.or_eq_false_iff] at n
    exact .cons (Rp.nodict s n.1 h) (RpA.nodict s n.2 r)
end
theorem tR_callR {d : Def} {g : CV} {E : XK} (hio : d.io = []) : tE w (kCallR d.run g) σ H Q → tR w g [false, true] σ H fun vs H1 => spD w 2 d vs H1 Q E := by
  rintro ⟨Hf, s, φ, l, s', gd, e, q⟩
  obtain ⟨⟨as, s1⟩, h1, h2⟩ := R.bind_eq_ok.mp e
  refine ⟨Hf, s, φ, as, s1, gd, h1, fun vs H1 Hf1 φ1 g1 r1 p1 k1 => ?_⟩
  simp only at h2
  split at h2
  · rename_i a j
    cases r1 with
    | cons ra rr =>
    cases rr with
    | cons rb rn =>
    cases rn
    rename_i v0 v1
    cases ra with
    | v ra =>
    cases rb with
    | io hv =>
    split at h2
    · rename_i t hj
      obtain ⟨⟨t2, os⟩, h3, h4⟩ := R.bind_eq_ok.mp h2
      split at h4
      · rename_i x heq
        cases heq
        split at h4
        · cases h4
        · rename_i hx
          cases h4
          have hx : x.hasDict = false := by simpa using hx
          obtain ⟨A, B, C, Z, kb, kc, kd, e1, p2, a1, hb, hc, hd, qb, qc, qd, nd⟩ := g1.tabs hj
          rw [hv] at e1
          cases e1
          have none1 : ∀ y ∈ [A, B, C, Z], Hf1 y = none := fun y hy => g1.fr j _ y hj (by rw [p2]; exact hy)
          have isD : ∀ y ∈ [A, B, C, Z], ∃ kvs, H1 y = some (.dK kvs) := fun y hy => by
            simp only [List.mem_cons, List.not_mem_nil, or_false] at hy
            rcases hy with rfl | rfl | rfl | rfl
            · exact ⟨_, a1⟩
            · exact ⟨_, hb⟩
            · exact ⟨_, hc⟩
            · exact ⟨_, hd⟩
          obtain ⟨Hf2, in2, out2⟩ : ∃ Hf2 : Hp, (∀ y ∈ [A, B, C, Z], Hf2 y = H1 y) ∧ ∀ y, y ∉ [A, B, C, Z] → Hf2 y = Hf1 y := ⟨fun y => if y ∈ [A, B, C, Z] then H1 y else Hf1 y, fun y hy => if_pos hy, fun y hy => if_neg hy⟩
          have sub12 : Sub Hf1 Hf2 := fun y o h => by
            by_cases m : y ∈ [A, B, C, Z]
            · rw [none1 y m] at h; cases h
            · rw [out2 y m]; exact h
          have sub2 : Sub Hf2 H1 := fun y o h => by
            by_cases m : y ∈ [A, B, C, Z]
            · rw [in2 y m] at h; exact h
            · rw [out2 y m] at h; exact g1.sub y o h
          have gN : Good w [some v0, some (.ref A)] H1 Hf2 [some (.val a), some (.val (tabD t))] (fun _ => []) := by
            refine ⟨sub2, rfl, fun i u hi => ?_, fun i u y _ m => (nomatch m), fun i i' u u' y _ _ m => (nomatch m)⟩
            match i, hi with
            | 0, hi => cases hi; exact ⟨v0, rfl, .val (ra.mono sub12)⟩
            | 1, hi =>
              cases hi
              refine ⟨.ref A, rfl, .val (.dct (.inl (by rw [in2 A (by simp)]; exact a1)) ?_)⟩
              exact .cons (k := Sum.inr t.x) (.dct (.inl (by rw [in2 B (by simp)]; exact hb)) (qb.mono sub12)) (.cons (k := Sum.inr t.y) (.dct (.inl (by rw [in2 C (by simp)]; exact hc)) (qc.mono sub12)) (.cons (k := Sum.inr t.z) (.dct (.inl (by rw [in2 Z (by simp)]; exact hd)) (qd.mono sub12)) .nil))
            | n + 2, hi => simp at hi
          refine ⟨Hf2, [.val a, .val (tabD t)], fun _ => [], .val x, [], rfl, gN, h3, fun v H' Hf' ψ F' gb r2 c2 k2 => ?_⟩
          have noown : ∀ y, ¬ Own [some (.val a), some (.val (tabD t))] (fun _ => []) y := fun y ⟨_, _, _, m⟩ => nomatch m
          have keep : ∀ y o, H1 y = some o → H' y = some o := fun y o h => k2.keep y o h (noown y)
          obtain ⟨Hf3, in3, out3⟩ : ∃ Hf3 : Hp, (∀ y ∈ [A, B, C, Z], Hf3 y = none) ∧ ∀ y, y ∉ [A, B, C, Z] → Hf3 y = Hf' y := ⟨fun y => if y ∈ [A, B, C, Z] then none else Hf' y, fun y hy => if_pos hy, fun y hy => if_neg hy⟩
          have sub13 : Sub Hf1 Hf3 := fun y o h => by
            by_cases m : y ∈ [A, B, C, Z]
            · rw [none1 y m] at h; cases h
            · rw [out3 y m]; exact k2.sub y o (sub12 y o h)
          have new3 : ∀ y, Hf3 y ≠ none → Hf1 y ≠ none ∨ H1 y = none := fun y hy => by
            by_cases m : y ∈ [A, B, C, Z]
            · exact (hy (in3 y m)).elim
            · rw [out3 y m] at hy
              rcases k2.new y (.inr hy) with z | z | z
              · exact (noown y z).elim
              · rw [out2 y m] at z; exact .inl z
              · exact .inr z
          have g3 : Good w σ H' Hf3 s' φ1 := by
            refine ⟨fun y o h => ?_, g1.len, fun i u hu => ?_, fun i u y hu hy => ?_, g1.dj⟩
            · by_cases m : y ∈ [A, B, C, Z]
              · rw [in3 y m] at h; cases h
              · rw [out3 y m] at h; exact gb.sub y o h
            · obtain ⟨v', e', r'⟩ := g1.here i u hu
              exact ⟨v', e', r'.stay sub13 fun y _ o ho => keep y o ho⟩
            · cases hz : Hf3 y with
              | none => rfl
              | some o =>
                rcases new3 y (by rw [hz]; simp) with z | z
                · exact (z (g1.fr i u y hu hy)).elim
                · obtain ⟨o', e'⟩ := g1.own_some ⟨i, u, hu, hy⟩
                  rw [e'] at z; cases z
          have rx : Rp w.K Hf' v x := by
            cases r2 with
            | val r => exact r
          refine q v H' Hf3 φ1 [] g3 (.d (Rp.nodict (fun y o hy hne => ?_) hx rx)) ((k1.trans (P1' := Own s' φ1) (P1 := Own s' φ1) (P2 := Own s' φ1) ⟨sub13, fun y o h _ => keep y o h, fun y z => ?_⟩ (fun _ => id) fun y hy => g1.own_free hy).weak fun y z => z.elim id fun z => nomatch z)
          · by_cases m : y ∈ [A, B, C, Z]
            · obtain ⟨kvs, hk⟩ := isD y m
              have : Hf' y = some (.dK kvs) := k2.sub y _ (by rw [in2 y m]; exact hk)
              rw [this] at hy
              cases hy
              exact (hne kvs rfl).elim
            · rw [out3 y m]; exact hy
          · rcases z with z | z
            · exact .inl z
            · exact .inr (new3 y z)
      · cases h4
    · cases h2
  · cases h2
theorem ge_callR {j : Nat} {x : Str} {d : Def} {px : Pos} {e : Expr} {es : List Expr} {g : CV} (c : Cok w k X) (C : CalG X.prog X.w X.K X.mg X.base j x (spD w 2 d)) (ha : GR w X (e :: es) g [false, true]) (hk : j ≤ k := by decide) (hio : d.io = [] := by rfl) (hg : Gl X x := by rfl)
    (hdb : (x == ("__debug__" : Str)) = false := by decide) (he : starEach (e :: es) X.env = (false, eval e X.env) :: starEach es X.env := by rfl) (hpl : (backTo pos (starEach es X.env)).any (·.1) = false := by rfl) : GE w X (.Call (.Name x px) (e :: es) [] pos) (kCallR d.run g) :=
  pe_imp (pe_G (E := E0) c C hk hg ha hdb he hpl) fun _ _ _ => tR_callR hio
/-! ### repr of a dict of what holds no list, no dict -/
mutual
def tupOnly : D → Bool
  | .list _ => false
  | .dict _ => false
  | .tuple xs => tupAll xs
  | .none => true
  | .bool _ => true
  | .int _ => true
  | .str _ => true
def tupAll : List D → Bool
  | [] => true
  | x :: xs => tupOnly x && tupAll xs
end
section
variable {pins : List (Addr × Obj)} {sh : Shared}
mutual
theorem Rp.reads0 (I : Inv X pins σ H sh) : ∀ (d : D) (v : V) (u : Value), tupOnly d = true → Rp X.K H v d → RelV v u → Reads sh.heap u d []
  | .none, _, _, _, h, r => by
    cases h; cases r
    exact Reads.none
  | .bool b, _, _, _, h, r => by
    cases h; cases r
    exact Reads.bool b
  | .int i, _, _, _, h, r => by
    cases h
    obtain ⟨t, rfl⟩ := r
    exact Reads.int i t
  | .str x, _, _, _, h, r => by
    cases h
    obtain ⟨t, rfl⟩ := r
    exact Reads.str x t
  | .list _, _, _, n, _, _ => by rw [tupOnly] at n; cases n
  | .dict _, _, _, n, _, _ => by rw [tupOnly] at n; cases n
  | .tuple ds, _, _, n, h, r => by
    cases h with
    | tup hs ha =>
      cases r
      obtain ⟨its, rv, ⟨o, ho, hc, n', hd⟩, _⟩ := I.tuple hs.sq
      exact Reads.tuple ho hc hd (RpA.reads0 I ds _ its (by rw [tupOnly] at n; exact n) ha rv)
theorem RpA.reads0 (I : Inv X pins σ H sh) : ∀ (ds : List D) (vs : List V) (us : List Value), tupAll ds = true → RpA X.K H vs ds → Vals vs us → ReadsAll sh.heap us ds []
  | [], _, _, _, h, r => by
    cases h; cases r
    exact ReadsAll.nil
  | d :: ds, _, _, n, h, r => by
    rw [tupAll, Bool.and_eq_true] at n
    cases h with
    | cons h1 h2 =>
      cases r with
      | cons r1 r2 => exact ReadsAll.cons (Rp.reads0 I d _ _ n.1 h1 r1) (RpA.reads0 I ds _ _ n.2 h2 r2)
end
theorem key_reads {h : Heap} {k : Key} {u : Value} (e : keyIs k u = true) : Reads h u (keyD k) [] := by
  rcases keyIs_shape e with ⟨i, t, rfl, rfl⟩ | ⟨x, t, rfl, rfl⟩
  · exact Reads.int i t
  · exact Reads.str x t
theorem kv_reads (I : Inv X pins σ H sh) : ∀ {kvs : List (Key × V)} {ds : List (D × D)} {vs : List (Key × Value)} {es : List DictEntry}, RpKv X.K H kvs ds → KV kvs vs → Pairs (mixKind X.prog X.w) es vs → ds.all (fun x => tupOnly x.2) = true →
    ReadsAll sh.heap (es.map (·.key)) (ds.map (·.1)) [] ∧ ReadsAll sh.heap (es.map (·.val)) (ds.map (·.2)) []
  | _, _, _, _, .nil, r, p, _ => by
    cases r
    cases p
    exact ⟨ReadsAll.nil, ReadsAll.nil⟩
  | _, _, _, _, .cons h t, r, p, n => by
    rw [List.all_cons, Bool.and_eq_true] at n
    cases r with
    | cons r1 r2 =>
      cases p with
      | cons p1 p2 p3 =>
        obtain ⟨q1, q2⟩ := kv_reads I t r2 p3 n.2
        rw [List.map_cons, List.map_cons, List.map_cons, List.map_cons, p2]
        rw [← show _ = _ from r1.1] at p1
        exact ⟨ReadsAll.cons (as := []) (bs := []) (key_reads p1) q1, ReadsAll.cons (as := []) (bs := []) (Rp.reads0 I _ _ _ n.1 h r1.2) q2⟩
end
def showOkD (ds : List (D × D)) : Bool := (PyData.dict ds).showable && (decide ((PyData.dict ds).depth ≤ 64) && (ds.all (fun x => tupOnly x.2) && decide ((PyData.dict ds).shown.length ≤ sizeLine)))
def pReprD (d : D) : R L := match d with
  | .dict ds => if showOkD ds then .ok (.d (.str (PyData.dict ds).shown)) else .no
  | _ => .no
def rReprD (K : PySem.W.Frag) : List V → Hp → VK → Prop := fun xs H Q => ∃ a kvs ds, xs = [V.ref a] ∧ Rd H a (.dK kvs) ∧ RpKv K H kvs ds ∧ showOkD ds = true ∧ Q (.str (PyData.dict ds).shown) H
theorem call_reprD (c : Cok w k X) : CallR X (.builtin "repr") (rReprD X.K) := by
  intro pins s σ H xs us Q I r ⟨a, kvs, ds, ex, ha, hr, hs, q⟩
  subst ex
  obtain ⟨u, rfl, rx⟩ := vals1 r
  have hu := c.u
  unfold showOkD at hs
  simp only [Bool.and_eq_true, decide_eq_true_eq] at hs
  obtain ⟨h1, h2, h3, h4⟩ := hs
  cases rx
  obtain ⟨z, hd, vs, rel, o, es, ep, e1, e2, e3, _, e5, _⟩ := dk_rd I.hok ha
  obtain ⟨q1, q2⟩ := kv_reads I hr rel e5 h3
  have fin : ∀ (h' : Heap) (t : Tok) (tk : Nat), (∀ b o, s.heap.get? b = some o → h'.get? b = some o) → EP X pins σ Q (.str (PyData.dict ds).shown t) { s with heap := h', toks := tk } := fun h' t tk hk => ⟨.str (PyData.dict ds).shown, H, I.kept hk, ⟨t, rfl⟩, q⟩
  exact repr_of_reads' (Reads.dict e1 e2.1 e3 q1 q2) h1 (fun _ m => by
    have : sysModules = a := by simpa using m
    rw [this] at hd
    simp at hd) c.gd (by omega) (fun _ _ e => e) (fun h' t tk hk => fin h' t tk hk) h4
theorem ge_reprD {px : Pos} {a : Expr} {f : EV} (hm : X.mg "repr" = none) (c : Cok w k X) (ha : GE w X a f) (hg : Gl X "repr" := by rfl) (he : starEach [a] X.env = (false, eval a X.env) :: starEach [] X.env := by rfl) : GE w X (.Call (.Name "repr" px) [a] [] pos) (k1 pReprD f) := by
  refine ge_b1 (call_reprD c) ?_ hm ha PyProof.Rows.boot_repr hg (by decide) (by decide) he
  intro σ H Hf s φ v d l Q g r hp q
  unfold pReprD at hp
  split at hp
  · rename_i ds
    split at hp
    · rename_i hs
      cases hp
      obtain ⟨a, kvs, rfl, ha, rr⟩ := r.dict g.sub
      rw [c.K]
      exact ⟨a, kvs, ds, rfl, ha, rr.mono g.sub, hs, q.d g (.str _)⟩
    · cases hp
  · cases hp
end
end KV

set_option Elab.async false
set_option linter.all false
set_option maxRecDepth 100000
set_option maxHeartbeats 4000000
/-! KVZ: for k in d, [.. for k in d ..]: the dict is locked as long as it is walked. -/
namespace KV
open PySem L2
open PySem.Spec PyProof.Rows

/-- the dict at d is locked, or unlocked -/
structure Sw (d : Addr) (kk : List (Key × V)) (H H1 : Hp) : Prop where
  ne : ∀ a, a ≠ d → H1 a = H a
  l : Rd H d (.dK kk)
  r : Rd H1 d (.dK kk)
theorem rd_one {H : Hp} {a : Addr} {k1 k2 : List (Key × V)} (h1 : Rd H a (.dK k1)) (h2 : Rd H a (.dK k2)) : k1 = k2 := by
  rcases h1 with h1 | ⟨_, h1⟩ <;> rcases h2 with h2 | ⟨_, h2⟩ <;> (rw [h1] at h2; cases h2; try rfl)
theorem rd_ne {H : Hp} {d a : Addr} {kk : List (Key × V)} {o : HO} (h : Rd H d (.dK kk)) (e : H a = some o) (n1 : ∀ k, o ≠ .dK k) (n2 : ∀ z k, o ≠ .frz z (.dK k)) : a ≠ d := fun z => by
  subst z
  rcases h with h | ⟨_, h⟩
  · rw [h] at e; cases e; exact n1 _ rfl
  · rw [h] at e; cases e; exact n2 _ _ rfl
section
variable {K : PySem.W.Frag} {H H1 : Hp} {d : Addr} {kk : List (Key × V)}
mutual
theorem Rp.swap (s : Sw d kk H H1) : ∀ {v : V} {x : D}, Rp K H v x → Rp K H1 v x
  | _, _, .non => .non
  | _, _, .bl b => .bl b
  | _, _, .int i => .int i
  | _, _, .str x => .str x
  | _, _, .lst h r => .lst (by rw [s.ne _ (rd_ne s.l h (fun _ z => nomatch z) (fun _ _ z => nomatch z))]; exact h) (RpA.swap s r)
  | _, _, .tup h r => .tup (by
      rcases h with ⟨o, h, e⟩ | h
      · exact .inl ⟨o, by rw [s.ne _ (rd_ne s.l h (fun _ z => nomatch z) (fun _ _ z => by cases z))]; exact h, e⟩
      · exact .inr h) (RpA.swap s r)
  | _, _, .dct (a := a) h r => .dct (by
      by_cases e : a = d
      · subst e
        rw [rd_one h s.l]
        exact s.r
      · unfold Rd
        rw [s.ne a e]
        exact h) (RpKv.swap s r)
theorem RpA.swap (s : Sw d kk H H1) : ∀ {vs : List V} {ds : List D}, RpA K H vs ds → RpA K H1 vs ds
  | _, _, .nil => .nil
  | _, _, .cons h r => .cons (Rp.swap s h) (RpA.swap s r)
theorem RpKv.swap (s : Sw d kk H H1) : ∀ {vs : List (Key × V)} {ds : List (D × D)}, RpKv K H vs ds → RpKv K H1 vs ds
  | _, _, .nil => .nil
  | _, _, .cons h r => .cons (Rp.swap s h) (RpKv.swap s r)
end
end
section
variable {w : Wd} {k : Nat} {X : Cx} {pos : Pos} {σ : L2.St} {H Hf H1 Hf1 : Hp} {s s' : Sl} {φ : Nat → List Addr} {Q : VK} {io : List Nat} {d : Addr} {kk : List (Key × V)}
def NoCl (w : Wd) : Prop := ∀ H v n f, ¬ w.CL H v n f
theorem rd_some {u : HO} (h : Rd H d u) : H d ≠ none := by
  rcases h with h | ⟨_, h⟩ <;> (rw [h]; simp)
theorem OR.swap {v : V} {t : T} {F : List Addr} (nc : NoCl w) (sf : Sw d kk Hf Hf1) (keep : ∀ a, a ≠ d → H1 a = H a) (fr : ∀ a ∈ F, Hf a = none) (r : OR w Hf H v t F) : OR w Hf1 H1 v t F := by
  have ne : ∀ a ∈ F, a ≠ d := fun a ha z => rd_some sf.l (z ▸ fr a ha)
  cases r with
  | val r => exact .val (r.swap sf)
  | lst h r => exact .lst (by rw [keep _ (ne _ (by simp))]; exact h) (r.swap sf)
  | dct h r => exact .dct (by rw [keep _ (ne _ (by simp))]; exact h) (r.swap sf)
  | src h1 h2 => exact .src (by rw [keep _ (ne _ (by simp))]; exact h1) (by rw [keep _ (ne _ (by simp))]; exact h2)
  | clo c => exact (nc _ _ _ _ c).elim
  | scr c =>
    refine .scr ?_
    rcases c with c | c
    · refine .inl ?_
      rename_i a ns
      have na : a ≠ d := by
        rcases c with c | ⟨_, c⟩
        · exact rd_ne sf.l c (fun _ z => nomatch z) (fun _ _ z => nomatch z)
        · exact rd_ne sf.l c (fun _ z => nomatch z) (fun _ _ z => by cases z)
      unfold Rd
      rw [sf.ne a na]
      exact c
    · exact .inr c
  | tab h1 h2 h3 h4 r1 r2 r3 nd =>
    exact .tab (by rw [keep _ (ne _ (by simp))]; exact h1) (by rw [keep _ (ne _ (by simp))]; exact h2) (by rw [keep _ (ne _ (by simp))]; exact h3) (by rw [keep _ (ne _ (by simp))]; exact h4) (r1.swap sf) (r2.swap sf) (r3.swap sf) nd
theorem Good.swap (nc : NoCl w) (g : Good w σ H Hf s φ) (sw : Sw d kk H H1) (sf : Sw d kk Hf Hf1) (e : Hf1 d = H1 d) : Good w σ H1 Hf1 s φ := by
  refine ⟨fun a o h => ?_, g.len, fun i t h => ?_, fun i t a h m => ?_, g.dj⟩
  · by_cases z : a = d
    · subst z; rw [← e]; exact h
    · rw [sf.ne a z] at h; rw [sw.ne a z]; exact g.sub a o h
  · obtain ⟨v, h1, r⟩ := g.here i t h
    exact ⟨v, h1, r.swap nc sf sw.ne fun a ha => g.fr i t a h ha⟩
  · have := g.fr i t a h m
    rw [sf.ne a fun z => rd_some sf.l (z ▸ this)]
    exact this
theorem Sw.lock {od : Obj} (h : H d = some (.dK kk)) : Sw d kk H (upd H d (.frz od (.dK kk))) := ⟨fun a n => upd_ne n, .inl h, .inr ⟨od, upd_same⟩⟩
theorem Sw.unlock {od : Obj} (h : H d = some (.frz od (.dK kk))) : Sw d kk H (upd H d (.dK kk)) := ⟨fun a n => upd_ne n, .inr ⟨od, h⟩, .inl upd_same⟩
theorem Stp.unlock {od : Obj} {P P' : Addr → Prop} {H' Hf' : Hp} (h : H d = some (.dK kk)) (hf : Hf d = some (.dK kk)) (q : Stp (upd H d (.frz od (.dK kk))) (upd Hf d (.frz od (.dK kk))) P H' Hf' P') : Stp H Hf P (upd H' d (.dK kk)) (upd Hf' d (.dK kk)) P' := by
  refine ⟨fun a o e => ?_, fun a o e n => ?_, fun a z => ?_⟩
  · by_cases x : a = d
    · subst x; rw [hf] at e; cases e; exact upd_same
    · rw [upd_ne x]; exact q.sub a o (by rw [upd_ne x]; exact e)
  · by_cases x : a = d
    · subst x; rw [h] at e; cases e; exact upd_same
    · rw [upd_ne x]; exact q.keep a o (by rw [upd_ne x]; exact e) n
  · by_cases x : a = d
    · subst x; exact .inr (.inl (by rw [hf]; simp))
    · rw [upd_ne x] at z
      have := q.new a z
      rw [upd_ne x, upd_ne x] at this
      exact this
theorem PQ.lock {od : Obj} {l : L} (nc : NoCl w) (h : H d = some (.dK kk)) (hf : Hf d = some (.dK kk)) (q : PQ w σ H Hf s φ s' l Q) :
    PQ w σ (upd H d (.frz od (.dK kk))) (upd Hf d (.frz od (.dK kk))) s φ s' l (fun v H' => H' d = some (.frz od (.dK kk)) ∧ Q v (upd H' d (.dK kk))) := fun v H' Hf' φ' F g r st => by
  have e1 : Hf' d = some (.frz od (.dK kk)) := st.sub d _ upd_same
  have e2 : H' d = some (.frz od (.dK kk)) := g.sub d _ e1
  refine ⟨e2, q v _ (upd Hf' d (.dK kk)) φ' F (g.swap nc (.unlock e2) (.unlock e1) (by rw [upd_same, upd_same])) ?_ (st.unlock h hf)⟩
  cases r with
  | d r => exact .d (r.swap (.unlock e1))
  | o e => exact .o e
  | t r c => exact .t (r.swap nc (.unlock e1) (fun a n => upd_ne n) fun a ha => (c a ha).1) fun a ha => ⟨by
      have := (c a ha).1
      rw [upd_ne fun z => by rw [z, e1] at this; cases this]
      exact this, (c a ha).2⟩
def EndsL (D : Ends) (d : Addr) (od : Obj) (u : HO) : Ends :=
  ⟨fun σ' H' => H' d = some (.frz od u) ∧ D.nx σ' (upd H' d u), fun v H' => H' d = some (.frz od u) ∧ D.rt v (upd H' d u), fun σ' H' => H' d = some (.frz od u) ∧ D.bk σ' (upd H' d u), fun σ' H' => H' d = some (.frz od u) ∧ D.ct σ' (upd H' d u)⟩
theorem PP.lock {od : Obj} {Dn : Ends} {fl : Fl} (nc : NoCl w) (h : H d = some (.dK kk)) (hf : Hf d = some (.dK kk)) (q : PP w io σ H Hf s φ Dn fl s') :
    PP w io σ (upd H d (.frz od (.dK kk))) (upd Hf d (.frz od (.dK kk))) s φ (EndsL Dn d od (.dK kk)) fl s' := by
  have one : ∀ {σ' : L2.St} {H' Hf' : Hp} {φ' : Nat → List Addr} {P' : Addr → Prop}, Good w σ' H' Hf' s' φ' → Stp (upd H d (.frz od (.dK kk))) (upd Hf d (.frz od (.dK kk))) (Own s φ) H' Hf' P' →
      Hf' d = some (.frz od (.dK kk)) ∧ H' d = some (.frz od (.dK kk)) ∧ Good w σ' (upd H' d (.dK kk)) (upd Hf' d (.dK kk)) s' φ' ∧ Stp H Hf (Own s φ) (upd H' d (.dK kk)) (upd Hf' d (.dK kk)) P' := fun g st => by
    have e1 := st.sub d _ upd_same
    have e2 := g.sub d _ e1
    exact ⟨e1, e2, g.swap nc (.unlock e2) (.unlock e1) (by rw [upd_same, upd_same]), st.unlock h hf⟩
  cases fl with
  | nx => exact fun σ' H' Hf' φ' g st kp => let ⟨_, e2, g2, k2⟩ := one g st; ⟨e2, q σ' _ _ φ' g2 k2 kp⟩
  | bk => exact fun σ' H' Hf' φ' g st kp => let ⟨_, e2, g2, k2⟩ := one g st; ⟨e2, q σ' _ _ φ' g2 k2 kp⟩
  | ct => exact fun σ' H' Hf' φ' g st kp => let ⟨_, e2, g2, k2⟩ := one g st; ⟨e2, q σ' _ _ φ' g2 k2 kp⟩
  | rt t => 
    exact fun v σ' H' Hf' φ' F g r c st kp => by
      obtain ⟨e1, e2, g2, k2⟩ := one g st
      exact ⟨e2, q v σ' _ _ φ' F g2 (r.swap nc (.unlock e1) (fun a n => upd_ne n) fun a ha => (c a ha).1) (fun a ha => ⟨by
        have := (c a ha).1
        rw [upd_ne fun z => by rw [z, e1] at this; cases this]
        exact this, (c a ha).2⟩) k2 kp⟩
/-! ### the keys of a dict, walked -/
def iK0 (i : Nat) : IV := fun s => match s[i]? with
  | some (some (.val (.dict kvs))) => .ok (kvs.map (·.1), s)
  | _ => .no
theorem iK0_ok {i : Nat} {ds : List D} (e : iK0 i s = .ok (ds, s')) : ∃ kvs, s[i]? = some (some (.val (.dict kvs))) ∧ ds = kvs.map (·.1) ∧ s' = s := by
  unfold iK0 at e
  split at e
  · rename_i kvs h
    cases e
    exact ⟨kvs, h, rfl, rfl⟩
  · cases e
theorem Good.dict (g : Good w σ H Hf s φ) {i : Nat} {kvs : List (D × D)} (h : s[i]? = some (some (.val (.dict kvs)))) : ∃ d kk, σ[i]? = some (some (.ref d)) ∧ Rd Hf d (.dK kk) ∧ RpKv w.K Hf kk kvs := by
  obtain ⟨v, e, r⟩ := g.here i _ h
  generalize φ i = F at r
  cases r with
  | val r =>
    cases r with
    | dct h r => exact ⟨_, _, e, h, r⟩
/-- the dict in the slot is locked -/
def Lkd (i : Nat) (σ : L2.St) (H : Hp) : Prop := ∃ d o kk, σ[i]? = some (some (.ref d)) ∧ H d = some (.frz o (.dK kk))
theorem key_at : ∀ {kk : List (Key × V)} {kvs : List (D × D)} {i : Nat} {d : D}, RpKv w.K Hf kk kvs → (kvs.map (·.1))[i]? = some d → ∃ k v, kk[i]? = some (k, v) ∧ d = keyD k
  | _, _, _, _, .nil, h => by simp at h
  | _, _, 0, _, .cons _ _, h => by simp at h; subst h; exact ⟨_, _, rfl, rfl⟩
  | _, _, i + 1, _, .cons _ t, h => by
    obtain ⟨k, v, h1, h2⟩ := key_at (i := i) t (by simpa using h)
    exact ⟨k, v, by simpa using h1, h2⟩
theorem rp_key {K : PySem.W.Frag} {k : Key} : Rp K H (kV k) (keyD k) := by
  cases k
  · exact .int _
  · exact .str _
theorem wk_keys {o : Obj} {kvs : List (D × D)} (h : Hf d = some (.frz o (.dK kk))) (r : RpKv w.K Hf kk kvs) : Wk w (Itk d o kk) (kvs.map (·.1)) Hf := by
  have hl : kk.length = (kvs.map (·.1)).length := by rw [List.length_map, r.length]
  refine ⟨fun i H Hf2 s1 s2 hi => ⟨s2 _ _ (s1 _ _ h), by omega⟩, fun H Hf2 s1 s2 => ⟨s2 _ _ (s1 _ _ h), by omega⟩, fun i H Hf2 x H' y s1 s2 hd yl => ?_⟩
  obtain ⟨rfl, k, v, h1, rfl⟩ := yl
  obtain ⟨k', v', h2, rfl⟩ := key_at r hd
  rw [h1] at h2
  cases h2
  exact ⟨rfl, rp_key⟩
def tIl (w : Wd) (i : Nat) : TI := fun σ H Rv => tI w (iK0 i) σ H Rv ∧ Lkd i σ H
section
variable {x : Str} {px : Pos} {tg : Expr}
theorem gi_keysL (i : Nat) (hN : X.N[i]? = some x) (hv : Vis X.env.scope x) (hd : (x == ("__debug__" : Str)) = false) (hcd : (x == ("__classdict__" : Str)) = false) : PI X tg (.Name x px) (tIl w i) := by
  refine pi_imp (pi_keys (pv i hN hv hd hcd)) fun σ H Rv => ?_
  rintro ⟨⟨Hf, s, φ, ds, s', g, e, q⟩, d', o, kk', e0, hl⟩
  obtain ⟨kvs, h1, rfl, rfl⟩ := iK0_ok e
  obtain ⟨d, kk, e1, hr, rk⟩ := g.dict h1
  rw [e0] at e1
  cases e1
  have hf : Hf d' = some (.frz o (.dK kk)) ∧ kk' = kk := by
    rcases hr with hr | ⟨o', hr⟩
    · have := g.sub _ _ hr
      rw [hl] at this
      cases this
    · have := g.sub _ _ hr
      rw [hl] at this
      cases this
      exact ⟨hr, rfl⟩
  obtain ⟨hf, rfl⟩ := hf
  exact ⟨_, e0, d', o, rfl, .inl ⟨kk', hl, q _ H Hf φ g Stp.refl (wk_keys hf rk)⟩⟩
theorem gs_forK0 {body : List Stmt} {g : GV} {ts : List Nat} {b : SV} (i : Nat) (nc : NoCl w) (c : Cok w k X) (hp : PassesOwn (model X.prog X.w) X.A X.env X.xe) (hg : GG w X tg g ts) (hb : GSs w io X body b)
    (hN : X.N[i]? = some x := by rfl) (hv : Vis X.env.scope x := by first | exact Or.inl rfl | exact Or.inr (Or.inl rfl) | exact Or.inr (Or.inr rfl)) (hd : (x == ("__debug__" : Str)) = false := by decide) (hcd : (x == ("__classdict__" : Str)) = false := by decide) (hio : ∀ i ∈ ts, i ∉ io := by decide)
    (hs : ∀ y, foldedSetIterable (.Name x px) X.env y = pure y := by intro _; rfl) : GS w io X (.For tg (.Name x px) body [] pos) (sFor (iK0 i) g b) := by
  have base := ps_for (pos := pos) hp c.calm (gi_keysL (w := w) (px := px) (tg := tg) i hN hv hd hcd) hg hb hs
  refine ⟨fun pins sh σ H Dn I h => ?_⟩
  have step : ∀ {Dn : Ends} {H : Hp}, tS w io (sFor (iK0 i) g b) Dn σ H → Lkd i σ H → tFor (tIl w i) (tG w g ts) (tS w io b) Dn σ H := fun {Dn H} h lk => by
    obtain ⟨Hf, s, φ, fl, s', gd, e, q⟩ := h
    obtain ⟨⟨ds, s1⟩, h1, h2⟩ := R.bind_eq_ok.mp e
    exact ⟨⟨Hf, s, φ, ds, s1, gd, h1, fun J H1 Hf1 φ1 g1 k1 wk => for_1 hio g1 wk h2 (q.later k1 (fun _ => id) g1)⟩, lk⟩
  obtain ⟨Hf, s, φ, fl, s', gd, e, q⟩ := h
  obtain ⟨⟨ds, s1⟩, h1, h2⟩ := R.bind_eq_ok.mp e
  obtain ⟨kvs, h3, _, _⟩ := iK0_ok h1
  obtain ⟨d, kk, e1, hr, rk⟩ := gd.dict h3
  rcases hr with hr | ⟨o, hr⟩
  · have hH := gd.sub _ _ hr
    exact (ps_lock base).run pins sh σ H Dn I ⟨d, .dK kk, hH, trivial, fun od => step ⟨upd Hf d (.frz od (.dK kk)), s, φ, fl, s', gd.swap nc (.lock hH) (.lock hr) (by rw [upd_same, upd_same]), e, q.lock nc hH hr⟩ ⟨d, od, kk, e1, upd_same⟩⟩
  · exact base.run pins sh σ H Dn I (step ⟨Hf, s, φ, fl, s', gd, e, q⟩ ⟨d, o, kk, e1, gd.sub _ _ hr⟩)
theorem ge_lcK0 {elt : Expr} {ifs : List Expr} {scope : Scope} {g : GV} {ts : List Nat} {c0 : Option BV} {f : EV} (own : List (Str × Nat)) (i : Nat) (nc : NoCl w) (c : Cok w k X) (ok : blkC X.N X.env.scope scope own = true)
    (hg : ∀ (s : Shared) (H : Hp) (C : Addr) (cl : List (Str × Addr)) (fp : List Addr), GG w (X.blk s H scope (compEnvC scope cl C X.env) fp) tg g ts) (ht : ∀ (s : Shared) (H : Hp) (C : Addr) (cl : List (Str × Addr)) (fp : List Addr), GC w (X.blk s H scope (compEnvC scope cl C X.env) fp) ifs c0)
    (he : ∀ (s : Shared) (H : Hp) (C : Addr) (cl : List (Str × Addr)) (fp : List Addr), GE w (X.blk s H scope (compEnvC scope cl C X.env) fp) elt f)
    (hN : X.N[i]? = some x := by rfl) (hv : Vis X.env.scope x := by first | exact Or.inl rfl | exact Or.inr (Or.inl rfl) | exact Or.inr (Or.inr rfl)) (hd : (x == ("__debug__" : Str)) = false := by decide) (hcd : (x == ("__classdict__" : Str)) = false := by decide)
    (hts : ∀ i ∈ ts, i ∈ own.map (·.2) := by decide) (hs : ∀ y, foldedSetIterable (.Name x px) X.env y = pure y := by intro _; rfl) :
    GE w X (.ListComp elt [⟨tg, .Name x px, ifs, 0⟩] scope pos) (kComp (iK0 i) g c0 f (own.map (·.2))) := by
  have base := pe_lc (pos := pos) c.calm c.nd (gi_keysL (w := w) (px := px) (tg := tg) i hN hv hd hcd) (blkOk_by ok) hg ht he hs
  refine ⟨fun pins sh σ H Q I h => ?_⟩
  have step : ∀ {Q : VK} {H : Hp}, tE w (kComp (iK0 i) g c0 f (own.map (·.2))) σ H Q → Lkd i σ H → tLc (tIl w i) (tG w g ts) (tC w c0) (tE w f) (own.map (·.2)) σ H Q := fun {Q H} h lk => ⟨tLc_1 hts h, lk⟩
  obtain ⟨Hf, s, φ, l, s', gd, e, q⟩ := h
  obtain ⟨⟨ds, s1⟩, h1, h2⟩ := R.bind_eq_ok.mp e
  obtain ⟨kvs, h3, _, _⟩ := iK0_ok h1
  obtain ⟨d, kk, e1, hr, rk⟩ := gd.dict h3
  rcases hr with hr | ⟨o, hr⟩
  · have hH := gd.sub _ _ hr
    exact (pe_lock base).run pins sh σ H Q I ⟨d, .dK kk, hH, trivial, fun od => step ⟨upd Hf d (.frz od (.dK kk)), s, φ, l, s', gd.swap nc (.lock hH) (.lock hr) (by rw [upd_same, upd_same]), e, q.lock nc hH hr⟩ ⟨d, od, kk, e1, upd_same⟩⟩
  · exact base.run pins sh σ H Q I (step ⟨Hf, s, φ, l, s', gd, e, q⟩ ⟨d, o, kk, e1, gd.sub _ _ hr⟩)
def iK (i : Nat) : IV := fun s => (kD (kX i) s).bind fun r => match r.1 with
  | .dict kvs => .ok (kvs.map (·.1), r.2)
  | _ => .no
theorem iK_frz {i : Nat} {ds : List D} {s1 : Sl} (g : Good w σ H Hf s φ) (e : iK i s = .ok (ds, s1)) : ∃ Hf1 φ1, Good w σ H Hf1 s1 φ1 ∧ Stp H Hf (Own s φ) H Hf1 (Own s1 φ1) ∧ iK0 i s1 = .ok (ds, s1) := by
  obtain ⟨⟨d, s2⟩, h1, h2⟩ := R.bind_eq_ok.mp e
  simp only at h2
  split at h2
  · rename_i kvs
    cases h2
    unfold kD kX at h1
    split at h1
    · rename_i d' hd'
      cases h1
      exact ⟨Hf, φ, g, Stp.refl, by unfold iK0; rw [hd']⟩
    · rename_i xs hx
      obtain ⟨⟨l, s3⟩, h3, h4⟩ := R.bind_eq_ok.mp h1
      cases h3
      simp only [L.take, hx, T.toD, R.bind_ok] at h4
      cases h4
    · rename_i xs hx
      obtain ⟨⟨l, s3⟩, h3, h4⟩ := R.bind_eq_ok.mp h1
      cases h3
      obtain ⟨v, hv, _⟩ := g.here i _ hx
      obtain ⟨Hf1, φ1, rp, g1, k1⟩ := (RL.o (w := w) (Hf := Hf) (H := H) (s := s) (φ := φ) hv).take g h4
      simp only [L.take, hx, T.toD, R.bind_ok] at h4
      cases h4
      refine ⟨Hf1, φ1, g1, ⟨k1.sub, fun a o h n => k1.keep a o h fun z => z.elim n (fun z => (nomatch z)), fun a z => ?_⟩, ?_⟩
      · rcases k1.new a z with z | z
        · exact .inl (z.elim id fun z => nomatch z)
        · exact .inr z
      · unfold iK0
        rw [List.getElem?_set_self (List.getElem?_eq_some_iff.mp hx).1]
    · cases h1
  · cases h2
theorem gs_forK {body : List Stmt} {g : GV} {ts : List Nat} {b : SV} (i : Nat) (nc : NoCl w) (c : Cok w k X) (hp : PassesOwn (model X.prog X.w) X.A X.env X.xe) (hg : GG w X tg g ts) (hb : GSs w io X body b)
    (hN : X.N[i]? = some x := by rfl) (hv : Vis X.env.scope x := by first | exact Or.inl rfl | exact Or.inr (Or.inl rfl) | exact Or.inr (Or.inr rfl)) (hd : (x == ("__debug__" : Str)) = false := by decide) (hcd : (x == ("__classdict__" : Str)) = false := by decide) (hio : ∀ i ∈ ts, i ∉ io := by decide)
    (hs : ∀ y, foldedSetIterable (.Name x px) X.env y = pure y := by intro _; rfl) : GS w io X (.For tg (.Name x px) body [] pos) (sFor (iK i) g b) :=
  ps_imp (gs_forK0 i nc c hp hg hb hN hv hd hcd hio hs) fun Dn σ H => by
    rintro ⟨Hf, s, φ, fl, s', gd, e, q⟩
    obtain ⟨⟨ds, s1⟩, h1, h2⟩ := R.bind_eq_ok.mp e
    obtain ⟨Hf1, φ1, g1, k1, h3⟩ := iK_frz gd h1
    exact ⟨Hf1, s1, φ1, fl, s', g1, R.bind_eq_ok.mpr ⟨_, h3, h2⟩, q.later k1 (fun _ => id) g1⟩
theorem ge_lcK {elt : Expr} {ifs : List Expr} {scope : Scope} {g : GV} {ts : List Nat} {c0 : Option BV} {f : EV} (own : List (Str × Nat)) (i : Nat) (nc : NoCl w) (c : Cok w k X) (ok : blkC X.N X.env.scope scope own = true)
    (hg : ∀ (s : Shared) (H : Hp) (C : Addr) (cl : List (Str × Addr)) (fp : List Addr), GG w (X.blk s H scope (compEnvC scope cl C X.env) fp) tg g ts) (ht : ∀ (s : Shared) (H : Hp) (C : Addr) (cl : List (Str × Addr)) (fp : List Addr), GC w (X.blk s H scope (compEnvC scope cl C X.env) fp) ifs c0)
    (he : ∀ (s : Shared) (H : Hp) (C : Addr) (cl : List (Str × Addr)) (fp : List Addr), GE w (X.blk s H scope (compEnvC scope cl C X.env) fp) elt f)
    (hN : X.N[i]? = some x := by rfl) (hv : Vis X.env.scope x := by first | exact Or.inl rfl | exact Or.inr (Or.inl rfl) | exact Or.inr (Or.inr rfl)) (hd : (x == ("__debug__" : Str)) = false := by decide) (hcd : (x == ("__classdict__" : Str)) = false := by decide)
    (hts : ∀ i ∈ ts, i ∈ own.map (·.2) := by decide) (hs : ∀ y, foldedSetIterable (.Name x px) X.env y = pure y := by intro _; rfl) :
    GE w X (.ListComp elt [⟨tg, .Name x px, ifs, 0⟩] scope pos) (kComp (iK i) g c0 f (own.map (·.2))) :=
  pe_imp (ge_lcK0 own i nc c ok hg ht he hN hv hd hcd hts hs) fun σ H Q => by
    rintro ⟨Hf, s, φ, l, s', gd, e, q⟩
    obtain ⟨⟨ds, s1⟩, h1, h2⟩ := R.bind_eq_ok.mp e
    obtain ⟨Hf1, φ1, g1, k1, h3⟩ := iK_frz gd h1
    exact ⟨Hf1, s1, φ1, l, s', g1, R.bind_eq_ok.mpr ⟨_, h3, h2⟩, q.later k1 (fun _ => id) g1⟩
end
end
end KV

set_option Elab.async false
set_option linter.all false
set_option maxRecDepth 100000
set_option maxHeartbeats 4000000
/-! KVS: denotations run: loops by what stays true. -/
namespace KV
open PySem L2

namespace R
variable {α β : Type}
theorem W_of {r : R α} {a : α} {Q : α → Prop} (e : r = .ok a) (q : Q a) : r.W Q := by rw [e]; exact q
theorem W_get {r : R α} {Q : α → Prop} (h : r.W Q) : ∃ a, r = .ok a ∧ Q a := W_iff.mp h
end R

theorem run_mk {n : Nat} {io : List Nat} {b : SV} {ts : List T} : (Def.mk n io b).run ts = (b (ts.map some ++ List.replicate (n - ts.length) none)).bind fun r => (endOf r.1).bind fun t => (outs io r.2).bind fun os => .ok (t, os) := rfl
theorem sCons_nx {f g : SV} {s s1 : Sl} (h : f s = .ok (.nx, s1)) : sCons f g s = g s1 := by
  show (f s).bind _ = _
  rw [h]; rfl
theorem sCons_rt {f g : SV} {s s1 : Sl} {t : T} (h : f s = .ok (.rt t, s1)) : sCons f g s = .ok (.rt t, s1) := by
  show (f s).bind _ = _
  rw [h]; rfl
theorem run_rt {n : Nat} {io : List Nat} {b : SV} {ts : List T} {t : T} {s1 : Sl} {os : List T} (h : b (ts.map some ++ List.replicate (n - ts.length) none) = .ok (.rt t, s1)) (ho : outs io s1 = .ok os) : (Def.mk n io b).run ts = .ok (t, os) := by
  rw [run_mk, h]
  simp only [R.bind_ok, endOf, ho]
/-! ### for -/
theorem forD_inv {g : GV} {b : SV} {ds : List D} (I : Nat → Sl → Prop) (h : ∀ i x s, ds[i]? = some x → I i s → (g x s).W fun s1 => (b s1).W fun r => (r.1 = .nx ∨ r.1 = .ct) ∧ I (i + 1) r.2) :
    ∀ {k : Nat} {s : Sl}, I k s → k ≤ ds.length → (forD g b (ds.drop k) s).W fun r => r.1 = .nx ∧ I ds.length r.2 := by
  intro k s hi hk
  generalize hn : ds.length - k = n
  induction n generalizing k s with
  | zero =>
    have : k = ds.length := by omega
    subst this
    rw [List.drop_length]
    exact ⟨rfl, hi⟩
  | succ n ih =>
    have hlt : k < ds.length := by omega
    rw [List.drop_eq_getElem_cons hlt]
    obtain ⟨s1, e1, h1⟩ := R.W_get (h k ds[k] s (List.getElem?_eq_getElem hlt) hi)
    obtain ⟨⟨fl, s2⟩, e2, h2, h3⟩ := R.W_get h1
    have next := ih (k := k + 1) (s := s2) h3 hlt (by omega)
    unfold forD
    rw [e1, R.bind_ok, e2, R.bind_ok]
    rcases h2 with h2 | h2 <;> (simp only at h2; subst h2; exact next)
theorem for_inv {g : GV} {b : SV} {ds : List D} {s : Sl} (I : Nat → Sl → Prop) (h0 : I 0 s) (h : ∀ i x s, ds[i]? = some x → I i s → (g x s).W fun s1 => (b s1).W fun r => (r.1 = .nx ∨ r.1 = .ct) ∧ I (i + 1) r.2) :
    (forD g b ds s).W fun r => r.1 = .nx ∧ I ds.length r.2 := forD_inv I h (k := 0) h0 (Nat.zero_le _)

/-! ### while -/
theorem while_inv {c : BV} {b : SV} (I : Nat → Sl → Prop) (Z : Sl → Prop) (h : ∀ m s, I m s → (c s).W fun r => if r.1 = true then (b r.2).W fun q => (q.1 = .nx ∨ q.1 = .ct) ∧ ∃ m', m' < m ∧ I m' q.2 else Z r.2) :
    ∀ {n m : Nat} {s : Sl}, I m s → m < n → (whileD c b n s).W fun r => r.1 = .nx ∧ Z r.2
  | 0, m, s, _, hm => absurd hm (Nat.not_lt_zero m)
  | n + 1, m, s, hi, hm => by
    obtain ⟨⟨t, s1⟩, e1, h1⟩ := R.W_get (h m s hi)
    unfold whileD
    rw [e1, R.bind_ok]
    cases t with
    | false => exact ⟨rfl, by simpa using h1⟩
    | true =>
      simp only [if_true] at h1 ⊢
      obtain ⟨⟨fl, s2⟩, e2, h2, m', hm', h3⟩ := R.W_get h1
      have next := while_inv I Z h (n := n) h3 (by omega)
      rw [e2, R.bind_ok]
      rcases h2 with h2 | h2 <;> (simp only at h2; subst h2; exact next)

/-! ### comprehensions -/
theorem comp_pure {g : GV} {c : Option BV} {f : EV} {own : List Nat} {s : Sl} (S : D → Sl) (P : D → Bool) (F : D → D) (hw : wipeD s own = s) : ∀ {ds : List D},
    (∀ x ∈ ds, g x s = .ok (S x) ∧ wipeD (S x) own = s ∧ bOf c (S x) = .ok (P x, S x) ∧ (P x = true → kD f (S x) = .ok (F x, S x))) → compD g c f own ds s = .ok ((ds.filter P).map F, s)
  | [], _ => rfl
  | x :: ds, h => by
    obtain ⟨h1, h2, h3, h4⟩ := h x (List.mem_cons_self ..)
    have ih := comp_pure S P F hw (ds := ds) fun y hy => h y (List.mem_cons_of_mem _ hy)
    rw [compD_cons, hw, h1, R.bind_ok, h3, R.bind_ok]
    cases e : P x with
    | false =>
      simp only [Bool.false_eq_true, if_false]
      rw [h2, ih, List.filter_cons_of_neg (by simp [e])]
    | true =>
      simp only [if_true]
      rw [h4 e, R.bind_ok, h2, ih, R.bind_ok, List.filter_cons_of_pos (by simp [e]), List.map_cons]
/-- over data that are told by something else -/
theorem comp_map {α : Type} {g : GV} {c : Option BV} {f : EV} {own : List Nat} {s : Sl} (enc : α → D) (S : α → Sl) (P : α → Bool) (F : α → D) (hw : wipeD s own = s) : ∀ {xs : List α},
    (∀ x ∈ xs, g (enc x) s = .ok (S x) ∧ wipeD (S x) own = s ∧ bOf c (S x) = .ok (P x, S x) ∧ (P x = true → kD f (S x) = .ok (F x, S x))) → compD g c f own (xs.map enc) s = .ok ((xs.filter P).map F, s)
  | [], _ => rfl
  | x :: xs, h => by
    obtain ⟨h1, h2, h3, h4⟩ := h x (List.mem_cons_self ..)
    have ih := comp_map enc S P F hw (xs := xs) fun y hy => h y (List.mem_cons_of_mem _ hy)
    rw [List.map_cons, compD_cons, hw, h1, R.bind_ok, h3, R.bind_ok]
    cases e : P x with
    | false =>
      simp only [Bool.false_eq_true, if_false]
      rw [h2, ih, List.filter_cons_of_neg (by simp [e])]
    | true =>
      simp only [if_true]
      rw [h4 e, R.bind_ok, h2, ih, R.bind_ok, List.filter_cons_of_pos (by simp [e]), List.map_cons]
/-- the own names' slots not empty ahead -/
theorem comp_map2 {α : Type} {g : GV} {c : Option BV} {f : EV} {own : List Nat} {s : Sl} (enc : α → D) (S : α → Sl) (P : α → Bool) (F : α → D) (hw : wipeD (wipeD s own) own = wipeD s own) {xs : List α}
    (h : ∀ x ∈ xs, g (enc x) (wipeD s own) = .ok (S x) ∧ wipeD (S x) own = wipeD s own ∧ bOf c (S x) = .ok (P x, S x) ∧ (P x = true → kD f (S x) = .ok (F x, S x))) : ∃ s', compD g c f own (xs.map enc) s = .ok ((xs.filter P).map F, s') ∧ (s' = s ∨ s' = wipeD s own) := by
  cases xs with
  | nil => exact ⟨s, rfl, .inl rfl⟩
  | cons x xs =>
    refine ⟨wipeD s own, ?_, .inr rfl⟩
    have e := comp_map (g := g) (c := c) (f := f) (own := own) (s := wipeD s own) enc S P F hw (xs := x :: xs) h
    rw [List.map_cons, compD_cons] at e ⊢
    rw [hw] at e
    exact e
/-- the same, the own names' slots not empty ahead -/
theorem comp_pure2 {g : GV} {c : Option BV} {f : EV} {own : List Nat} {s : Sl} (S : D → Sl) (P : D → Bool) (F : D → D) (hw : wipeD (wipeD s own) own = wipeD s own) : ∀ {ds : List D},
    (∀ x ∈ ds, g x (wipeD s own) = .ok (S x) ∧ wipeD (S x) own = wipeD s own ∧ bOf c (S x) = .ok (P x, S x) ∧ (P x = true → kD f (S x) = .ok (F x, S x))) → ∃ s', compD g c f own ds s = .ok ((ds.filter P).map F, s') ∧ (s' = s ∨ s' = wipeD s own)
  | [], _ => ⟨s, rfl, .inl rfl⟩
  | x :: ds, h => by
    refine ⟨wipeD s own, ?_, .inr rfl⟩
    have e := comp_pure (g := g) (c := c) (f := f) (own := own) (s := wipeD s own) S P F hw (ds := x :: ds) h
    rw [compD_cons] at e ⊢
    rw [hw] at e
    exact e
/-- one that changes what the slots hold, no test -/
theorem comp_inv {g : GV} {f : EV} {own : List Nat} {ds : List D} (I : Nat → List D → Sl → Prop) (h : ∀ i x acc s, ds[i]? = some x → I i acc s → (g x (wipeD s own)).W fun s1 => (kD f s1).W fun q => I (i + 1) (acc ++ [q.1]) (wipeD q.2 own)) :
    ∀ {k : Nat} {acc : List D} {s : Sl}, I k acc s → k ≤ ds.length → (compD g none f own (ds.drop k) s).W fun r => I ds.length (acc ++ r.1) r.2 := by
  intro k acc s hi hk
  generalize hn : ds.length - k = n
  induction n generalizing k s acc with
  | zero =>
    have : k = ds.length := by omega
    subst this
    rw [List.drop_length]
    show I _ (acc ++ []) s
    rw [List.append_nil]
    exact hi
  | succ n ih =>
    have hlt : k < ds.length := by omega
    rw [List.drop_eq_getElem_cons hlt, compD_cons]
    obtain ⟨s1, e1, h1⟩ := R.W_get (h k ds[k] acc s (List.getElem?_eq_getElem hlt) hi)
    obtain ⟨q, e2, h2⟩ := R.W_get h1
    obtain ⟨r, e3, h3⟩ := R.W_get (ih (k := k + 1) h2 hlt (by omega))
    rw [e1, R.bind_ok]
    show (((R.ok (true, s1)).bind _).W _)
    rw [R.bind_ok]
    simp only [if_true]
    rw [e2, R.bind_ok, e3, R.bind_ok]
    show I _ (acc ++ q.1 :: r.1) r.2
    have : acc ++ q.1 :: r.1 = acc ++ [q.1] ++ r.1 := by simp
    rw [this]
    exact h3
theorem comp_inv0 {g : GV} {f : EV} {own : List Nat} {ds : List D} {s : Sl} (I : Nat → List D → Sl → Prop) (h0 : I 0 [] s) (h : ∀ i x acc s, ds[i]? = some x → I i acc s → (g x (wipeD s own)).W fun s1 => (kD f s1).W fun q => I (i + 1) (acc ++ [q.1]) (wipeD q.2 own)) :
    (compD g none f own ds s).W fun r => I ds.length r.1 r.2 := by
  have := comp_inv I h (k := 0) h0 (Nat.zero_le _)
  simpa using this

/-! ### data that may be compared, shown -/
/-- texts that are sound, short numbers, no dict; at most n deep, m heavy -/
structure fit (n m : Nat) (d : D) : Prop where
  lay : d.canLay0 = true
  dep : d.depth ≤ n
  wt : d.weight ≤ m
  sh : d.intsShort 13 = true
  sw : d.showable = true
theorem fit.eqOk {n m : Nat} {d : D} (h : fit n m d) (hn : n ≤ 64) : eqOk d = true := by
  have : (d.canLay0 && decide (d.depth ≤ 64)) = true := by
    rw [Bool.and_eq_true]
    exact ⟨h.lay, decide_eq_true (Nat.le_trans h.dep hn)⟩
  exact this
theorem fit.mono {n m n' m' : Nat} {d : D} (h : fit n m d) (hn : n ≤ n') (hm : m ≤ m') : fit n' m' d := ⟨h.lay, Nat.le_trans h.dep hn, Nat.le_trans h.wt hm, h.sh, h.sw⟩
mutual
theorem noDict_of : ∀ d : D, d.canLay0 = true → d.hasDict = false
  | .none, _ => by simp [PyData.hasDict]
  | .bool _, _ => by simp [PyData.hasDict]
  | .int _, _ => by simp [PyData.hasDict]
  | .str _, _ => by simp [PyData.hasDict]
  | .list xs, h => by rw [PyData.hasDict]; exact noDicts_of xs (by rw [PyData.canLay0] at h; exact h)
  | .tuple xs, h => by rw [PyData.hasDict]; exact noDicts_of xs (by rw [PyData.canLay0] at h; exact h)
  | .dict _, h => by rw [PyData.canLay0] at h; cases h
theorem noDicts_of : ∀ ds : List D, PyData.canLayAll0 ds = true → PyData.hasDictAll ds = false
  | [], _ => rfl
  | x :: xs, h => by
    rw [PyData.canLayAll0, Bool.and_eq_true] at h
    rw [PyData.hasDictAll, noDict_of x h.1, noDicts_of xs h.2]
    rfl
end
theorem fit.show {n m : Nat} {d : D} (h : fit n m d) (hn : n ≤ 64) (hm : m ≤ 1048576) : showOk d = true := by
  have hl : PyData.layable0 d = true := by
    unfold PyData.layable0
    rw [Bool.and_eq_true, Bool.and_eq_true]
    exact ⟨⟨h.lay, decide_eq_true (Nat.le_trans h.dep hn)⟩, decide_eq_true (Nat.le_trans h.wt hm)⟩
  have hz := PyProof.Rows.shown_le13 hl h.sh
  unfold showOk
  rw [h.sw, noDict_of d h.lay, decide_eq_true (Nat.le_trans h.dep hn), decide_eq_true (by rw [sizeLine_eq]; omega)]
  rfl
theorem fits_all : ∀ {ds : List D} {n m : Nat}, (∀ d ∈ ds, fit n m d) → PyData.canLayAll0 ds = true ∧ PyData.depthAll ds ≤ n ∧ PyData.weightAll ds ≤ ds.length * (m + 1) ∧ PyData.intsShortAll 13 ds = true ∧ PyData.showableAll ds = true
  | [], n, m, _ => ⟨rfl, Nat.zero_le _, Nat.zero_le _, rfl, rfl⟩
  | d :: ds, n, m, h => by
    obtain ⟨h1, h2, h3, h4, h5⟩ := fits_all (ds := ds) (n := n) (m := m) fun x hx => h x (List.mem_cons_of_mem _ hx)
    obtain ⟨g1, g2, g3, g4, g5⟩ := h d (List.mem_cons_self ..)
    refine ⟨by rw [PyData.canLayAll0, g1, h1]; rfl, by rw [PyData.depthAll]; omega, ?_, by rw [PyData.intsShortAll, g4, h4]; rfl, by rw [PyData.showableAll, g5, h5]; rfl⟩
    rw [PyData.weightAll, List.length_cons, Nat.add_mul, Nat.one_mul]
    omega
theorem fit_tup {ds : List D} {n m k : Nat} (h : ∀ d ∈ ds, fit n m d) (hk : ds.length ≤ k) : fit (n + 1) (k * (m + 1)) (.tuple ds) := by
  obtain ⟨h1, h2, h3, h4, h5⟩ := fits_all h
  exact ⟨by rw [PyData.canLay0]; exact h1, by rw [PyData.depth]; omega, by rw [PyData.weight]; exact Nat.le_trans h3 (Nat.mul_le_mul_right _ hk), by rw [PyData.intsShort]; exact h4, by rw [PyData.showable]; exact h5⟩
theorem fit_lst {ds : List D} {n m k : Nat} (h : ∀ d ∈ ds, fit n m d) (hk : ds.length ≤ k) : fit (n + 1) (k * (m + 1)) (.list ds) := by
  obtain ⟨h1, h2, h3, h4, h5⟩ := fits_all h
  exact ⟨by rw [PyData.canLay0]; exact h1, by rw [PyData.depth]; omega, by rw [PyData.weight]; exact Nat.le_trans h3 (Nat.mul_le_mul_right _ hk), by rw [PyData.intsShort]; exact h4, by rw [PyData.showable]; exact h5⟩
theorem fit_bool {b : Bool} {n m : Nat} : fit n m (.bool b) := ⟨by simp [PyData.canLay0], by simp [PyData.depth], by simp [PyData.weight], by simp [PyData.intsShort], by simp [PyData.showable]⟩
theorem fit_none {n m : Nat} : fit n m .none := ⟨by simp [PyData.canLay0], by simp [PyData.depth], by simp [PyData.weight], by simp [PyData.intsShort], by simp [PyData.showable]⟩
theorem fit_str {x : Str} {n m : Nat} (h : PyData.strOk x = true) (hm : x.cps.size ≤ m) : fit n m (.str x) := ⟨by simp [PyData.canLay0, h], by simp [PyData.depth], by simp [PyData.weight, hm], by simp [PyData.intsShort], by simp [PyData.showable]⟩
theorem pEq_of {d e : D} (h1 : eqOk d = true) (h2 : eqOk e = true) : pEq d e = bl (PyData.eqv d e) := by unfold pEq; rw [h1, h2]; rfl
theorem pNe_of {d e : D} (h1 : eqOk d = true) (h2 : eqOk e = true) : pNe d e = bl (!PyData.eqv d e) := by unfold pNe; rw [h1, h2]; rfl
theorem pRepr_of {d : D} (h : showOk d = true) : pRepr d = .ok (.d (.str d.shown)) := by unfold pRepr; rw [if_pos h]
theorem eqv_str {x y : Str} : PyData.eqv (.str x) (.str y) = decide (x = y) := by
  show (x == y) = _
  by_cases h : x = y
  · subst h; simp
  · simp [h]
theorem eqv_str_self {x : Str} : PyData.eqv (.str x) (.str x) = true := by rw [eqv_str]; simp
end KV

set_option Elab.async false
set_option linter.all false
set_option maxRecDepth 100000
set_option maxHeartbeats 4000000
/-! K06: printed by gen.py: the defs of keptvalues_k06_pipes_and_promises_told_a and their denotations. -/
namespace K06
open PySem L2 KV
open PySem.Spec PyProof.Rows
theorem nocl {K : PySem.W.Frag} : NoCl (W0 K) := fun _ _ _ _ h => h
def top (i : Nat) : Stmt := PySem.Challenge.pw_keptvalues_k06_pipes_and_promises_told_a.main.body.getD i (.Pass ⟨0, 0, 0, 0⟩)
structure MG (K : PySem.W.Frag) (mg : Str → Option Value) : Prop where
  n_int : mg "int" = none
  n_abs : mg "abs" = none
  n_len : mg "len" = none
  n_max : mg "max" = none
  n_dict : mg "dict" = none
  n_enumerate : mg "enumerate" = none
  n_range : mg "range" = none
  n_list : mg "list" = none
  n_sum : mg "sum" = none
  n_tuple : mg "tuple" = none
  n_repr : mg "repr" = none
  c_MOST_TOLD : ∃ t, mg "MOST_TOLD" = some (.int 8 t)
  t_ONE_PROGRAM : CTup K mg "ONE_PROGRAM" ["run", "yes", "keeps", "ever", "always", "many", "size", "again", "learn"]
  t_OF_STREAMS : CTup K mg "OF_STREAMS" ["feed", "back", "at"]
/-! ### _law_source -/
abbrev s_u_law_source : Stmt := top 22
abbrev N_u_law_source : List Str := ["script", "mixed", "cell"]
abbrev P_u_law_source : List Str := ["script"]
def D_u_law_source : Def := ⟨3, [],
    (sCons (sSet 1 (kC (.int 11)))
    (sCons (sFor (iScr 0) (gN 2) (sCons (sSet 1 (k2 pMod (k1 pInt (k2 pAdd (k2 pAdd (k2 pMul (kX 1) (kC (.int 69069))) (k2 pMul (kX 2) (kC (.int 31)))) (kC (.int 5)))) (kC (.int 2147483629))))
    sNil))
    (sCons (sRet (kSrc (k1 pRev (kComp (iScr 0) (gN 2) none (k1 pAbs (kX 2)) [2])) (kC (.int 1)) (kX 1) (kC (.int 0))))
    sNil)))⟩
/-! ### _law_pick -/
abbrev s_u_law_pick : Stmt := top 23
abbrev N_u_law_pick : List Str := ["source", "many", "left", "mixed"]
abbrev P_u_law_pick : List Str := ["source", "many"]
def D_u_law_pick : Def := ⟨4, [0],
    (sCons (sWhile (bAnd (bVal (k2 pGt (kX 1) (kC (.int 1)))) (bAnd (bVal (k2 pLt (kSGet 0 .left) (kC (.int 2)))) (bVal (k2 pGt (kSLen 0) (kC (.int 0)))))) (sCons (sSPut 0 .left (kSPop 0))
    sNil))
    (sCons (sSet 2 (kSGet 0 .left))
    (sCons (sIf (bOr (bVal (k2 pLt (kX 1) (kC (.int 2)))) (bVal (k2 pGt (kX 2) (kC (.int 1))))) (sCons (sSPut 0 .left (k2 pDiv (kX 2) (k2 pMax2 (kC (.int 1)) (kX 1))))
    (sCons (sRet (k2 pMod (k1 pInt (kX 2)) (k2 pMax2 (kC (.int 1)) (kX 1))))
    sNil)) sNil)
    (sCons (sSPut 0 .turn (k2 pAdd (kSGet 0 .turn) (kC (.int 1))))
    (sCons (sSet 3 (k2 pMod (k1 pInt (k2 pAdd (kSGet 0 .mixed) (k2 pMul (kSGet 0 .turn) (kC (.int 104729))))) (kC (.int 998244353))))
    (sCons (sSet 3 (k2 pMod (k1 pInt (k2 pAdd (k2 pMul (kX 3) (kX 3)) (k2 pMul (kSGet 0 .turn) (kC (.int 17))))) (kC (.int 2147483647))))
    (sCons (sSPut 0 .mixed (kX 3))
    (sCons (sRet (k2 pMod (k1 pInt (k2 pDiv (kX 3) (kC (.int 16)))) (kX 1)))
    sNil))))))))⟩
/-! ### _law_of -/
abbrev s_u_law_of : Stmt := top 24
abbrev N_u_law_of : List Str := ["source", "some"]
abbrev P_u_law_of : List Str := ["source", "some"]
def D_u_law_of : Def := ⟨2, [0],
    (sCons (sRet (k2 pIx (kX 1) (kCall (D_u_law_pick).run (cMv 0 (cV (k1 pLen (kX 1)) cNil)))))
    sNil)⟩
/-! ### told_items -/
abbrev s_told_items : Stmt := top 13
abbrev N_told_items : List Str := ["session", "number", "item"]
abbrev P_told_items : List Str := ["session", "number"]
def D_told_items : Def := ⟨3, [],
    (sCons (sRet (k1 pDict (kComp (iSeq (kSl (k2 pIx (kX 0) (kC (.int 1))) none (some (kX 1)))) (gN 2) (some (bVal (k2 pIn (k2 pIx (kX 2) (kC (.int 0))) (kTup (aCons (kC (.str "program")) (aCons (kC (.str "pipe")) aNil)))))) (kTup (aCons (k2 pIx (kX 2) (kC (.int 1))) (aCons (kX 2) aNil))) [2])))
    sNil)⟩
/-! ### names_told -/
abbrev s_names_told : Stmt := top 14
abbrev N_names_told : List Str := ["session", "number", "word", "item"]
abbrev P_names_told : List Str := ["session", "number", "word"]
def D_names_told : Def := ⟨4, [],
    (sCons (sRet (kComp (iSeq (kSl (k2 pIx (kX 0) (kC (.int 1))) none (some (kX 1)))) (gN 3) (some (bVal (k2 pEq (k2 pIx (kX 3) (kC (.int 0))) (kX 2)))) (k2 pIx (kX 3) (kC (.int 1))) [3]))
    sNil)⟩
/-! ### twice_told -/
abbrev s_twice_told : Stmt := top 16
abbrev N_twice_told : List Str := ["session", "number", "item"]
abbrev P_twice_told : List Str := ["session", "number"]
def D_twice_told : Def := ⟨3, [],
    (sCons (sSet 2 (k2 pIx (k2 pIx (kX 0) (kC (.int 1))) (kX 1)))
    (sCons (sIf (bVal (k2 pIn (k2 pIx (kX 2) (kC (.int 0))) (kTup (aCons (kC (.str "program")) (aCons (kC (.str "pipe")) aNil))))) (sCons (sRet (k2 pIn (k2 pIx (kX 2) (kC (.int 1))) (kCall (D_told_items).run (cV (kX 0) (cV (kX 1) cNil)))))
    sNil) sNil)
    (sCons (sRet (kAnd (k2 pIn (k2 pIx (kX 2) (kC (.int 0))) (kTup (aCons (kC (.str "promise")) (aCons (kC (.str "stream")) aNil)))) (k2 pIn (k2 pIx (kX 2) (kC (.int 1))) (kCall (D_names_told).run (cV (kX 0) (cV (kX 1) (cV (k2 pIx (kX 2) (kC (.int 0))) cNil)))))))
    sNil)))⟩
/-! ### first_twice -/
abbrev s_first_twice : Stmt := top 4
abbrev N_first_twice : List Str := ["names", "some", "k", "name"]
abbrev P_first_twice : List Str := ["names"]
def D_first_twice : Def := ⟨4, [],
    (sCons (sSet 1 (kComp (iEnum (kX 0)) (gT [(gN 2), (gN 3)]) (some (bVal (k2 pIn (kX 3) (kSl (kX 0) none (some (kX 2)))))) (kX 2) [2, 3]))
    (sCons (sRet (kIf (bVal (k2 pNe (kX 1) (kLst aNil))) (k2 pIx (kX 1) (kC (.int 0))) (kC .none)))
    sNil))⟩
/-! ### conditions_in -/
abbrev s_conditions_in : Stmt := top 2
abbrev N_conditions_in : List Str := ["condition", "place", "found", "line", "here", "one", "k"]
abbrev P_conditions_in : List Str := ["condition", "place"]
def D_conditions_in : Def := ⟨7, [],
    (sCons (sPar [2, 3] (lCons (kLst aNil) (lCons (kLst (aCons (kTup (aCons (kX 1) (aCons (kX 0) aNil))) aNil)) lNil)))
    (sCons (sWhile (bVal (k2 pNe (kX 3) (kLst aNil))) (sCons (sUnp (gT [(gN 4), (gN 5)]) (kPopL 3))
    (sCons (sDrop (kApp 2 (kTup (aCons (kX 4) (aCons (kX 5) aNil)))))
    (sCons (sIf (bVal (k2 pIn (k2 pIx (kX 5) (kC (.int 0))) (kTup (aCons (kC (.str "not")) (aCons (kC (.str "and")) (aCons (kC (.str "or")) aNil)))))) (sCons (sDrop (kExt 3 (kComp (iRgD (k2 pSub (k1 pLen (kX 5)) (kC (.int 1))) (kC (.int 0))) (gN 6) none (kTup (aCons (kTup (aStar (kX 4) (aCons (kX 6) aNil))) (aCons (k2 pIx (kX 5) (kX 6)) aNil))) [6])))
    sNil) sNil)
    sNil))))
    (sCons (sRet (kX 2))
    sNil)))⟩
/-! ### is_unknown -/
abbrev s_is_unknown : Stmt := top 5
abbrev N_is_unknown : List Str := ["known", "sort", "name"]
abbrev P_is_unknown : List Str := ["known", "sort", "name"]
def D_is_unknown : Def := ⟨3, [],
    (sCons (sRet (k2 pNotIn (kX 2) (k2 pIx (kX 0) (kX 1))))
    sNil)⟩
/-! ### names_said -/
abbrev s_names_said : Stmt := top 3
abbrev N_names_said : List Str := ["part", "place", "found", "k", "one"]
abbrev P_names_said : List Str := ["part", "place"]
def D_names_said : Def := ⟨5, [],
    (sCons (sSet 2 (kLst aNil))
    (sCons (sFor (iRg2 (kC (.int 1)) (k1 pLen (kX 0))) (gN 3) (sCons (sSet 4 (k2 pIx (kX 0) (kX 3)))
    (sCons (sIf (bOr (bVal (k2 pIn (k2 pIx (kX 0) (kC (.int 0))) (kTup (aCons (kC (.str "it")) (aCons (kC (.str "tell")) aNil))))) (bOr (bAnd (bVal (k2 pEq (k2 pIx (kX 0) (kC (.int 0))) (kC (.str "same")))) (bVal (k2 pEq (kX 3) (kC (.int 2))))) (bAnd (bVal (k2 pEq (k2 pIx (kX 0) (kC (.int 0))) (kC (.str "put")))) (bVal (k2 pEq (kX 3) (kC (.int 1))))))) (sCons (sIf (bVal (k2 pNe (k2 pIx (kX 4) (kC (.int 0))) (kC (.str "it")))) (sCons (sDrop (kApp 2 (kTup (aCons (k2 pIx (kX 4) (kC (.int 0))) (aCons (k2 pIx (kX 4) (kC (.int 1))) (aCons (kTup (aStar (kX 1) (aCons (kX 3) (aCons (kC (.int 1)) aNil)))) aNil))))))
    sNil) sNil)
    sNil) (sCons (sIf (bVal (k2 pEq (k2 pIx (kX 0) (kC (.int 0))) (kC (.str "go")))) (sCons (sDrop (kApp 2 (kTup (aCons (kC (.str "mode")) (aCons (kX 4) (aCons (kTup (aStar (kX 1) (aCons (kX 3) aNil))) aNil))))))
    sNil) (sCons (sIf (bVal (k2 pIn (k2 pIx (kX 0) (kC (.int 0))) (kTup (aCons (kC (.str "same")) (aCons (kC (.str "empty")) (aCons (kC (.str "put")) (aCons (kC (.str "drop")) aNil))))))) (sCons (sDrop (kApp 2 (kTup (aCons (kC (.str "box")) (aCons (kX 4) (aCons (kTup (aStar (kX 1) (aCons (kX 3) aNil))) aNil))))))
    sNil) sNil)
    sNil))
    sNil))
    sNil)))
    (sCons (sRet (kX 2))
    sNil)))⟩
/-! ### set_by -/
abbrev s_set_by : Stmt := top 6
abbrev N_set_by : List Str := ["act"]
abbrev P_set_by : List Str := ["act"]
def D_set_by : Def := ⟨1, [],
    (sCons (sRet (kIf (bVal (k2 pEq (k2 pIx (kX 0) (kC (.int 0))) (kC (.str "put")))) (k2 pIx (kX 0) (kC (.int 2))) (kIf (bVal (k2 pEq (k2 pIx (kX 0) (kC (.int 0))) (kC (.str "drop")))) (k2 pIx (kX 0) (kC (.int 1))) (kC .none))))
    sNil)⟩
/-! ### act_clashes -/
abbrev s_act_clashes : Stmt := top 7
abbrev N_act_clashes : List Str := ["acts", "a", "act", "ahead", "one"]
abbrev P_act_clashes : List Str := ["acts", "a"]
def D_act_clashes : Def := ⟨5, [],
    (sCons (sPar [2, 3] (lCons (k2 pIx (kX 0) (kX 1)) (lCons (kSl (kX 0) none (some (kX 1))) lNil)))
    (sCons (sIf (bVal (k2 pEq (k2 pIx (kX 2) (kC (.int 0))) (kC (.str "go")))) (sCons (sRet (k2 pNe (kComp (iSeq (kX 3)) (gN 4) (some (bVal (k2 pEq (k2 pIx (kX 4) (kC (.int 0))) (kC (.str "go"))))) (kX 4) [4]) (kLst aNil)))
    sNil) sNil)
    (sCons (sIf (bVal (k2 pEq (k2 pIx (kX 2) (kC (.int 0))) (kC (.str "tell")))) (sCons (sRet (k2 pEq (k1 pLen (kComp (iSeq (kX 3)) (gN 4) (some (bVal (k2 pEq (k2 pIx (kX 4) (kC (.int 0))) (kC (.str "tell"))))) (kX 4) [4])) (kC (.int 8))))
    sNil) sNil)
    (sCons (sRet (k2 pIn (kCall (D_set_by).run (cV (kX 2) cNil)) (kComp (iSeq (kX 3)) (gN 4) none (kCall (D_set_by).run (cV (kX 4) cNil)) [4])))
    sNil))))⟩
/-! ### wrong_rule -/
abbrev s_wrong_rule : Stmt := top 8
abbrev N_wrong_rule : List Str := ["known", "rule", "place", "condition", "acts", "said", "here", "one", "sort", "name", "a", "act"]
abbrev P_wrong_rule : List Str := ["known", "rule", "place"]
def D_wrong_rule : Def := ⟨12, [],
    (sCons (sUnp (gT [(gN 3), (gN 4)]) (kX 1))
    (sCons (sSet 5 (kLst aNil))
    (sCons (sFor (iSeq (kCall (D_conditions_in).run (cV (kX 3) (cV (kTup (aStar (kX 2) (aCons (kC (.int 0)) aNil))) cNil)))) (gT [(gN 6), (gN 7)]) (sCons (sDrop (kExt 5 (kCall (D_names_said).run (cV (kX 7) (cV (kX 6) cNil)))))
    sNil))
    (sCons (sFor (iSeq (kX 5)) (gT [(gN 8), (gN 9), (gN 6)]) (sCons (sIf (bVal (kCall (D_is_unknown).run (cV (kX 0) (cV (kX 8) (cV (kX 9) cNil))))) (sCons (sRet (kTup (aCons (kX 6) (aCons (kX 8) aNil))))
    sNil) sNil)
    sNil))
    (sCons (sFor (iEnum (kX 4)) (gT [(gN 10), (gN 11)]) (sCons (sFor (iSeq (kCall (D_names_said).run (cV (kX 11) (cV (kTup (aStar (kX 2) (aCons (kC (.int 1)) (aCons (kX 10) aNil)))) cNil)))) (gT [(gN 8), (gN 9), (gN 6)]) (sCons (sIf (bVal (kCall (D_is_unknown).run (cV (kX 0) (cV (kX 8) (cV (kX 9) cNil))))) (sCons (sRet (kTup (aCons (kX 6) (aCons (kX 8) aNil))))
    sNil) sNil)
    sNil))
    (sCons (sIf (bVal (kCall (D_act_clashes).run (cV (kX 4) (cV (kX 10) cNil)))) (sCons (sRet (kTup (aCons (kTup (aStar (kX 2) (aCons (kC (.int 1)) (aCons (kX 10) aNil)))) (aCons (kC (.str "acts")) aNil))))
    sNil) sNil)
    sNil)))
    (sCons (sRet (kC .none))
    sNil))))))⟩
/-! ### wrong_use -/
abbrev s_wrong_use : Stmt := top 9
abbrev N_wrong_use : List Str := ["words", "program", "name", "boxes", "modes", "names", "known", "i", "mode", "yes", "rules", "r", "rule", "wrong"]
abbrev P_wrong_use : List Str := ["words", "program"]
def D_wrong_use : Def := ⟨14, [],
    (sCons (sUnp (gT [(gN 2), (gN 3), (gN 4)]) (kX 1))
    (sCons (sIf (bVal (k1 pNotN (kCall (D_first_twice).run (cV (kX 3) cNil)))) (sCons (sRet (kTup (aCons (kTup (aCons (kC (.int 2)) (aCons (kCall (D_first_twice).run (cV (kX 3) cNil)) aNil))) (aCons (kC (.str "twice")) aNil))))
    sNil) sNil)
    (sCons (sSet 5 (kComp (iSeq (kX 4)) (gT [(gN 8), (gN 9), (gN 10)]) none (kX 8) [8, 9, 10]))
    (sCons (sIf (bVal (k1 pNotN (kCall (D_first_twice).run (cV (kX 5) cNil)))) (sCons (sRet (kTup (aCons (kTup (aCons (kC (.int 3)) (aCons (kCall (D_first_twice).run (cV (kX 5) cNil)) (aCons (kC (.int 0)) aNil)))) (aCons (kC (.str "twice")) aNil))))
    sNil) sNil)
    (sCons (sSet 6 (kDisp (dCons (kC (.str "box")) (kX 3) (dCons (kC (.str "word")) (kX 0) (dCons (kC (.str "mode")) (kX 5) dNil)))))
    (sCons (sFor (iEnum (kX 4)) (gT [(gN 7), (gT [(gN 8), (gN 9), (gN 10)])]) (sCons (sFor (iEnum (kX 10)) (gT [(gN 11), (gN 12)]) (sCons (sSet 13 (kCall (D_wrong_rule).run (cV (kX 6) (cV (kX 12) (cV (kTup (aCons (kC (.int 3)) (aCons (kX 7) (aCons (kC (.int 2)) (aCons (kX 11) aNil))))) cNil)))))
    (sCons (sIf (bVal (k1 pNotN (kX 13))) (sCons (sRet (kX 13))
    sNil) sNil)
    sNil)))
    sNil))
    (sCons (sRet (kC .none))
    sNil)))))))⟩
/-! ### programs_said -/
abbrev s_programs_said : Stmt := top 15
abbrev N_programs_said : List Str := ["item", "k"]
abbrev P_programs_said : List Str := ["item"]
def D_programs_said : Def := ⟨2, [],
    (sCons (sIf (bVal (k2 pEq (k2 pIx (kX 0) (kC (.int 0))) (kC (.str "pipe")))) (sCons (sRet (kComp (iRg2 (kC (.int 1)) (k1 pLen (k2 pIx (kX 0) (kC (.int 2))))) (gN 1) none (kTup (aCons (kTup (aCons (kC (.int 2)) (aCons (kX 1) aNil))) (aCons (k2 pIx (k2 pIx (kX 0) (kC (.int 2))) (kX 1)) aNil))) [1]))
    sNil) sNil)
    (sCons (sIf (bVal (k2 pEq (k2 pIx (kX 0) (kC (.int 0))) (kC (.str "promise")))) (sCons (sRet (kComp (iSeq (kTup (aCons (kC (.int 2)) (aCons (kC (.int 3)) (aCons (kC (.int 4)) aNil))))) (gN 1) none (kTup (aCons (kTup (aCons (kX 1) aNil)) (aCons (k2 pIx (kX 0) (kX 1)) aNil))) [1]))
    sNil) sNil)
    (sCons (sIf (bVal (k2 pEq (k2 pIx (kX 0) (kC (.int 0))) (kC (.str "stream")))) (sCons (sRet (kLst (aCons (kTup (aCons (kTup (aCons (kC (.int 2)) aNil)) (aCons (k2 pIx (kX 0) (kC (.int 2))) aNil))) aNil)))
    sNil) sNil)
    (sCons (sIf (bVal (k2 pIn (k2 pIx (kX 0) (kC (.int 0))) (kTup (aCons (kC (.str "within")) (aCons (kC (.str "alike")) aNil))))) (sCons (sRet (kLst (aCons (kTup (aCons (kTup (aCons (kC (.int 1)) aNil)) (aCons (k2 pIx (kX 0) (kC (.int 1))) aNil))) (aCons (kTup (aCons (kTup (aCons (kC (.int 2)) aNil)) (aCons (k2 pIx (kX 0) (kC (.int 2))) aNil))) aNil))))
    sNil) sNil)
    (sCons (sRet (kIf (bVal (k2 pIn (k2 pIx (kX 0) (kC (.int 0))) (kC (.tuple [.str "run", .str "yes", .str "keeps", .str "ever", .str "always", .str "many", .str "size", .str "again", .str "learn"])))) (kLst (aCons (kTup (aCons (kTup (aCons (kC (.int 1)) aNil)) (aCons (k2 pIx (kX 0) (kC (.int 1))) aNil))) aNil)) (kLst aNil)))
    sNil)))))⟩
/-! ### item_fault -/
abbrev s_item_fault : Stmt := top 17
abbrev N_item_fault : List Str := ["session", "number", "item", "told", "some", "place", "name"]
abbrev P_item_fault : List Str := ["session", "number"]
def D_item_fault : Def := ⟨7, [],
    (sCons (sPar [2, 3] (lCons (k2 pIx (k2 pIx (kX 0) (kC (.int 1))) (kX 1)) (lCons (kCall (D_told_items).run (cV (kX 0) (cV (kX 1) cNil))) lNil)))
    (sCons (sIf (bVal (kCall (D_twice_told).run (cV (kX 0) (cV (kX 1) cNil)))) (sCons (sRet (kTup (aCons (kTup (aCons (kC (.int 1)) aNil)) (aCons (kC (.str "twice")) aNil))))
    sNil) sNil)
    (sCons (sIf (bVal (k2 pEq (k2 pIx (kX 2) (kC (.int 0))) (kC (.str "program")))) (sCons (sRet (kCall (D_wrong_use).run (cV (k2 pIx (kX 0) (kC (.int 0))) (cV (kSl (kX 2) (some (kC (.int 1))) none) cNil))))
    sNil) sNil)
    (sCons (sIf (bVal (k2 pIn (k2 pIx (kX 2) (kC (.int 0))) (kC (.tuple [.str "feed", .str "back", .str "at"])))) (sCons (sRet (kIf (bVal (k2 pNotIn (k2 pIx (kX 2) (kC (.int 1))) (kCall (D_names_told).run (cV (kX 0) (cV (kX 1) (cV (kC (.str "stream")) cNil)))))) (kTup (aCons (kTup (aCons (kC (.int 1)) aNil)) (aCons (kC (.str "stream")) aNil))) (kC .none)))
    sNil) sNil)
    (sCons (sIf (bVal (k2 pEq (k2 pIx (kX 2) (kC (.int 0))) (kC (.str "kept")))) (sCons (sRet (kIf (bVal (k2 pNotIn (k2 pIx (kX 2) (kC (.int 1))) (kCall (D_names_told).run (cV (kX 0) (cV (kX 1) (cV (kC (.str "promise")) cNil)))))) (kTup (aCons (kTup (aCons (kC (.int 1)) aNil)) (aCons (kC (.str "promise")) aNil))) (kC .none)))
    sNil) sNil)
    (sCons (sSet 4 (kComp (iSeq (kCall (D_programs_said).run (cV (kX 2) cNil))) (gT [(gN 5), (gN 6)]) (some (bVal (k2 pNotIn (kX 6) (kX 3)))) (kX 5) [5, 6]))
    (sCons (sRet (kIf (bVal (k2 pNe (kX 4) (kLst aNil))) (kTup (aCons (k2 pIx (kX 4) (kC (.int 0))) (aCons (kC (.str "program")) aNil))) (kC .none)))
    sNil)))))))⟩
/-! ### wrong_item -/
abbrev s_wrong_item : Stmt := top 18
abbrev N_wrong_item : List Str := ["session", "number", "fault"]
abbrev P_wrong_item : List Str := ["session"]
def D_wrong_item : Def := ⟨3, [],
    (sCons (sFor (iRg1 (k1 pLen (k2 pIx (kX 0) (kC (.int 1))))) (gN 1) (sCons (sSet 2 (kCall (D_item_fault).run (cV (kX 0) (cV (kX 1) cNil))))
    (sCons (sIf (bVal (k1 pNotN (kX 2))) (sCons (sRet (kTup (aCons (kX 1) (aStar (kX 2) aNil))))
    sNil) sNil)
    sNil)))
    (sCons (sRet (kC .none))
    sNil))⟩
/-! ### _law_right_form -/
abbrev s_u_law_right_form : Stmt := top 28
abbrev N_u_law_right_form : List Str := ["item"]
abbrev P_u_law_right_form : List Str := ["item"]
def D_u_law_right_form : Def := ⟨1, [],
    (sCons (sIf (bVal (k2 pEq (k2 pIx (kX 0) (kC (.int 0))) (kC (.str "feed")))) (sCons (sRet (kSl (k2 pAdd (kX 0) (kTup (aCons (kTup (aCons (kC (.str "a")) aNil)) aNil))) none (some (kC (.int 3)))))
    sNil) sNil)
    (sCons (sRet (kIf (bVal (k2 pIn (k2 pIx (kX 0) (kC (.int 0))) (kTup (aCons (kC (.str "back")) (aCons (kC (.str "at")) aNil))))) (kSl (kX 0) none (some (kC (.int 2)))) (kX 0)))
    sNil))⟩
/-! ### _law_mixed -/
abbrev s_u_law_mixed : Stmt := top 25
abbrev N_u_law_mixed : List Str := ["source", "things", "rest", "lap"]
abbrev P_u_law_mixed : List Str := ["source", "things"]
def D_u_law_mixed : Def := ⟨4, [0],
    (sCons (sSet 2 (k1 pList (kX 1)))
    (sCons (sRet (kComp (iRg1 (k1 pLen (kX 2))) (gN 3) none (kPopJ 2 (kCall (D_u_law_pick).run (cMv 0 (cV (k1 pLen (kX 2)) cNil)))) [3]))
    sNil))⟩
/-! ### _law_parts -/
abbrev s_u_law_parts : Stmt := top 32
abbrev N_u_law_parts : List Str := ["item"]
abbrev P_u_law_parts : List Str := ["item"]
def D_u_law_parts : Def := ⟨1, [],
    (sCons (sRet (kIf (bVal (k2 pEq (k2 pIx (kX 0) (kC (.int 0))) (kC (.str "pipe")))) (k1 pList (kSl (k2 pIx (kX 0) (kC (.int 2))) (some (kC (.int 1))) none)) (kLst aNil)))
    sNil)⟩
/-! ### _law_pieces -/
abbrev s_u_law_pieces : Stmt := top 33
abbrev N_u_law_pieces : List Str := ["programs", "name", "wanted", "many", "one", "parts", "late"]
abbrev P_u_law_pieces : List Str := ["programs", "name"]
def D_u_law_pieces : Def := ⟨7, [],
    (sCons (sPar [2, 3] (lCons (kDisp (dCons (kX 1) (kC (.bool true)) dNil)) (lCons (kDisp dNil) lNil)))
    (sCons (sFor (iSeq (k1 pRev (k1 pList (kX 0)))) (gN 4) (sCons (sIf (bVal (k2 pIn (kX 4) (kX 2))) (sCons (sDrop (kUpd 2 (k1 pDict (kComp (iSeq (kCall (D_u_law_parts).run (cV (k2 pIx (kX 0) (kX 4)) cNil))) (gN 6) none (kTup (aCons (kX 6) (aCons (kC (.bool true)) aNil))) [6]))))
    sNil) sNil)
    sNil))
    (sCons (sFor (iK 0) (gN 4) (sCons (sSet 5 (kCall (D_u_law_parts).run (cV (k2 pIx (kX 0) (kX 4)) cNil)))
    (sCons (sPt 3 (kX 4) (kIf (bVal (k2 pNe (kX 5) (kLst aNil))) (k1 pSum (kComp (iSeq (kX 5)) (gN 6) none (k2 pIx (kX 3) (kX 6)) [6])) (kC (.int 1))))
    sNil)))
    (sCons (sRet (kTup (aCons (k1 pTuple (kComp (iK 0) (gN 4) (some (bVal (k2 pIn (kX 4) (kX 2)))) (kX 4) [4])) (aCons (k2 pIx (kX 3) (kX 1)) aNil))))
    sNil))))⟩
/-! ### pieces_of -/
abbrev s_pieces_of : Stmt := top 19
abbrev N_pieces_of : List Str := ["session", "name", "told", "line", "found", "here", "one", "place"]
abbrev P_pieces_of : List Str := ["session", "name"]
def D_pieces_of : Def := ⟨8, [],
    (sCons (sPar [2, 3, 4] (lCons (kCall (D_told_items).run (cV (kX 0) (cV (k1 pLen (k2 pIx (kX 0) (kC (.int 1)))) cNil))) (lCons (kLst (aCons (kX 1) aNil)) (lCons (kDisp dNil) lNil))))
    (sCons (sWhile (bVal (k2 pNe (kX 3) (kLst aNil))) (sCons (sSet 5 (kPopL 3))
    (sCons (sIf (bVal (k2 pNotIn (kX 5) (kX 4))) (sCons (sPt 4 (kX 5) (kC (.bool true)))
    (sCons (sDrop (kExt 3 (kComp (iSeq (kCall (D_programs_said).run (cV (k2 pIx (kX 2) (kX 5)) cNil))) (gT [(gN 7), (gN 6)]) none (kX 6) [7, 6])))
    sNil)) sNil)
    sNil)))
    (sCons (sRet (k1 pTuple (kComp (iK 2) (gN 6) (some (bVal (k2 pIn (kX 6) (kX 4)))) (kX 6) [6])))
    sNil)))⟩
/-! ### programs_read -/
abbrev s_programs_read : Stmt := top 20
abbrev N_programs_read : List Str := ["session", "name", "told", "known", "one", "inner", "place", "late"]
abbrev P_programs_read : List Str := ["session", "name"]
def D_programs_read : Def := ⟨8, [],
    (sCons (sPar [2, 3] (lCons (kCall (D_told_items).run (cV (kX 0) (cV (k1 pLen (k2 pIx (kX 0) (kC (.int 1)))) cNil))) (lCons (kDisp dNil) lNil)))
    (sCons (sFor (iSeq (kCall (D_pieces_of).run (cV (kX 0) (cV (kX 1) cNil)))) (gN 4) (sCons (sSet 5 (kComp (iSeq (kCall (D_programs_said).run (cV (k2 pIx (kX 2) (kX 4)) cNil))) (gT [(gN 6), (gN 7)]) none (kX 7) [6, 7]))
    (sCons (sPt 3 (kX 4) (kIf (bVal (k2 pNe (kX 5) (kLst aNil))) (k1 pSum (kComp (iSeq (kX 5)) (gN 7) none (k2 pIx (kX 3) (kX 7)) [7])) (kC (.int 1))))
    sNil)))
    (sCons (sRet (k2 pIx (kX 3) (kX 1)))
    sNil)))⟩
/-! ### _law_program -/
abbrev s_u_law_program : Stmt := top 26
abbrev N_u_law_program : List Str := ["source", "name", "acts"]
abbrev P_u_law_program : List Str := ["source", "name"]
def D_u_law_program : Def := ⟨3, [0],
    (sCons (sSet 2 (kCall (D_u_law_of).run (cMv 0 (cV (kLst (aCons (kTup (aCons (kTup (aCons (kC (.str "put")) (aCons (kTup (aCons (kC (.str "it")) aNil)) (aCons (kC (.str "x")) aNil)))) aNil)) (aCons (kTup (aCons (kTup (aCons (kC (.str "tell")) (aCons (kTup (aCons (kC (.str "box")) (aCons (kC (.str "x")) aNil))) aNil))) (aCons (kTup (aCons (kC (.str "go")) (aCons (kC (.str "m")) aNil))) aNil))) (aCons (kTup (aCons (kTup (aCons (kC (.str "drop")) (aCons (kC (.str "x")) aNil))) aNil)) (aCons (kTup aNil) aNil))))) cNil))))
    (sCons (sRet (kTup (aCons (kC (.str "program")) (aCons (kX 1) (aCons (kTup (aCons (kC (.str "x")) aNil)) (aCons (kTup (aCons (kTup (aCons (kC (.str "m")) (aCons (k2 pEq (kCall (D_u_law_pick).run (cMv 0 (cV (kC (.int 2)) cNil))) (kC (.int 0))) (aCons (kTup (aCons (kTup (aCons (kTup (aCons (kC (.str "any")) aNil)) (aCons (kX 2) aNil))) aNil)) aNil)))) aNil)) aNil))))))
    sNil))⟩
/-! ### _law_item -/
abbrev s_u_law_item : Stmt := top 27
abbrev N_u_law_item : List Str := ["source", "names", "p", "q", "r", "way", "some", "word", "k"]
abbrev P_u_law_item : List Str := ["source", "names"]
def D_u_law_item : Def := ⟨9, [0],
    (sCons (sUnp (gTL [(gN 2), (gN 3), (gN 4)]) (kComp (iRg1 (kC (.int 3))) (gN 8) none (kCall (D_u_law_of).run (cMv 0 (cV (kX 1) cNil))) [8]))
    (sCons (sSet 5 (kCall (D_u_law_pick).run (cMv 0 (cV (kC (.int 8)) cNil))))
    (sCons (sIf (bVal (k2 pLt (kX 5) (kC (.int 2)))) (sCons (sRet (kCall (D_u_law_program).run (cMv 0 (cV (kX 2) cNil))))
    sNil) sNil)
    (sCons (sIf (bVal (k2 pLt (kX 5) (kC (.int 4)))) (sCons (sSet 7 (kCall (D_u_law_of).run (cMv 0 (cV (kLst (aCons (kC (.str "then")) (aCons (kC (.str "and")) (aCons (kC (.str "or")) (aCons (kC (.str "not")) aNil))))) cNil))))
    (sCons (sRet (kTup (aCons (kC (.str "pipe")) (aCons (kX 2) (aCons (kIf (bVal (k2 pEq (kX 7) (kC (.str "not")))) (kTup (aCons (kX 7) (aCons (kX 3) aNil))) (kTup (aCons (kX 7) (aCons (kX 3) (aCons (kX 4) aNil))))) aNil)))))
    sNil)) sNil)
    (sCons (sIf (bVal (k2 pEq (kX 5) (kC (.int 4)))) (sCons (sRet (kTup (aCons (kC (.str "promise")) (aCons (kCall (D_u_law_of).run (cMv 0 (cV (kLst (aCons (kC (.str "s")) (aCons (kC (.str "t")) (aCons (kC (.str "p")) aNil)))) cNil))) (aCons (kX 2) (aCons (kX 3) (aCons (kX 4) aNil)))))))
    sNil) sNil)
    (sCons (sIf (bVal (k2 pEq (kX 5) (kC (.int 5)))) (sCons (sRet (kCall (D_u_law_of).run (cMv 0 (cV (kLst (aCons (kTup (aCons (kC (.str "stream")) (aCons (kCall (D_u_law_of).run (cMv 0 (cV (kLst (aCons (kC (.str "d")) (aCons (kC (.str "e")) aNil))) cNil))) (aCons (kX 2) aNil)))) (aCons (kTup (aCons (kC (.str "kept")) (aCons (kCall (D_u_law_of).run (cMv 0 (cV (kLst (aCons (kC (.str "s")) (aCons (kC (.str "t")) aNil))) cNil))) aNil))) aNil))) cNil))))
    sNil) sNil)
    (sCons (sIf (bVal (k2 pEq (kX 5) (kC (.int 6)))) (sCons (sRet (kTup (aCons (kCall (D_u_law_of).run (cMv 0 (cV (kLst (aCons (kC (.str "feed")) (aCons (kC (.str "back")) (aCons (kC (.str "at")) aNil)))) cNil))) (aCons (kCall (D_u_law_of).run (cMv 0 (cV (kLst (aCons (kC (.str "d")) (aCons (kC (.str "e")) aNil))) cNil))) aNil))))
    sNil) sNil)
    (sCons (sSet 6 (kLst (aCons (kTup (aCons (kC (.str "run")) (aCons (kX 2) (aCons (kTup (aCons (kC (.str "a")) aNil)) aNil)))) (aCons (kTup (aCons (kC (.str "yes")) (aCons (kX 2) (aCons (kTup aNil) aNil)))) (aCons (kTup (aCons (kC (.str "keeps")) (aCons (kX 2) (aCons (kTup (aCons (kC (.str "a")) (aCons (kC (.str "a")) aNil))) aNil)))) (aCons (kTup (aCons (kC (.str "ever")) (aCons (kX 2) aNil))) (aCons (kTup (aCons (kC (.str "always")) (aCons (kX 2) aNil))) (aCons (kTup (aCons (kC (.str "within")) (aCons (kX 2) (aCons (kX 3) aNil)))) aNil))))))))
    (sCons (sRet (kCall (D_u_law_of).run (cMv 0 (cV (k2 pAdd (kX 6) (kLst (aCons (kTup (aCons (kC (.str "alike")) (aCons (kX 2) (aCons (kX 3) aNil)))) (aCons (kTup (aCons (kC (.str "many")) (aCons (kX 2) (aCons (kC (.int 3)) aNil)))) (aCons (kTup (aCons (kC (.str "size")) (aCons (kX 2) aNil))) (aCons (kTup (aCons (kC (.str "again")) (aCons (kX 2) aNil))) (aCons (kTup (aCons (kC (.str "learn")) (aCons (kX 2) aNil))) aNil))))))) cNil))))
    sNil)))))))))⟩
/-! ### _law_fault -/
abbrev s_u_law_fault : Stmt := top 29
abbrev N_u_law_fault : List Str := ["item", "told", "programs", "said", "some", "place", "name", "k"]
abbrev P_u_law_fault : List Str := ["item", "told"]
def D_u_law_fault : Def := ⟨8, [],
    (sCons (sSet 2 (k2 pIx (kX 1) (kC (.str "programs"))))
    (sCons (sIf (bAnd (bVal (k2 pIn (k2 pIx (kX 0) (kC (.int 0))) (kTup (aCons (kC (.str "program")) (aCons (kC (.str "pipe")) aNil))))) (bVal (k2 pIn (k2 pIx (kX 0) (kC (.int 1))) (kX 2)))) (sCons (sRet (kTup (aCons (kTup (aCons (kC (.int 1)) aNil)) (aCons (kC (.str "twice")) aNil))))
    sNil) sNil)
    (sCons (sIf (bAnd (bVal (k2 pIn (k2 pIx (kX 0) (kC (.int 0))) (kTup (aCons (kC (.str "promise")) (aCons (kC (.str "stream")) aNil))))) (bVal (k2 pIn (k2 pIx (kX 0) (kC (.int 1))) (k2 pIx (kX 1) (k2 pIx (kX 0) (kC (.int 0))))))) (sCons (sRet (kTup (aCons (kTup (aCons (kC (.int 1)) aNil)) (aCons (kC (.str "twice")) aNil))))
    sNil) sNil)
    (sCons (sSet 3 (kLst aNil))
    (sCons (sIf (bVal (k2 pEq (k2 pIx (kX 0) (kC (.int 0))) (kC (.str "pipe")))) (sCons (sSet 3 (kComp (iRg2 (kC (.int 1)) (k1 pLen (k2 pIx (kX 0) (kC (.int 2))))) (gN 7) none (kTup (aCons (kTup (aCons (kC (.int 2)) (aCons (kX 7) aNil))) (aCons (k2 pIx (k2 pIx (kX 0) (kC (.int 2))) (kX 7)) aNil))) [7]))
    sNil) (sCons (sIf (bVal (k2 pEq (k2 pIx (kX 0) (kC (.int 0))) (kC (.str "promise")))) (sCons (sSet 3 (kComp (iSeq (kTup (aCons (kC (.int 2)) (aCons (kC (.int 3)) (aCons (kC (.int 4)) aNil))))) (gN 7) none (kTup (aCons (kTup (aCons (kX 7) aNil)) (aCons (k2 pIx (kX 0) (kX 7)) aNil))) [7]))
    sNil) (sCons (sIf (bVal (k2 pEq (k2 pIx (kX 0) (kC (.int 0))) (kC (.str "stream")))) (sCons (sSet 3 (kLst (aCons (kTup (aCons (kTup (aCons (kC (.int 2)) aNil)) (aCons (k2 pIx (kX 0) (kC (.int 2))) aNil))) aNil)))
    sNil) (sCons (sIf (bVal (k2 pIn (k2 pIx (kX 0) (kC (.int 0))) (kTup (aCons (kC (.str "within")) (aCons (kC (.str "alike")) aNil))))) (sCons (sSet 3 (kLst (aCons (kTup (aCons (kTup (aCons (kC (.int 1)) aNil)) (aCons (k2 pIx (kX 0) (kC (.int 1))) aNil))) (aCons (kTup (aCons (kTup (aCons (kC (.int 2)) aNil)) (aCons (k2 pIx (kX 0) (kC (.int 2))) aNil))) aNil))))
    sNil) (sCons (sIf (bVal (k2 pIn (k2 pIx (kX 0) (kC (.int 0))) (kTup (aCons (kC (.str "feed")) (aCons (kC (.str "back")) (aCons (kC (.str "at")) aNil)))))) (sCons (sRet (kIf (bVal (k2 pIn (k2 pIx (kX 0) (kC (.int 1))) (k2 pIx (kX 1) (kC (.str "stream"))))) (kC .none) (kTup (aCons (kTup (aCons (kC (.int 1)) aNil)) (aCons (kC (.str "stream")) aNil)))))
    sNil) (sCons (sIf (bVal (k2 pEq (k2 pIx (kX 0) (kC (.int 0))) (kC (.str "kept")))) (sCons (sRet (kIf (bVal (k2 pIn (k2 pIx (kX 0) (kC (.int 1))) (k2 pIx (kX 1) (kC (.str "promise"))))) (kC .none) (kTup (aCons (kTup (aCons (kC (.int 1)) aNil)) (aCons (kC (.str "promise")) aNil)))))
    sNil) (sCons (sIf (bVal (k2 pNe (k2 pIx (kX 0) (kC (.int 0))) (kC (.str "program")))) (sCons (sSet 3 (kLst (aCons (kTup (aCons (kTup (aCons (kC (.int 1)) aNil)) (aCons (k2 pIx (kX 0) (kC (.int 1))) aNil))) aNil)))
    sNil) sNil)
    sNil))
    sNil))
    sNil))
    sNil))
    sNil))
    sNil))
    (sCons (sSet 4 (kComp (iSeq (kX 3)) (gT [(gN 5), (gN 6)]) (some (bVal (k2 pNotIn (kX 6) (kX 2)))) (kX 5) [5, 6]))
    (sCons (sRet (kIf (bVal (k2 pNe (kX 4) (kLst aNil))) (kTup (aCons (k2 pIx (kX 4) (kC (.int 0))) (aCons (kC (.str "program")) aNil))) (kC .none)))
    sNil)))))))⟩
/-! ### _law_put -/
abbrev s_u_law_put : Stmt := top 30
abbrev N_u_law_put : List Str := ["told", "item"]
abbrev P_u_law_put : List Str := ["told", "item"]
def D_u_law_put : Def := ⟨2, [0],
    (sCons (sIf (bVal (k2 pIn (k2 pIx (kX 1) (kC (.int 0))) (kTup (aCons (kC (.str "program")) (aCons (kC (.str "pipe")) aNil))))) (sCons (sTabPut 0 (qS "programs") (qIx 1 1) (kX 1))
    sNil) (sCons (sIf (bVal (k2 pIn (k2 pIx (kX 1) (kC (.int 0))) (kTup (aCons (kC (.str "promise")) (aCons (kC (.str "stream")) aNil))))) (sCons (sTabPut 0 (qIx 1 0) (qIx 1 1) (kX 1))
    sNil) sNil)
    sNil))
    sNil)⟩
/-! ### _law_first_wrong -/
abbrev s_u_law_first_wrong : Stmt := top 31
abbrev N_u_law_first_wrong : List Str := ["items", "told", "number", "item", "fault"]
abbrev P_u_law_first_wrong : List Str := ["items"]
def D_u_law_first_wrong : Def := ⟨5, [],
    (sCons (sSet 1 (kTab "programs" "promise" "stream" (kDisp dNil) (kDisp dNil) (kDisp dNil)))
    (sCons (sFor (iEnum (kX 0)) (gT [(gN 2), (gN 3)]) (sCons (sSet 4 (kCallR (D_u_law_fault).run (cV (kX 3) (cMv 1 cNil))))
    (sCons (sIf (bVal (k1 pNotN (kX 4))) (sCons (sRet (k2 pAdd (kTup (aCons (kX 2) aNil)) (kX 4)))
    sNil) sNil)
    (sCons (sDrop (kCall (D_u_law_put).run (cMv 1 (cV (kX 3) cNil))))
    sNil))))
    (sCons (sRet (kC .none))
    sNil)))⟩
/-! ### law -/
abbrev s_law : Stmt := top 34
abbrev N_law : List Str := ["script", "source", "lap", "one", "some", "session", "names", "words", "items", "right", "turn", "kept", "number", "programs", "name", "item", "due", "pieces", "many"]
abbrev P_law : List Str := ["script"]
def D_law : Def := ⟨19, [],
    (sCons (sSet 1 (kCall (D_u_law_source).run (cPass 0 cNil)))
    (sCons (sFor (iRg1 (kC (.int 4))) (gN 2) (sCons (sSet 6 (kCall (D_u_law_of).run (cMv 1 (cV (kLst (aCons (kLst (aCons (kC (.str "p")) (aCons (kC (.str "q")) aNil))) (aCons (kLst (aCons (kC (.str "p")) (aCons (kC (.str "q")) (aCons (kC (.str "r")) aNil)))) (aCons (kLst (aCons (kC (.str "p")) (aCons (kC (.str "q")) (aCons (kC (.str "r")) (aCons (kC (.str "b")) (aCons (kC (.str "c")) aNil)))))) aNil)))) cNil))))
    (sCons (sSet 7 (kCall (D_u_law_of).run (cMv 1 (cV (kLst (aCons (kTup aNil) (aCons (kTup (aCons (kC (.str "go")) aNil)) aNil))) cNil))))
    (sCons (sPar [8, 9] (lCons (kLst aNil) (lCons (kLst aNil) lNil)))
    (sCons (sFor (iRg1 (kIf (bOr (bVal (k2 pGt (kX 2) (kC (.int 0)))) (bVal (k2 pGt (kCall (D_u_law_pick).run (cMv 1 (cV (kC (.int 6)) cNil))) (kC (.int 0))))) (k2 pAdd (kC (.int 3)) (kCall (D_u_law_pick).run (cMv 1 (cV (kC (.int 8)) cNil)))) (kC (.int 40)))) (gN 10) (sCons (sSet 15 (kCall (D_u_law_right_form).run (cV (kCall (D_u_law_item).run (cMv 1 (cV (kX 6) cNil))) cNil)))
    (sCons (sIf (bOr (bVal (k1 pIsN (kCall (D_u_law_first_wrong).run (cV (k2 pAdd (kX 9) (kLst (aCons (kX 15) aNil))) cNil)))) (bVal (k2 pEq (kCall (D_u_law_pick).run (cMv 1 (cV (kC (.int 4)) cNil))) (kC (.int 0))))) (sCons (sDrop (kApp 8 (kX 15)))
    sNil) sNil)
    (sCons (sIf (bVal (k1 pIsN (kCall (D_u_law_first_wrong).run (cV (k2 pAdd (kX 9) (kLst (aCons (kX 15) aNil))) cNil)))) (sCons (sDrop (kApp 9 (kX 15)))
    sNil) sNil)
    sNil))))
    (sCons (sPar [5, 11] (lCons (kTup (aCons (kX 7) (aCons (k1 pTuple (kX 8)) aNil))) (lCons (k1 pRepr (kX 8)) lNil)))
    (sCons (sIf (bOr (bVal (k2 pNeS (k1 pRepr (kCall (D_wrong_item).run (cV (kX 5) cNil))) (k1 pRepr (kCall (D_u_law_first_wrong).run (cV (kX 8) cNil))))) (bVal (k2 pNeS (k1 pRepr (kX 8)) (kX 11)))) (sCons (sRet (kC (.bool false)))
    sNil) sNil)
    (sCons (sSet 5 (kTup (aCons (kX 7) (aCons (k1 pTuple (kX 9)) aNil))))
    (sCons (sIf (bVal (k1 pNotN (kCall (D_wrong_item).run (cV (kX 5) cNil)))) (sCons (sRet (kC (.bool false)))
    sNil) sNil)
    (sCons (sFor (iSeq (kTup (aCons (kC (.int 0)) (aCons (k1 pLen (kX 9)) (aCons (kCall (D_u_law_pick).run (cMv 1 (cV (k2 pAdd (k1 pLen (kX 9)) (kC (.int 1))) cNil))) aNil))))) (gN 12) (sCons (sSet 16 (k1 pDict (kComp (iSeq (kSl (kX 9) none (some (kX 12)))) (gN 15) (some (bVal (k2 pIn (k2 pIx (kX 15) (kC (.int 0))) (kTup (aCons (kC (.str "program")) (aCons (kC (.str "pipe")) aNil)))))) (kTup (aCons (k2 pIx (kX 15) (kC (.int 1))) (aCons (kX 15) aNil))) [15])))
    (sCons (sIf (bVal (k2 pNeS (k1 pReprD (kCall (D_told_items).run (cV (kX 5) (cV (kX 12) cNil)))) (k1 pReprD (kX 16)))) (sCons (sRet (kC (.bool false)))
    sNil) sNil)
    sNil)))
    (sCons (sSet 13 (kCall (D_told_items).run (cV (kX 5) (cV (k1 pLen (kX 9)) cNil))))
    (sCons (sFor (iSeq (kSl (kCall (D_u_law_mixed).run (cMv 1 (cV (k1 pList (kX 13)) cNil))) none (some (kC (.int 3))))) (gN 14) (sCons (sUnp (gT [(gN 17), (gN 18)]) (kCall (D_u_law_pieces).run (cV (kX 13) (cV (kX 14) cNil))))
    (sCons (sIf (bAnd (bVal (k2 pLt (kX 18) (kC (.int 200)))) (bVal (k2 pNeS (k1 pRepr (kLst (aCons (kCall (D_pieces_of).run (cV (kX 5) (cV (kX 14) cNil))) (aCons (kCall (D_programs_read).run (cV (kX 5) (cV (kX 14) cNil))) aNil)))) (k1 pRepr (kLst (aCons (kX 17) (aCons (kX 18) aNil))))))) (sCons (sRet (kC (.bool false)))
    sNil) sNil)
    sNil)))
    sNil))))))))))))
    (sCons (sSet 3 (kTup (aCons (kC (.str "program")) (aCons (kC (.str "p")) (aCons (kTup aNil) (aCons (kTup (aCons (kTup (aCons (kC (.str "m")) (aCons (kC (.bool true)) (aCons (kTup aNil) aNil)))) aNil)) aNil))))))
    (sCons (sSet 4 (kTup (aCons (kX 3) (aCons (kTup (aCons (kC (.str "pipe")) (aCons (kC (.str "r")) (aCons (kTup (aCons (kC (.str "then")) (aCons (kC (.str "p")) (aCons (kC (.str "p")) aNil)))) aNil)))) (aCons (kTup (aCons (kC (.str "pipe")) (aCons (kC (.str "t")) (aCons (kTup (aCons (kC (.str "and")) (aCons (kC (.str "r")) (aCons (kC (.str "r")) aNil)))) aNil)))) (aCons (kTup (aCons (kC (.str "pipe")) (aCons (kC (.str "u")) (aCons (kTup (aCons (kC (.str "not")) (aCons (kC (.str "v")) aNil))) aNil)))) aNil))))))
    (sCons (sSet 5 (kTup (aCons (kTup aNil) (aCons (kX 4) aNil))))
    (sCons (sIf (bVal (k2 pNe (kCall (D_wrong_item).run (cV (kX 5) cNil)) (kTup (aCons (kC (.int 3)) (aCons (kTup (aCons (kC (.int 2)) (aCons (kC (.int 1)) aNil))) (aCons (kC (.str "program")) aNil)))))) (sCons (sRet (kC (.bool false)))
    sNil) sNil)
    (sCons (sSet 5 (kTup (aCons (kTup aNil) (aCons (kSl (k2 pIx (kX 5) (kC (.int 1))) none (some (kC (.int 3)))) aNil))))
    (sCons (sRet (k2 pEq (kLst (aCons (kCall (D_wrong_item).run (cV (kX 5) cNil)) (aCons (kCall (D_programs_read).run (cV (kX 5) (cV (kC (.str "t")) cNil))) (aCons (kCall (D_pieces_of).run (cV (kX 5) (cV (kC (.str "t")) cNil))) aNil)))) (kLst (aCons (kC .none) (aCons (kC (.int 4)) (aCons (kTup (aCons (kC (.str "p")) (aCons (kC (.str "r")) (aCons (kC (.str "t")) aNil)))) aNil))))))
    sNil))))))))⟩
section
variable {P : Program} {w0 : World} {K : PySem.W.Frag} {mg : Str → Option Value} {base : Heap} {f : Addr} {fd : FuncData} {cdv : Value} {A : Around} {outer : List Env} {s : Shared} {H : Hp} {E : XK}

theorem sc_u_law_source : FnScope N_u_law_source P_u_law_source (defScope s_u_law_source) := ⟨rfl, rfl, rfl, by decide +kernel, rfl, by decide +kernel, by decide +kernel⟩
theorem d_u_law_source (M : MG K mg)  (room : Room 0 (A.deeper (envOfC "_law_source" (defScope s_u_law_source) s.heap.objs.size f cdv))) (gd : A.guards = some []) :
    GSs (W0 K) [] (bodyCx P w0 K mg base N_u_law_source "_law_source" s_u_law_source f cdv A outer s H E) (defBody s_u_law_source) D_u_law_source.body := by
  have c : Cok (W0 K) 0 (bodyCx P w0 K mg base N_u_law_source "_law_source" s_u_law_source f cdv A outer s H E) := ⟨rfl, rfl, sc_u_law_source.nd, room, gd⟩
  simp only [D_u_law_source]
  exact (gss_cons (gs_set 1 c.nd ge_int)
    (gss_cons (gs_for c PassesOwn.never (gi_scr c 0) (gg_n 2 c.nd) (gss_cons (gs_set 1 c.nd (ge_mod (ge_intF M.n_int (ge_add c (ge_add c (ge_mul c (ge_v 1) ge_int) (ge_mul c (ge_v 2) ge_int)) ge_int)) ge_int))
    gss_nil))
    (gss_cons (gs_ret (ge_src (ge_rev (ge_lc [("cell", 2)] c (gi_scr c 0) (by kernel_rfl) (fun _ _ _ _ _ => (gg_n 2 c.blk.nd)) (fun _ _ _ _ _ => gc_no) (fun _ _ _ _ _ => (ge_abs M.n_abs (ge_v 2))))) ge_int (ge_v 1) ge_int))
    gss_nil)))
theorem ok_u_law_source (F : L2.Fun K "_law_source" "_law_source" s_u_law_source f fd) (M : MG K mg)  : FnG P w0 K mg base (0 + 1) f fd P_u_law_source (spD (W0 K) 1 D_u_law_source) :=
  fnD_of F sc_u_law_source rfl (show ([] : List Nat).Nodup by decide) (show ∀ i ∈ ([] : List Nat), i < P_u_law_source.length by decide) fun cdv A outer s H E room gd => d_u_law_source M  room gd
theorem sc_u_law_pick : FnScope N_u_law_pick P_u_law_pick (defScope s_u_law_pick) := ⟨rfl, rfl, rfl, by decide +kernel, rfl, by decide +kernel, by decide +kernel⟩
theorem d_u_law_pick (M : MG K mg)  (room : Room 0 (A.deeper (envOfC "_law_pick" (defScope s_u_law_pick) s.heap.objs.size f cdv))) (gd : A.guards = some []) :
    GSs (W0 K) [0] (bodyCx P w0 K mg base N_u_law_pick "_law_pick" s_u_law_pick f cdv A outer s H E) (defBody s_u_law_pick) D_u_law_pick.body := by
  have c : Cok (W0 K) 0 (bodyCx P w0 K mg base N_u_law_pick "_law_pick" s_u_law_pick f cdv A outer s H E) := ⟨rfl, rfl, sc_u_law_pick.nd, room, gd⟩
  simp only [D_u_law_pick]
  exact (gss_cons (gs_while PassesOwn.never (gb_and (gb_gt (ge_v 1) ge_int) (gb_and (gb_lt (ge_srcI c 0 .left) ge_int) (gb_and1 (gb_gt (ge_srcLen M.n_len c 0) ge_int)))).pt (gss_cons (gs_srcPut c 0 .left (ge_srcPop c 0))
    gss_nil))
    (gss_cons (gs_set 2 c.nd (ge_srcI c 0 .left))
    (gss_cons (gs_if (gb_or (gb_lt (ge_v 1) ge_int) (gb_or1 (gb_gt (ge_v 2) ge_int))).pt (gss_cons (gs_srcPut c 0 .left (ge_div (ge_v 2) (ge_max2 M.n_max c ge_int (ge_v 1))))
    (gss_cons (gs_ret (ge_mod (ge_intF M.n_int (ge_v 2)) (ge_max2 M.n_max c ge_int (ge_v 1))))
    gss_nil)) gss_nil)
    (gss_cons (gs_srcPut c 0 .turn (ge_add c (ge_srcI c 0 .turn) ge_int))
    (gss_cons (gs_set 3 c.nd (ge_mod (ge_intF M.n_int (ge_add c (ge_srcI c 0 .mixed) (ge_mul c (ge_srcI c 0 .turn) ge_int))) ge_int))
    (gss_cons (gs_set 3 c.nd (ge_mod (ge_intF M.n_int (ge_add c (ge_mul c (ge_v 3) (ge_v 3)) (ge_mul c (ge_srcI c 0 .turn) ge_int))) ge_int))
    (gss_cons (gs_srcPut c 0 .mixed (ge_v 3))
    (gss_cons (gs_ret (ge_mod (ge_intF M.n_int (ge_div (ge_v 3) ge_int)) (ge_v 1)))
    gss_nil))))))))
theorem ok_u_law_pick (F : L2.Fun K "_law_pick" "_law_pick" s_u_law_pick f fd) (M : MG K mg)  : FnG P w0 K mg base (0 + 1) f fd P_u_law_pick (spD (W0 K) 2 D_u_law_pick) :=
  fnD_of F sc_u_law_pick rfl (show ([0] : List Nat).Nodup by decide) (show ∀ i ∈ ([0] : List Nat), i < P_u_law_pick.length by decide) fun cdv A outer s H E room gd => d_u_law_pick M  room gd
theorem sc_u_law_of : FnScope N_u_law_of P_u_law_of (defScope s_u_law_of) := ⟨rfl, rfl, rfl, by decide +kernel, rfl, by decide +kernel, by decide +kernel⟩
theorem d_u_law_of (M : MG K mg) (C_u_law_pick : CalG P w0 K mg base 1 "_law_pick" (spD (W0 K) 2 D_u_law_pick)) (room : Room 1 (A.deeper (envOfC "_law_of" (defScope s_u_law_of) s.heap.objs.size f cdv))) (gd : A.guards = some []) :
    GSs (W0 K) [0] (bodyCx P w0 K mg base N_u_law_of "_law_of" s_u_law_of f cdv A outer s H E) (defBody s_u_law_of) D_u_law_of.body := by
  have c : Cok (W0 K) 1 (bodyCx P w0 K mg base N_u_law_of "_law_of" s_u_law_of f cdv A outer s H E) := ⟨rfl, rfl, sc_u_law_of.nd, room, gd⟩
  simp only [D_u_law_of]
  exact (gss_cons (gs_ret (ge_ix c (ge_v 1) (ge_call c C_u_law_pick (gr_io 0 (gr_v (ge_len M.n_len c (ge_v 1)) gr_nil)) (by omega))))
    gss_nil)
theorem ok_u_law_of (F : L2.Fun K "_law_of" "_law_of" s_u_law_of f fd) (M : MG K mg) (C_u_law_pick : CalG P w0 K mg base 1 "_law_pick" (spD (W0 K) 2 D_u_law_pick)) : FnG P w0 K mg base (1 + 1) f fd P_u_law_of (spD (W0 K) 2 D_u_law_of) :=
  fnD_of F sc_u_law_of rfl (show ([0] : List Nat).Nodup by decide) (show ∀ i ∈ ([0] : List Nat), i < P_u_law_of.length by decide) fun cdv A outer s H E room gd => d_u_law_of M C_u_law_pick room gd
theorem sc_told_items : FnScope N_told_items P_told_items (defScope s_told_items) := ⟨rfl, rfl, rfl, by decide +kernel, rfl, by decide +kernel, by decide +kernel⟩
theorem d_told_items (M : MG K mg)  (room : Room 0 (A.deeper (envOfC "told_items" (defScope s_told_items) s.heap.objs.size f cdv))) (gd : A.guards = some []) :
    GSs (W0 K) [] (bodyCx P w0 K mg base N_told_items "told_items" s_told_items f cdv A outer s H E) (defBody s_told_items) D_told_items.body := by
  have c : Cok (W0 K) 0 (bodyCx P w0 K mg base N_told_items "told_items" s_told_items f cdv A outer s H E) := ⟨rfl, rfl, sc_told_items.nd, room, gd⟩
  simp only [D_told_items]
  exact (gss_cons (gs_ret (ge_dictL M.n_dict c (ge_lc [("item", 2)] c (gi_seq c (ge_sl c (ge_ix c (ge_v 0) ge_int) gp_none (gp_some (ge_v 1)))) (by kernel_rfl) (fun _ _ _ _ _ => (gg_n 2 c.blk.nd)) (fun _ _ _ _ _ => (gc_if (gb_in c.blk (ge_ix c.blk (ge_v 2) ge_int) (ge_tup (ga_cons ge_str (ga_cons ge_str ga_nil)))))) (fun _ _ _ _ _ => (ge_tup (ga_cons (ge_ix c.blk (ge_v 2) ge_int) (ga_cons (ge_v 2) ga_nil)))))))
    gss_nil)
theorem ok_told_items (F : L2.Fun K "told_items" "told_items" s_told_items f fd) (M : MG K mg)  : FnG P w0 K mg base (0 + 1) f fd P_told_items (spD (W0 K) 2 D_told_items) :=
  fnD_of F sc_told_items rfl (show ([] : List Nat).Nodup by decide) (show ∀ i ∈ ([] : List Nat), i < P_told_items.length by decide) fun cdv A outer s H E room gd => d_told_items M  room gd
theorem sc_names_told : FnScope N_names_told P_names_told (defScope s_names_told) := ⟨rfl, rfl, rfl, by decide +kernel, rfl, by decide +kernel, by decide +kernel⟩
theorem d_names_told (M : MG K mg)  (room : Room 0 (A.deeper (envOfC "names_told" (defScope s_names_told) s.heap.objs.size f cdv))) (gd : A.guards = some []) :
    GSs (W0 K) [] (bodyCx P w0 K mg base N_names_told "names_told" s_names_told f cdv A outer s H E) (defBody s_names_told) D_names_told.body := by
  have c : Cok (W0 K) 0 (bodyCx P w0 K mg base N_names_told "names_told" s_names_told f cdv A outer s H E) := ⟨rfl, rfl, sc_names_told.nd, room, gd⟩
  simp only [D_names_told]
  exact (gss_cons (gs_ret (ge_lc [("item", 3)] c (gi_seq c (ge_sl c (ge_ix c (ge_v 0) ge_int) gp_none (gp_some (ge_v 1)))) (by kernel_rfl) (fun _ _ _ _ _ => (gg_n 3 c.blk.nd)) (fun _ _ _ _ _ => (gc_if (gb_eq c.blk (ge_ix c.blk (ge_v 3) ge_int) (ge_v 2)))) (fun _ _ _ _ _ => (ge_ix c.blk (ge_v 3) ge_int))))
    gss_nil)
theorem ok_names_told (F : L2.Fun K "names_told" "names_told" s_names_told f fd) (M : MG K mg)  : FnG P w0 K mg base (0 + 1) f fd P_names_told (spD (W0 K) 3 D_names_told) :=
  fnD_of F sc_names_told rfl (show ([] : List Nat).Nodup by decide) (show ∀ i ∈ ([] : List Nat), i < P_names_told.length by decide) fun cdv A outer s H E room gd => d_names_told M  room gd
theorem sc_twice_told : FnScope N_twice_told P_twice_told (defScope s_twice_told) := ⟨rfl, rfl, rfl, by decide +kernel, rfl, by decide +kernel, by decide +kernel⟩
theorem d_twice_told (M : MG K mg) (C_told_items : CalG P w0 K mg base 1 "told_items" (spD (W0 K) 2 D_told_items)) (C_names_told : CalG P w0 K mg base 1 "names_told" (spD (W0 K) 3 D_names_told)) (room : Room 1 (A.deeper (envOfC "twice_told" (defScope s_twice_told) s.heap.objs.size f cdv))) (gd : A.guards = some []) :
    GSs (W0 K) [] (bodyCx P w0 K mg base N_twice_told "twice_told" s_twice_told f cdv A outer s H E) (defBody s_twice_told) D_twice_told.body := by
  have c : Cok (W0 K) 1 (bodyCx P w0 K mg base N_twice_told "twice_told" s_twice_told f cdv A outer s H E) := ⟨rfl, rfl, sc_twice_told.nd, room, gd⟩
  simp only [D_twice_told]
  exact (gss_cons (gs_set 2 c.nd (ge_ix c (ge_ix c (ge_v 0) ge_int) (ge_v 1)))
    (gss_cons (gs_if (gb_in c (ge_ix c (ge_v 2) ge_int) (ge_tup (ga_cons ge_str (ga_cons ge_str ga_nil)))) (gss_cons (gs_ret (ge_in c (ge_ix c (ge_v 2) ge_int) (ge_call c C_told_items (gr_v (ge_v 0) (gr_v (ge_v 1) gr_nil)) (by omega))))
    gss_nil) gss_nil)
    (gss_cons (gs_ret (ge_and (ge_in c (ge_ix c (ge_v 2) ge_int) (ge_tup (ga_cons ge_str (ga_cons ge_str ga_nil)))) (ge_one (ge_in c (ge_ix c (ge_v 2) ge_int) (ge_call c C_names_told (gr_v (ge_v 0) (gr_v (ge_v 1) (gr_v (ge_ix c (ge_v 2) ge_int) gr_nil))) (by omega))))))
    gss_nil)))
theorem ok_twice_told (F : L2.Fun K "twice_told" "twice_told" s_twice_told f fd) (M : MG K mg) (C_told_items : CalG P w0 K mg base 1 "told_items" (spD (W0 K) 2 D_told_items)) (C_names_told : CalG P w0 K mg base 1 "names_told" (spD (W0 K) 3 D_names_told)) : FnG P w0 K mg base (1 + 1) f fd P_twice_told (spD (W0 K) 2 D_twice_told) :=
  fnD_of F sc_twice_told rfl (show ([] : List Nat).Nodup by decide) (show ∀ i ∈ ([] : List Nat), i < P_twice_told.length by decide) fun cdv A outer s H E room gd => d_twice_told M C_told_items C_names_told room gd
theorem sc_first_twice : FnScope N_first_twice P_first_twice (defScope s_first_twice) := ⟨rfl, rfl, rfl, by decide +kernel, rfl, by decide +kernel, by decide +kernel⟩
theorem d_first_twice (M : MG K mg)  (room : Room 0 (A.deeper (envOfC "first_twice" (defScope s_first_twice) s.heap.objs.size f cdv))) (gd : A.guards = some []) :
    GSs (W0 K) [] (bodyCx P w0 K mg base N_first_twice "first_twice" s_first_twice f cdv A outer s H E) (defBody s_first_twice) D_first_twice.body := by
  have c : Cok (W0 K) 0 (bodyCx P w0 K mg base N_first_twice "first_twice" s_first_twice f cdv A outer s H E) := ⟨rfl, rfl, sc_first_twice.nd, room, gd⟩
  simp only [D_first_twice]
  exact (gss_cons (gs_setLc2 1 [("k", 2), ("name", 3)] c (gi_enum c M.n_enumerate (ge_v 0)) (by kernel_rfl) (fun _ _ _ _ _ => (gg_2 c.blk.calm (ggs_cons (gg_n 2 c.blk.nd) (ggs_cons (gg_n 3 c.blk.nd) ggs_nil)))) (fun _ _ _ _ _ => (gc_if (gb_in c.blk (ge_v 3) (ge_sl c.blk (ge_v 0) gp_none (gp_some (ge_v 2)))))) (fun _ _ _ _ _ => (ge_v 2)))
    (gss_cons (gs_ret (ge_if (gb_ne c (ge_v 1) (ge_lst ga_nil)) (ge_ix c (ge_v 1) ge_int) ge_non))
    gss_nil))
theorem ok_first_twice (F : L2.Fun K "first_twice" "first_twice" s_first_twice f fd) (M : MG K mg)  : FnG P w0 K mg base (0 + 1) f fd P_first_twice (spD (W0 K) 1 D_first_twice) :=
  fnD_of F sc_first_twice rfl (show ([] : List Nat).Nodup by decide) (show ∀ i ∈ ([] : List Nat), i < P_first_twice.length by decide) fun cdv A outer s H E room gd => d_first_twice M  room gd
theorem sc_conditions_in : FnScope N_conditions_in P_conditions_in (defScope s_conditions_in) := ⟨rfl, rfl, rfl, by decide +kernel, rfl, by decide +kernel, by decide +kernel⟩
theorem d_conditions_in (M : MG K mg)  (room : Room 0 (A.deeper (envOfC "conditions_in" (defScope s_conditions_in) s.heap.objs.size f cdv))) (gd : A.guards = some []) :
    GSs (W0 K) [] (bodyCx P w0 K mg base N_conditions_in "conditions_in" s_conditions_in f cdv A outer s H E) (defBody s_conditions_in) D_conditions_in.body := by
  have c : Cok (W0 K) 0 (bodyCx P w0 K mg base N_conditions_in "conditions_in" s_conditions_in f cdv A outer s H E) := ⟨rfl, rfl, sc_conditions_in.nd, room, gd⟩
  simp only [D_conditions_in]
  exact (gss_cons (gs_par2 c.nd c 2 3 (gl_cons (ge_lst ga_nil) (gl_cons (ge_lst (ga_cons (ge_tup (ga_cons (ge_v 1) (ga_cons (ge_v 0) ga_nil))) ga_nil)) gl_nil)))
    (gss_cons (gs_while PassesOwn.never (gb_ne c (ge_v 3) (ge_lst ga_nil)) (gss_cons (gs_unp (ge_pop 3) (gg_t c (ggs_cons (gg_n 4 c.nd) (ggs_cons (gg_n 5 c.nd) ggs_nil))))
    (gss_cons (gs_drop (ge_app 2 (ge_tup (ga_cons (ge_v 4) (ga_cons (ge_v 5) ga_nil)))))
    (gss_cons (gs_if (gb_in c (ge_ix c (ge_v 5) ge_int) (ge_tup (ga_cons ge_str (ga_cons ge_str (ga_cons ge_str ga_nil))))) (gss_cons (gs_drop (ge_ext c 3 (ge_lc [("k", 6)] c (gi_rgD c M.n_range (ge_sub (ge_len M.n_len c (ge_v 5)) ge_int) ge_int (ge_neg ge_int)) (by kernel_rfl) (fun _ _ _ _ _ => (gg_n 6 c.blk.nd)) (fun _ _ _ _ _ => gc_no) (fun _ _ _ _ _ => (ge_tup (ga_cons (ge_tup (ga_star c.blk (ge_v 4) (ga_cons (ge_v 6) ga_nil))) (ga_cons (ge_ix c.blk (ge_v 5) (ge_v 6)) ga_nil)))))))
    gss_nil) gss_nil)
    gss_nil))))
    (gss_cons (gs_ret (ge_v 2))
    gss_nil)))
theorem ok_conditions_in (F : L2.Fun K "conditions_in" "conditions_in" s_conditions_in f fd) (M : MG K mg)  : FnG P w0 K mg base (0 + 1) f fd P_conditions_in (spD (W0 K) 2 D_conditions_in) :=
  fnD_of F sc_conditions_in rfl (show ([] : List Nat).Nodup by decide) (show ∀ i ∈ ([] : List Nat), i < P_conditions_in.length by decide) fun cdv A outer s H E room gd => d_conditions_in M  room gd
theorem sc_is_unknown : FnScope N_is_unknown P_is_unknown (defScope s_is_unknown) := ⟨rfl, rfl, rfl, by decide +kernel, rfl, by decide +kernel, by decide +kernel⟩
theorem d_is_unknown (M : MG K mg)  (room : Room 0 (A.deeper (envOfC "is_unknown" (defScope s_is_unknown) s.heap.objs.size f cdv))) (gd : A.guards = some []) :
    GSs (W0 K) [] (bodyCx P w0 K mg base N_is_unknown "is_unknown" s_is_unknown f cdv A outer s H E) (defBody s_is_unknown) D_is_unknown.body := by
  have c : Cok (W0 K) 0 (bodyCx P w0 K mg base N_is_unknown "is_unknown" s_is_unknown f cdv A outer s H E) := ⟨rfl, rfl, sc_is_unknown.nd, room, gd⟩
  simp only [D_is_unknown]
  exact (gss_cons (gs_ret (ge_notIn c (ge_v 2) (ge_ix c (ge_v 0) (ge_v 1))))
    gss_nil)
theorem ok_is_unknown (F : L2.Fun K "is_unknown" "is_unknown" s_is_unknown f fd) (M : MG K mg)  : FnG P w0 K mg base (0 + 1) f fd P_is_unknown (spD (W0 K) 3 D_is_unknown) :=
  fnD_of F sc_is_unknown rfl (show ([] : List Nat).Nodup by decide) (show ∀ i ∈ ([] : List Nat), i < P_is_unknown.length by decide) fun cdv A outer s H E room gd => d_is_unknown M  room gd
theorem sc_names_said : FnScope N_names_said P_names_said (defScope s_names_said) := ⟨rfl, rfl, rfl, by decide +kernel, rfl, by decide +kernel, by decide +kernel⟩
theorem d_names_said (M : MG K mg)  (room : Room 0 (A.deeper (envOfC "names_said" (defScope s_names_said) s.heap.objs.size f cdv))) (gd : A.guards = some []) :
    GSs (W0 K) [] (bodyCx P w0 K mg base N_names_said "names_said" s_names_said f cdv A outer s H E) (defBody s_names_said) D_names_said.body := by
  have c : Cok (W0 K) 0 (bodyCx P w0 K mg base N_names_said "names_said" s_names_said f cdv A outer s H E) := ⟨rfl, rfl, sc_names_said.nd, room, gd⟩
  simp only [D_names_said]
  exact (gss_cons (gs_set 2 c.nd (ge_lst ga_nil))
    (gss_cons (gs_for c PassesOwn.never (gi_rg2 M.n_range ge_int (ge_len M.n_len c (ge_v 0))) (gg_n 3 c.nd) (gss_cons (gs_set 4 c.nd (ge_ix c (ge_v 0) (ge_v 3)))
    (gss_cons (gs_if (gb_or (gb_in c (ge_ix c (ge_v 0) ge_int) (ge_tup (ga_cons ge_str (ga_cons ge_str ga_nil)))) (gb_or (gb_and (gb_eq c (ge_ix c (ge_v 0) ge_int) ge_str) (gb_and1 (gb_eq c (ge_v 3) ge_int))).pt (gb_or1 (gb_and (gb_eq c (ge_ix c (ge_v 0) ge_int) ge_str) (gb_and1 (gb_eq c (ge_v 3) ge_int))).pt))).pt (gss_cons (gs_if (gb_ne c (ge_ix c (ge_v 4) ge_int) ge_str) (gss_cons (gs_drop (ge_app 2 (ge_tup (ga_cons (ge_ix c (ge_v 4) ge_int) (ga_cons (ge_ix c (ge_v 4) ge_int) (ga_cons (ge_tup (ga_star c (ge_v 1) (ga_cons (ge_v 3) (ga_cons ge_int ga_nil)))) ga_nil))))))
    gss_nil) gss_nil)
    gss_nil) (gss_cons (gs_if (gb_eq c (ge_ix c (ge_v 0) ge_int) ge_str) (gss_cons (gs_drop (ge_app 2 (ge_tup (ga_cons ge_str (ga_cons (ge_v 4) (ga_cons (ge_tup (ga_star c (ge_v 1) (ga_cons (ge_v 3) ga_nil))) ga_nil))))))
    gss_nil) (gss_cons (gs_if (gb_in c (ge_ix c (ge_v 0) ge_int) (ge_tup (ga_cons ge_str (ga_cons ge_str (ga_cons ge_str (ga_cons ge_str ga_nil)))))) (gss_cons (gs_drop (ge_app 2 (ge_tup (ga_cons ge_str (ga_cons (ge_v 4) (ga_cons (ge_tup (ga_star c (ge_v 1) (ga_cons (ge_v 3) ga_nil))) ga_nil))))))
    gss_nil) gss_nil)
    gss_nil))
    gss_nil))
    gss_nil)))
    (gss_cons (gs_ret (ge_v 2))
    gss_nil)))
theorem ok_names_said (F : L2.Fun K "names_said" "names_said" s_names_said f fd) (M : MG K mg)  : FnG P w0 K mg base (0 + 1) f fd P_names_said (spD (W0 K) 2 D_names_said) :=
  fnD_of F sc_names_said rfl (show ([] : List Nat).Nodup by decide) (show ∀ i ∈ ([] : List Nat), i < P_names_said.length by decide) fun cdv A outer s H E room gd => d_names_said M  room gd
theorem sc_set_by : FnScope N_set_by P_set_by (defScope s_set_by) := ⟨rfl, rfl, rfl, by decide +kernel, rfl, by decide +kernel, by decide +kernel⟩
theorem d_set_by (M : MG K mg)  (room : Room 0 (A.deeper (envOfC "set_by" (defScope s_set_by) s.heap.objs.size f cdv))) (gd : A.guards = some []) :
    GSs (W0 K) [] (bodyCx P w0 K mg base N_set_by "set_by" s_set_by f cdv A outer s H E) (defBody s_set_by) D_set_by.body := by
  have c : Cok (W0 K) 0 (bodyCx P w0 K mg base N_set_by "set_by" s_set_by f cdv A outer s H E) := ⟨rfl, rfl, sc_set_by.nd, room, gd⟩
  simp only [D_set_by]
  exact (gss_cons (gs_ret (ge_if (gb_eq c (ge_ix c (ge_v 0) ge_int) ge_str) (ge_ix c (ge_v 0) ge_int) (ge_if (gb_eq c (ge_ix c (ge_v 0) ge_int) ge_str) (ge_ix c (ge_v 0) ge_int) ge_non)))
    gss_nil)
theorem ok_set_by (F : L2.Fun K "set_by" "set_by" s_set_by f fd) (M : MG K mg)  : FnG P w0 K mg base (0 + 1) f fd P_set_by (spD (W0 K) 1 D_set_by) :=
  fnD_of F sc_set_by rfl (show ([] : List Nat).Nodup by decide) (show ∀ i ∈ ([] : List Nat), i < P_set_by.length by decide) fun cdv A outer s H E room gd => d_set_by M  room gd
theorem sc_act_clashes : FnScope N_act_clashes P_act_clashes (defScope s_act_clashes) := ⟨rfl, rfl, rfl, by decide +kernel, rfl, by decide +kernel, by decide +kernel⟩
theorem d_act_clashes (M : MG K mg) (C_set_by : CalG P w0 K mg base 1 "set_by" (spD (W0 K) 1 D_set_by)) (room : Room 1 (A.deeper (envOfC "act_clashes" (defScope s_act_clashes) s.heap.objs.size f cdv))) (gd : A.guards = some []) :
    GSs (W0 K) [] (bodyCx P w0 K mg base N_act_clashes "act_clashes" s_act_clashes f cdv A outer s H E) (defBody s_act_clashes) D_act_clashes.body := by
  have c : Cok (W0 K) 1 (bodyCx P w0 K mg base N_act_clashes "act_clashes" s_act_clashes f cdv A outer s H E) := ⟨rfl, rfl, sc_act_clashes.nd, room, gd⟩
  simp only [D_act_clashes]
  exact (gss_cons (gs_par2 c.nd c 2 3 (gl_cons (ge_ix c (ge_v 0) (ge_v 1)) (gl_cons (ge_sl c (ge_v 0) gp_none (gp_some (ge_v 1))) gl_nil)))
    (gss_cons (gs_if (gb_eq c (ge_ix c (ge_v 2) ge_int) ge_str) (gss_cons (gs_ret (ge_ne c (ge_lc [("one", 4)] c (gi_seq c (ge_v 3)) (by kernel_rfl) (fun _ _ _ _ _ => (gg_n 4 c.blk.nd)) (fun _ _ _ _ _ => (gc_if (gb_eq c.blk (ge_ix c.blk (ge_v 4) ge_int) ge_str))) (fun _ _ _ _ _ => (ge_v 4))) (ge_lst ga_nil)))
    gss_nil) gss_nil)
    (gss_cons (gs_if (gb_eq c (ge_ix c (ge_v 2) ge_int) ge_str) (gss_cons (gs_ret (ge_eq c (ge_len M.n_len c (ge_lc [("one", 4)] c (gi_seq c (ge_v 3)) (by kernel_rfl) (fun _ _ _ _ _ => (gg_n 4 c.blk.nd)) (fun _ _ _ _ _ => (gc_if (gb_eq c.blk (ge_ix c.blk (ge_v 4) ge_int) ge_str))) (fun _ _ _ _ _ => (ge_v 4)))) (ge_cint M.c_MOST_TOLD)))
    gss_nil) gss_nil)
    (gss_cons (gs_ret (ge_in c (ge_call c C_set_by (gr_v (ge_v 2) gr_nil) (by omega)) (ge_lc [("one", 4)] c (gi_seq c (ge_v 3)) (by kernel_rfl) (fun _ _ _ _ _ => (gg_n 4 c.blk.nd)) (fun _ _ _ _ _ => gc_no) (fun _ _ _ _ _ => (ge_call c.blk C_set_by (gr_v (ge_v 4) gr_nil) (by omega))))))
    gss_nil))))
theorem ok_act_clashes (F : L2.Fun K "act_clashes" "act_clashes" s_act_clashes f fd) (M : MG K mg) (C_set_by : CalG P w0 K mg base 1 "set_by" (spD (W0 K) 1 D_set_by)) : FnG P w0 K mg base (1 + 1) f fd P_act_clashes (spD (W0 K) 2 D_act_clashes) :=
  fnD_of F sc_act_clashes rfl (show ([] : List Nat).Nodup by decide) (show ∀ i ∈ ([] : List Nat), i < P_act_clashes.length by decide) fun cdv A outer s H E room gd => d_act_clashes M C_set_by room gd
theorem sc_wrong_rule : FnScope N_wrong_rule P_wrong_rule (defScope s_wrong_rule) := ⟨rfl, rfl, rfl, by decide +kernel, rfl, by decide +kernel, by decide +kernel⟩
theorem d_wrong_rule (M : MG K mg) (C_conditions_in : CalG P w0 K mg base 1 "conditions_in" (spD (W0 K) 2 D_conditions_in)) (C_is_unknown : CalG P w0 K mg base 1 "is_unknown" (spD (W0 K) 3 D_is_unknown)) (C_names_said : CalG P w0 K mg base 1 "names_said" (spD (W0 K) 2 D_names_said)) (C_act_clashes : CalG P w0 K mg base 2 "act_clashes" (spD (W0 K) 2 D_act_clashes)) (room : Room 2 (A.deeper (envOfC "wrong_rule" (defScope s_wrong_rule) s.heap.objs.size f cdv))) (gd : A.guards = some []) :
    GSs (W0 K) [] (bodyCx P w0 K mg base N_wrong_rule "wrong_rule" s_wrong_rule f cdv A outer s H E) (defBody s_wrong_rule) D_wrong_rule.body := by
  have c : Cok (W0 K) 2 (bodyCx P w0 K mg base N_wrong_rule "wrong_rule" s_wrong_rule f cdv A outer s H E) := ⟨rfl, rfl, sc_wrong_rule.nd, room, gd⟩
  simp only [D_wrong_rule]
  exact (gss_cons (gs_unp (ge_v 1) (gg_t c (ggs_cons (gg_n 3 c.nd) (ggs_cons (gg_n 4 c.nd) ggs_nil))))
    (gss_cons (gs_set 5 c.nd (ge_lst ga_nil))
    (gss_cons (gs_for c PassesOwn.never (gi_seq c (ge_call c C_conditions_in (gr_v (ge_v 3) (gr_v (ge_tup (ga_star c (ge_v 2) (ga_cons ge_int ga_nil))) gr_nil)) (by omega))) (gg_t c (ggs_cons (gg_n 6 c.nd) (ggs_cons (gg_n 7 c.nd) ggs_nil))) (gss_cons (gs_drop (ge_ext c 5 (ge_call c C_names_said (gr_v (ge_v 7) (gr_v (ge_v 6) gr_nil)) (by omega))))
    gss_nil))
    (gss_cons (gs_for c PassesOwn.never (gi_seq c (ge_v 5)) (gg_t c (ggs_cons (gg_n 8 c.nd) (ggs_cons (gg_n 9 c.nd) (ggs_cons (gg_n 6 c.nd) ggs_nil)))) (gss_cons (gs_if (gb_val (ge_call c C_is_unknown (gr_v (ge_v 0) (gr_v (ge_v 8) (gr_v (ge_v 9) gr_nil))) (by omega))) (gss_cons (gs_ret (ge_tup (ga_cons (ge_v 6) (ga_cons (ge_v 8) ga_nil))))
    gss_nil) gss_nil)
    gss_nil))
    (gss_cons (gs_for2 c PassesOwn.never (gi_enum c M.n_enumerate (ge_v 4)) (gg_2 c.calm (ggs_cons (gg_n 10 c.nd) (ggs_cons (gg_n 11 c.nd) ggs_nil))) (gss_cons (gs_for c PassesOwn.never (gi_seq c (ge_call c C_names_said (gr_v (ge_v 11) (gr_v (ge_tup (ga_star c (ge_v 2) (ga_cons ge_int (ga_cons (ge_v 10) ga_nil)))) gr_nil)) (by omega))) (gg_t c (ggs_cons (gg_n 8 c.nd) (ggs_cons (gg_n 9 c.nd) (ggs_cons (gg_n 6 c.nd) ggs_nil)))) (gss_cons (gs_if (gb_val (ge_call c C_is_unknown (gr_v (ge_v 0) (gr_v (ge_v 8) (gr_v (ge_v 9) gr_nil))) (by omega))) (gss_cons (gs_ret (ge_tup (ga_cons (ge_v 6) (ga_cons (ge_v 8) ga_nil))))
    gss_nil) gss_nil)
    gss_nil))
    (gss_cons (gs_if (gb_val (ge_call c C_act_clashes (gr_v (ge_v 4) (gr_v (ge_v 10) gr_nil)) (by omega))) (gss_cons (gs_ret (ge_tup (ga_cons (ge_tup (ga_star c (ge_v 2) (ga_cons ge_int (ga_cons (ge_v 10) ga_nil)))) (ga_cons ge_str ga_nil))))
    gss_nil) gss_nil)
    gss_nil)))
    (gss_cons (gs_ret ge_non)
    gss_nil))))))
theorem ok_wrong_rule (F : L2.Fun K "wrong_rule" "wrong_rule" s_wrong_rule f fd) (M : MG K mg) (C_conditions_in : CalG P w0 K mg base 1 "conditions_in" (spD (W0 K) 2 D_conditions_in)) (C_is_unknown : CalG P w0 K mg base 1 "is_unknown" (spD (W0 K) 3 D_is_unknown)) (C_names_said : CalG P w0 K mg base 1 "names_said" (spD (W0 K) 2 D_names_said)) (C_act_clashes : CalG P w0 K mg base 2 "act_clashes" (spD (W0 K) 2 D_act_clashes)) : FnG P w0 K mg base (2 + 1) f fd P_wrong_rule (spD (W0 K) 3 D_wrong_rule) :=
  fnD_of F sc_wrong_rule rfl (show ([] : List Nat).Nodup by decide) (show ∀ i ∈ ([] : List Nat), i < P_wrong_rule.length by decide) fun cdv A outer s H E room gd => d_wrong_rule M C_conditions_in C_is_unknown C_names_said C_act_clashes room gd
theorem sc_wrong_use : FnScope N_wrong_use P_wrong_use (defScope s_wrong_use) := ⟨rfl, rfl, rfl, by decide +kernel, rfl, by decide +kernel, by decide +kernel⟩
theorem d_wrong_use (M : MG K mg) (C_first_twice : CalG P w0 K mg base 1 "first_twice" (spD (W0 K) 1 D_first_twice)) (C_wrong_rule : CalG P w0 K mg base 3 "wrong_rule" (spD (W0 K) 3 D_wrong_rule)) (room : Room 3 (A.deeper (envOfC "wrong_use" (defScope s_wrong_use) s.heap.objs.size f cdv))) (gd : A.guards = some []) :
    GSs (W0 K) [] (bodyCx P w0 K mg base N_wrong_use "wrong_use" s_wrong_use f cdv A outer s H E) (defBody s_wrong_use) D_wrong_use.body := by
  have c : Cok (W0 K) 3 (bodyCx P w0 K mg base N_wrong_use "wrong_use" s_wrong_use f cdv A outer s H E) := ⟨rfl, rfl, sc_wrong_use.nd, room, gd⟩
  simp only [D_wrong_use]
  exact (gss_cons (gs_unp (ge_v 1) (gg_t c (ggs_cons (gg_n 2 c.nd) (ggs_cons (gg_n 3 c.nd) (ggs_cons (gg_n 4 c.nd) ggs_nil)))))
    (gss_cons (gs_if (gb_notN (ge_call c C_first_twice (gr_v (ge_v 3) gr_nil) (by omega))) (gss_cons (gs_ret (ge_tup (ga_cons (ge_tup (ga_cons ge_int (ga_cons (ge_call c C_first_twice (gr_v (ge_v 3) gr_nil) (by omega)) ga_nil))) (ga_cons ge_str ga_nil))))
    gss_nil) gss_nil)
    (gss_cons (gs_setLc 5 [("mode", 8), ("yes", 9), ("rules", 10)] c (gi_seq c (ge_v 4)) (by kernel_rfl) (fun _ _ _ _ _ => (gg_t c.blk (ggs_cons (gg_n 8 c.blk.nd) (ggs_cons (gg_n 9 c.blk.nd) (ggs_cons (gg_n 10 c.blk.nd) ggs_nil))))) (fun _ _ _ _ _ => gc_no) (fun _ _ _ _ _ => (ge_v 8)))
    (gss_cons (gs_if (gb_notN (ge_call c C_first_twice (gr_v (ge_v 5) gr_nil) (by omega))) (gss_cons (gs_ret (ge_tup (ga_cons (ge_tup (ga_cons ge_int (ga_cons (ge_call c C_first_twice (gr_v (ge_v 5) gr_nil) (by omega)) (ga_cons ge_int ga_nil)))) (ga_cons ge_str ga_nil))))
    gss_nil) gss_nil)
    (gss_cons (gs_set 6 c.nd (ge_disp (gd_cons ge_str (ge_v 3) (gd_cons ge_str (ge_v 0) (gd_cons ge_str (ge_v 5) gd_nil)))))
    (gss_cons (gs_for2 c PassesOwn.never (gi_enum c M.n_enumerate (ge_v 4)) (gg_2 c.calm (ggs_cons (gg_n 7 c.nd) (ggs_cons (gg_t c (ggs_cons (gg_n 8 c.nd) (ggs_cons (gg_n 9 c.nd) (ggs_cons (gg_n 10 c.nd) ggs_nil)))) ggs_nil))) (gss_cons (gs_for2 c PassesOwn.never (gi_enum c M.n_enumerate (ge_v 10)) (gg_2 c.calm (ggs_cons (gg_n 11 c.nd) (ggs_cons (gg_n 12 c.nd) ggs_nil))) (gss_cons (gs_set 13 c.nd (ge_call c C_wrong_rule (gr_v (ge_v 6) (gr_v (ge_v 12) (gr_v (ge_tup (ga_cons ge_int (ga_cons (ge_v 7) (ga_cons ge_int (ga_cons (ge_v 11) ga_nil))))) gr_nil))) (by omega)))
    (gss_cons (gs_if (gb_notN (ge_v 13)) (gss_cons (gs_ret (ge_v 13))
    gss_nil) gss_nil)
    gss_nil)))
    gss_nil))
    (gss_cons (gs_ret ge_non)
    gss_nil)))))))
theorem ok_wrong_use (F : L2.Fun K "wrong_use" "wrong_use" s_wrong_use f fd) (M : MG K mg) (C_first_twice : CalG P w0 K mg base 1 "first_twice" (spD (W0 K) 1 D_first_twice)) (C_wrong_rule : CalG P w0 K mg base 3 "wrong_rule" (spD (W0 K) 3 D_wrong_rule)) : FnG P w0 K mg base (3 + 1) f fd P_wrong_use (spD (W0 K) 2 D_wrong_use) :=
  fnD_of F sc_wrong_use rfl (show ([] : List Nat).Nodup by decide) (show ∀ i ∈ ([] : List Nat), i < P_wrong_use.length by decide) fun cdv A outer s H E room gd => d_wrong_use M C_first_twice C_wrong_rule room gd
theorem sc_programs_said : FnScope N_programs_said P_programs_said (defScope s_programs_said) := ⟨rfl, rfl, rfl, by decide +kernel, rfl, by decide +kernel, by decide +kernel⟩
theorem d_programs_said (M : MG K mg)  (room : Room 0 (A.deeper (envOfC "programs_said" (defScope s_programs_said) s.heap.objs.size f cdv))) (gd : A.guards = some []) :
    GSs (W0 K) [] (bodyCx P w0 K mg base N_programs_said "programs_said" s_programs_said f cdv A outer s H E) (defBody s_programs_said) D_programs_said.body := by
  have c : Cok (W0 K) 0 (bodyCx P w0 K mg base N_programs_said "programs_said" s_programs_said f cdv A outer s H E) := ⟨rfl, rfl, sc_programs_said.nd, room, gd⟩
  simp only [D_programs_said]
  exact (gss_cons (gs_if (gb_eq c (ge_ix c (ge_v 0) ge_int) ge_str) (gss_cons (gs_ret (ge_lc [("k", 1)] c (gi_rg2 M.n_range ge_int (ge_len M.n_len c (ge_ix c (ge_v 0) ge_int))) (by kernel_rfl) (fun _ _ _ _ _ => (gg_n 1 c.blk.nd)) (fun _ _ _ _ _ => gc_no) (fun _ _ _ _ _ => (ge_tup (ga_cons (ge_tup (ga_cons ge_int (ga_cons (ge_v 1) ga_nil))) (ga_cons (ge_ix c.blk (ge_ix c.blk (ge_v 0) ge_int) (ge_v 1)) ga_nil))))))
    gss_nil) gss_nil)
    (gss_cons (gs_if (gb_eq c (ge_ix c (ge_v 0) ge_int) ge_str) (gss_cons (gs_ret (ge_lc [("k", 1)] c (gi_seq c (ge_tup (ga_cons ge_int (ga_cons ge_int (ga_cons ge_int ga_nil))))) (by kernel_rfl) (fun _ _ _ _ _ => (gg_n 1 c.blk.nd)) (fun _ _ _ _ _ => gc_no) (fun _ _ _ _ _ => (ge_tup (ga_cons (ge_tup (ga_cons (ge_v 1) ga_nil)) (ga_cons (ge_ix c.blk (ge_v 0) (ge_v 1)) ga_nil))))))
    gss_nil) gss_nil)
    (gss_cons (gs_if (gb_eq c (ge_ix c (ge_v 0) ge_int) ge_str) (gss_cons (gs_ret (ge_lst (ga_cons (ge_tup (ga_cons (ge_tup (ga_cons ge_int ga_nil)) (ga_cons (ge_ix c (ge_v 0) ge_int) ga_nil))) ga_nil)))
    gss_nil) gss_nil)
    (gss_cons (gs_if (gb_in c (ge_ix c (ge_v 0) ge_int) (ge_tup (ga_cons ge_str (ga_cons ge_str ga_nil)))) (gss_cons (gs_ret (ge_lst (ga_cons (ge_tup (ga_cons (ge_tup (ga_cons ge_int ga_nil)) (ga_cons (ge_ix c (ge_v 0) ge_int) ga_nil))) (ga_cons (ge_tup (ga_cons (ge_tup (ga_cons ge_int ga_nil)) (ga_cons (ge_ix c (ge_v 0) ge_int) ga_nil))) ga_nil))))
    gss_nil) gss_nil)
    (gss_cons (gs_ret (ge_if (gb_in c (ge_ix c (ge_v 0) ge_int) (ge_ctup c M.t_ONE_PROGRAM)) (ge_lst (ga_cons (ge_tup (ga_cons (ge_tup (ga_cons ge_int ga_nil)) (ga_cons (ge_ix c (ge_v 0) ge_int) ga_nil))) ga_nil)) (ge_lst ga_nil)))
    gss_nil)))))
theorem ok_programs_said (F : L2.Fun K "programs_said" "programs_said" s_programs_said f fd) (M : MG K mg)  : FnG P w0 K mg base (0 + 1) f fd P_programs_said (spD (W0 K) 1 D_programs_said) :=
  fnD_of F sc_programs_said rfl (show ([] : List Nat).Nodup by decide) (show ∀ i ∈ ([] : List Nat), i < P_programs_said.length by decide) fun cdv A outer s H E room gd => d_programs_said M  room gd
theorem sc_item_fault : FnScope N_item_fault P_item_fault (defScope s_item_fault) := ⟨rfl, rfl, rfl, by decide +kernel, rfl, by decide +kernel, by decide +kernel⟩
theorem d_item_fault (M : MG K mg) (C_twice_told : CalG P w0 K mg base 2 "twice_told" (spD (W0 K) 2 D_twice_told)) (C_told_items : CalG P w0 K mg base 1 "told_items" (spD (W0 K) 2 D_told_items)) (C_wrong_use : CalG P w0 K mg base 4 "wrong_use" (spD (W0 K) 2 D_wrong_use)) (C_programs_said : CalG P w0 K mg base 1 "programs_said" (spD (W0 K) 1 D_programs_said)) (C_names_told : CalG P w0 K mg base 1 "names_told" (spD (W0 K) 3 D_names_told)) (room : Room 4 (A.deeper (envOfC "item_fault" (defScope s_item_fault) s.heap.objs.size f cdv))) (gd : A.guards = some []) :
    GSs (W0 K) [] (bodyCx P w0 K mg base N_item_fault "item_fault" s_item_fault f cdv A outer s H E) (defBody s_item_fault) D_item_fault.body := by
  have c : Cok (W0 K) 4 (bodyCx P w0 K mg base N_item_fault "item_fault" s_item_fault f cdv A outer s H E) := ⟨rfl, rfl, sc_item_fault.nd, room, gd⟩
  simp only [D_item_fault]
  exact (gss_cons (gs_parN c.nd c (gl_cons (ge_ix c (ge_ix c (ge_v 0) ge_int) (ge_v 1)) (gl_cons (ge_call c C_told_items (gr_v (ge_v 0) (gr_v (ge_v 1) gr_nil)) (by omega)) gl_nil)) (pgs_n 2 c.nd (pgs_n 3 c.nd pgs_n0)))
    (gss_cons (gs_if (gb_val (ge_call c C_twice_told (gr_v (ge_v 0) (gr_v (ge_v 1) gr_nil)) (by omega))) (gss_cons (gs_ret (ge_tup (ga_cons (ge_tup (ga_cons ge_int ga_nil)) (ga_cons ge_str ga_nil))))
    gss_nil) gss_nil)
    (gss_cons (gs_if (gb_eq c (ge_ix c (ge_v 2) ge_int) ge_str) (gss_cons (gs_ret (ge_call c C_wrong_use (gr_v (ge_ix c (ge_v 0) ge_int) (gr_v (ge_sl c (ge_v 2) (gp_some ge_int) gp_none) gr_nil)) (by omega)))
    gss_nil) gss_nil)
    (gss_cons (gs_if (gb_in c (ge_ix c (ge_v 2) ge_int) (ge_ctup c M.t_OF_STREAMS)) (gss_cons (gs_ret (ge_if (gb_notIn c (ge_ix c (ge_v 2) ge_int) (ge_call c C_names_told (gr_v (ge_v 0) (gr_v (ge_v 1) (gr_v ge_str gr_nil))) (by omega))) (ge_tup (ga_cons (ge_tup (ga_cons ge_int ga_nil)) (ga_cons ge_str ga_nil))) ge_non))
    gss_nil) gss_nil)
    (gss_cons (gs_if (gb_eq c (ge_ix c (ge_v 2) ge_int) ge_str) (gss_cons (gs_ret (ge_if (gb_notIn c (ge_ix c (ge_v 2) ge_int) (ge_call c C_names_told (gr_v (ge_v 0) (gr_v (ge_v 1) (gr_v ge_str gr_nil))) (by omega))) (ge_tup (ga_cons (ge_tup (ga_cons ge_int ga_nil)) (ga_cons ge_str ga_nil))) ge_non))
    gss_nil) gss_nil)
    (gss_cons (gs_setLc 4 [("place", 5), ("name", 6)] c (gi_seq c (ge_call c C_programs_said (gr_v (ge_v 2) gr_nil) (by omega))) (by kernel_rfl) (fun _ _ _ _ _ => (gg_t c.blk (ggs_cons (gg_n 5 c.blk.nd) (ggs_cons (gg_n 6 c.blk.nd) ggs_nil)))) (fun _ _ _ _ _ => (gc_if (gb_notIn c.blk (ge_v 6) (ge_v 3)))) (fun _ _ _ _ _ => (ge_v 5)))
    (gss_cons (gs_ret (ge_if (gb_ne c (ge_v 4) (ge_lst ga_nil)) (ge_tup (ga_cons (ge_ix c (ge_v 4) ge_int) (ga_cons ge_str ga_nil))) ge_non))
    gss_nil)))))))
theorem ok_item_fault (F : L2.Fun K "item_fault" "item_fault" s_item_fault f fd) (M : MG K mg) (C_twice_told : CalG P w0 K mg base 2 "twice_told" (spD (W0 K) 2 D_twice_told)) (C_told_items : CalG P w0 K mg base 1 "told_items" (spD (W0 K) 2 D_told_items)) (C_wrong_use : CalG P w0 K mg base 4 "wrong_use" (spD (W0 K) 2 D_wrong_use)) (C_programs_said : CalG P w0 K mg base 1 "programs_said" (spD (W0 K) 1 D_programs_said)) (C_names_told : CalG P w0 K mg base 1 "names_told" (spD (W0 K) 3 D_names_told)) : FnG P w0 K mg base (4 + 1) f fd P_item_fault (spD (W0 K) 2 D_item_fault) :=
  fnD_of F sc_item_fault rfl (show ([] : List Nat).Nodup by decide) (show ∀ i ∈ ([] : List Nat), i < P_item_fault.length by decide) fun cdv A outer s H E room gd => d_item_fault M C_twice_told C_told_items C_wrong_use C_programs_said C_names_told room gd
theorem sc_wrong_item : FnScope N_wrong_item P_wrong_item (defScope s_wrong_item) := ⟨rfl, rfl, rfl, by decide +kernel, rfl, by decide +kernel, by decide +kernel⟩
theorem d_wrong_item (M : MG K mg) (C_item_fault : CalG P w0 K mg base 5 "item_fault" (spD (W0 K) 2 D_item_fault)) (room : Room 5 (A.deeper (envOfC "wrong_item" (defScope s_wrong_item) s.heap.objs.size f cdv))) (gd : A.guards = some []) :
    GSs (W0 K) [] (bodyCx P w0 K mg base N_wrong_item "wrong_item" s_wrong_item f cdv A outer s H E) (defBody s_wrong_item) D_wrong_item.body := by
  have c : Cok (W0 K) 5 (bodyCx P w0 K mg base N_wrong_item "wrong_item" s_wrong_item f cdv A outer s H E) := ⟨rfl, rfl, sc_wrong_item.nd, room, gd⟩
  simp only [D_wrong_item]
  exact (gss_cons (gs_for c PassesOwn.never (gi_rg1 M.n_range (ge_len M.n_len c (ge_ix c (ge_v 0) ge_int))) (gg_n 1 c.nd) (gss_cons (gs_set 2 c.nd (ge_call c C_item_fault (gr_v (ge_v 0) (gr_v (ge_v 1) gr_nil)) (by omega)))
    (gss_cons (gs_if (gb_notN (ge_v 2)) (gss_cons (gs_ret (ge_tup (ga_cons (ge_v 1) (ga_star c (ge_v 2) ga_nil))))
    gss_nil) gss_nil)
    gss_nil)))
    (gss_cons (gs_ret ge_non)
    gss_nil))
theorem ok_wrong_item (F : L2.Fun K "wrong_item" "wrong_item" s_wrong_item f fd) (M : MG K mg) (C_item_fault : CalG P w0 K mg base 5 "item_fault" (spD (W0 K) 2 D_item_fault)) : FnG P w0 K mg base (5 + 1) f fd P_wrong_item (spD (W0 K) 1 D_wrong_item) :=
  fnD_of F sc_wrong_item rfl (show ([] : List Nat).Nodup by decide) (show ∀ i ∈ ([] : List Nat), i < P_wrong_item.length by decide) fun cdv A outer s H E room gd => d_wrong_item M C_item_fault room gd
theorem sc_u_law_right_form : FnScope N_u_law_right_form P_u_law_right_form (defScope s_u_law_right_form) := ⟨rfl, rfl, rfl, by decide +kernel, rfl, by decide +kernel, by decide +kernel⟩
theorem d_u_law_right_form (M : MG K mg)  (room : Room 0 (A.deeper (envOfC "_law_right_form" (defScope s_u_law_right_form) s.heap.objs.size f cdv))) (gd : A.guards = some []) :
    GSs (W0 K) [] (bodyCx P w0 K mg base N_u_law_right_form "_law_right_form" s_u_law_right_form f cdv A outer s H E) (defBody s_u_law_right_form) D_u_law_right_form.body := by
  have c : Cok (W0 K) 0 (bodyCx P w0 K mg base N_u_law_right_form "_law_right_form" s_u_law_right_form f cdv A outer s H E) := ⟨rfl, rfl, sc_u_law_right_form.nd, room, gd⟩
  simp only [D_u_law_right_form]
  exact (gss_cons (gs_if (gb_eq c (ge_ix c (ge_v 0) ge_int) ge_str) (gss_cons (gs_ret (ge_sl c (ge_add c (ge_v 0) (ge_tup (ga_cons (ge_tup (ga_cons ge_str ga_nil)) ga_nil))) gp_none (gp_some ge_int)))
    gss_nil) gss_nil)
    (gss_cons (gs_ret (ge_if (gb_in c (ge_ix c (ge_v 0) ge_int) (ge_tup (ga_cons ge_str (ga_cons ge_str ga_nil)))) (ge_sl c (ge_v 0) gp_none (gp_some ge_int)) (ge_v 0)))
    gss_nil))
theorem ok_u_law_right_form (F : L2.Fun K "_law_right_form" "_law_right_form" s_u_law_right_form f fd) (M : MG K mg)  : FnG P w0 K mg base (0 + 1) f fd P_u_law_right_form (spD (W0 K) 1 D_u_law_right_form) :=
  fnD_of F sc_u_law_right_form rfl (show ([] : List Nat).Nodup by decide) (show ∀ i ∈ ([] : List Nat), i < P_u_law_right_form.length by decide) fun cdv A outer s H E room gd => d_u_law_right_form M  room gd
theorem sc_u_law_mixed : FnScope N_u_law_mixed P_u_law_mixed (defScope s_u_law_mixed) := ⟨rfl, rfl, rfl, by decide +kernel, rfl, by decide +kernel, by decide +kernel⟩
theorem d_u_law_mixed (M : MG K mg) (C_u_law_pick : CalG P w0 K mg base 1 "_law_pick" (spD (W0 K) 2 D_u_law_pick)) (room : Room 1 (A.deeper (envOfC "_law_mixed" (defScope s_u_law_mixed) s.heap.objs.size f cdv))) (gd : A.guards = some []) :
    GSs (W0 K) [0] (bodyCx P w0 K mg base N_u_law_mixed "_law_mixed" s_u_law_mixed f cdv A outer s H E) (defBody s_u_law_mixed) D_u_law_mixed.body := by
  have c : Cok (W0 K) 1 (bodyCx P w0 K mg base N_u_law_mixed "_law_mixed" s_u_law_mixed f cdv A outer s H E) := ⟨rfl, rfl, sc_u_law_mixed.nd, room, gd⟩
  simp only [D_u_law_mixed]
  exact (gss_cons (gs_set 2 c.nd (ge_list M.n_list c (ge_v 1)))
    (gss_cons (gs_ret (ge_lc [("lap", 3)] c (gi_rg1 M.n_range (ge_len M.n_len c (ge_v 2))) (by kernel_rfl) (fun _ _ _ _ _ => (gg_n 3 c.blk.nd)) (fun _ _ _ _ _ => gc_no) (fun _ _ _ _ _ => (ge_popJ 2 (ge_call c.blk C_u_law_pick (gr_io 0 (gr_v (ge_len M.n_len c.blk (ge_v 2)) gr_nil)) (by omega))))))
    gss_nil))
theorem ok_u_law_mixed (F : L2.Fun K "_law_mixed" "_law_mixed" s_u_law_mixed f fd) (M : MG K mg) (C_u_law_pick : CalG P w0 K mg base 1 "_law_pick" (spD (W0 K) 2 D_u_law_pick)) : FnG P w0 K mg base (1 + 1) f fd P_u_law_mixed (spD (W0 K) 2 D_u_law_mixed) :=
  fnD_of F sc_u_law_mixed rfl (show ([0] : List Nat).Nodup by decide) (show ∀ i ∈ ([0] : List Nat), i < P_u_law_mixed.length by decide) fun cdv A outer s H E room gd => d_u_law_mixed M C_u_law_pick room gd
theorem sc_u_law_parts : FnScope N_u_law_parts P_u_law_parts (defScope s_u_law_parts) := ⟨rfl, rfl, rfl, by decide +kernel, rfl, by decide +kernel, by decide +kernel⟩
theorem d_u_law_parts (M : MG K mg)  (room : Room 0 (A.deeper (envOfC "_law_parts" (defScope s_u_law_parts) s.heap.objs.size f cdv))) (gd : A.guards = some []) :
    GSs (W0 K) [] (bodyCx P w0 K mg base N_u_law_parts "_law_parts" s_u_law_parts f cdv A outer s H E) (defBody s_u_law_parts) D_u_law_parts.body := by
  have c : Cok (W0 K) 0 (bodyCx P w0 K mg base N_u_law_parts "_law_parts" s_u_law_parts f cdv A outer s H E) := ⟨rfl, rfl, sc_u_law_parts.nd, room, gd⟩
  simp only [D_u_law_parts]
  exact (gss_cons (gs_ret (ge_if (gb_eq c (ge_ix c (ge_v 0) ge_int) ge_str) (ge_list M.n_list c (ge_sl c (ge_ix c (ge_v 0) ge_int) (gp_some ge_int) gp_none)) (ge_lst ga_nil)))
    gss_nil)
theorem ok_u_law_parts (F : L2.Fun K "_law_parts" "_law_parts" s_u_law_parts f fd) (M : MG K mg)  : FnG P w0 K mg base (0 + 1) f fd P_u_law_parts (spD (W0 K) 1 D_u_law_parts) :=
  fnD_of F sc_u_law_parts rfl (show ([] : List Nat).Nodup by decide) (show ∀ i ∈ ([] : List Nat), i < P_u_law_parts.length by decide) fun cdv A outer s H E room gd => d_u_law_parts M  room gd
theorem sc_u_law_pieces : FnScope N_u_law_pieces P_u_law_pieces (defScope s_u_law_pieces) := ⟨rfl, rfl, rfl, by decide +kernel, rfl, by decide +kernel, by decide +kernel⟩
theorem d_u_law_pieces (M : MG K mg) (C_u_law_parts : CalG P w0 K mg base 1 "_law_parts" (spD (W0 K) 1 D_u_law_parts)) (room : Room 1 (A.deeper (envOfC "_law_pieces" (defScope s_u_law_pieces) s.heap.objs.size f cdv))) (gd : A.guards = some []) :
    GSs (W0 K) [] (bodyCx P w0 K mg base N_u_law_pieces "_law_pieces" s_u_law_pieces f cdv A outer s H E) (defBody s_u_law_pieces) D_u_law_pieces.body := by
  have c : Cok (W0 K) 1 (bodyCx P w0 K mg base N_u_law_pieces "_law_pieces" s_u_law_pieces f cdv A outer s H E) := ⟨rfl, rfl, sc_u_law_pieces.nd, room, gd⟩
  simp only [D_u_law_pieces]
  exact (gss_cons (gs_parN c.nd c (gl_cons (ge_disp (gd_cons (ge_v 1) ge_bl gd_nil)) (gl_cons ge_disp0 gl_nil)) (pgs_n 2 c.nd (pgs_n 3 c.nd pgs_n0)))
    (gss_cons (gs_for c PassesOwn.never (gi_seq c (ge_rev (ge_list M.n_list c (ge_v 0)))) (gg_n 4 c.nd) (gss_cons (gs_if (gb_in c (ge_v 4) (ge_v 2)) (gss_cons (gs_drop (ge_upd 2 (ge_dictL M.n_dict c (ge_lc [("late", 6)] c (gi_seq c (ge_call c C_u_law_parts (gr_v (ge_ix c (ge_v 0) (ge_v 4)) gr_nil) (by omega))) (by kernel_rfl) (fun _ _ _ _ _ => (gg_n 6 c.blk.nd)) (fun _ _ _ _ _ => gc_no) (fun _ _ _ _ _ => (ge_tup (ga_cons (ge_v 6) (ga_cons ge_bl ga_nil))))))))
    gss_nil) gss_nil)
    gss_nil))
    (gss_cons (gs_forK 0 nocl c PassesOwn.never (gg_n 4 c.nd) (gss_cons (gs_set 5 c.nd (ge_call c C_u_law_parts (gr_v (ge_ix c (ge_v 0) (ge_v 4)) gr_nil) (by omega)))
    (gss_cons (gs_put c 3 (ge_if (gb_ne c (ge_v 5) (ge_lst ga_nil)) (ge_sum M.n_sum c (ge_lc [("late", 6)] c (gi_seq c (ge_v 5)) (by kernel_rfl) (fun _ _ _ _ _ => (gg_n 6 c.blk.nd)) (fun _ _ _ _ _ => gc_no) (fun _ _ _ _ _ => (ge_ix c.blk (ge_v 3) (ge_v 6))))) ge_int) (ge_v 4))
    gss_nil)))
    (gss_cons (gs_ret (ge_tup (ga_cons (ge_tuple M.n_tuple c (ge_lcK [("one", 4)] 0 nocl c (by kernel_rfl) (fun _ _ _ _ _ => (gg_n 4 c.blk.nd)) (fun _ _ _ _ _ => (gc_if (gb_in c.blk (ge_v 4) (ge_v 2)))) (fun _ _ _ _ _ => (ge_v 4)))) (ga_cons (ge_ix c (ge_v 3) (ge_v 1)) ga_nil))))
    gss_nil))))
theorem ok_u_law_pieces (F : L2.Fun K "_law_pieces" "_law_pieces" s_u_law_pieces f fd) (M : MG K mg) (C_u_law_parts : CalG P w0 K mg base 1 "_law_parts" (spD (W0 K) 1 D_u_law_parts)) : FnG P w0 K mg base (1 + 1) f fd P_u_law_pieces (spD (W0 K) 2 D_u_law_pieces) :=
  fnD_of F sc_u_law_pieces rfl (show ([] : List Nat).Nodup by decide) (show ∀ i ∈ ([] : List Nat), i < P_u_law_pieces.length by decide) fun cdv A outer s H E room gd => d_u_law_pieces M C_u_law_parts room gd
theorem sc_pieces_of : FnScope N_pieces_of P_pieces_of (defScope s_pieces_of) := ⟨rfl, rfl, rfl, by decide +kernel, rfl, by decide +kernel, by decide +kernel⟩
theorem d_pieces_of (M : MG K mg) (C_told_items : CalG P w0 K mg base 1 "told_items" (spD (W0 K) 2 D_told_items)) (C_programs_said : CalG P w0 K mg base 1 "programs_said" (spD (W0 K) 1 D_programs_said)) (room : Room 1 (A.deeper (envOfC "pieces_of" (defScope s_pieces_of) s.heap.objs.size f cdv))) (gd : A.guards = some []) :
    GSs (W0 K) [] (bodyCx P w0 K mg base N_pieces_of "pieces_of" s_pieces_of f cdv A outer s H E) (defBody s_pieces_of) D_pieces_of.body := by
  have c : Cok (W0 K) 1 (bodyCx P w0 K mg base N_pieces_of "pieces_of" s_pieces_of f cdv A outer s H E) := ⟨rfl, rfl, sc_pieces_of.nd, room, gd⟩
  simp only [D_pieces_of]
  exact (gss_cons (gs_parN c.nd c (gl_cons (ge_call c C_told_items (gr_v (ge_v 0) (gr_v (ge_len M.n_len c (ge_ix c (ge_v 0) ge_int)) gr_nil)) (by omega)) (gl_cons (ge_lst (ga_cons (ge_v 1) ga_nil)) (gl_cons ge_disp0 gl_nil))) (pgs_n 2 c.nd (pgs_n 3 c.nd (pgs_n 4 c.nd pgs_n0))))
    (gss_cons (gs_while PassesOwn.never (gb_ne c (ge_v 3) (ge_lst ga_nil)) (gss_cons (gs_set 5 c.nd (ge_pop 3))
    (gss_cons (gs_if (gb_notIn c (ge_v 5) (ge_v 4)) (gss_cons (gs_put c 4 ge_bl (ge_v 5))
    (gss_cons (gs_drop (ge_ext c 3 (ge_lc [("place", 7), ("one", 6)] c (gi_seq c (ge_call c C_programs_said (gr_v (ge_ix c (ge_v 2) (ge_v 5)) gr_nil) (by omega))) (by kernel_rfl) (fun _ _ _ _ _ => (gg_t c.blk (ggs_cons (gg_n 7 c.blk.nd) (ggs_cons (gg_n 6 c.blk.nd) ggs_nil)))) (fun _ _ _ _ _ => gc_no) (fun _ _ _ _ _ => (ge_v 6)))))
    gss_nil)) gss_nil)
    gss_nil)))
    (gss_cons (gs_ret (ge_tuple M.n_tuple c (ge_lcK [("one", 6)] 2 nocl c (by kernel_rfl) (fun _ _ _ _ _ => (gg_n 6 c.blk.nd)) (fun _ _ _ _ _ => (gc_if (gb_in c.blk (ge_v 6) (ge_v 4)))) (fun _ _ _ _ _ => (ge_v 6)))))
    gss_nil)))
theorem ok_pieces_of (F : L2.Fun K "pieces_of" "pieces_of" s_pieces_of f fd) (M : MG K mg) (C_told_items : CalG P w0 K mg base 1 "told_items" (spD (W0 K) 2 D_told_items)) (C_programs_said : CalG P w0 K mg base 1 "programs_said" (spD (W0 K) 1 D_programs_said)) : FnG P w0 K mg base (1 + 1) f fd P_pieces_of (spD (W0 K) 2 D_pieces_of) :=
  fnD_of F sc_pieces_of rfl (show ([] : List Nat).Nodup by decide) (show ∀ i ∈ ([] : List Nat), i < P_pieces_of.length by decide) fun cdv A outer s H E room gd => d_pieces_of M C_told_items C_programs_said room gd
theorem sc_programs_read : FnScope N_programs_read P_programs_read (defScope s_programs_read) := ⟨rfl, rfl, rfl, by decide +kernel, rfl, by decide +kernel, by decide +kernel⟩
theorem d_programs_read (M : MG K mg) (C_pieces_of : CalG P w0 K mg base 2 "pieces_of" (spD (W0 K) 2 D_pieces_of)) (C_told_items : CalG P w0 K mg base 1 "told_items" (spD (W0 K) 2 D_told_items)) (C_programs_said : CalG P w0 K mg base 1 "programs_said" (spD (W0 K) 1 D_programs_said)) (room : Room 2 (A.deeper (envOfC "programs_read" (defScope s_programs_read) s.heap.objs.size f cdv))) (gd : A.guards = some []) :
    GSs (W0 K) [] (bodyCx P w0 K mg base N_programs_read "programs_read" s_programs_read f cdv A outer s H E) (defBody s_programs_read) D_programs_read.body := by
  have c : Cok (W0 K) 2 (bodyCx P w0 K mg base N_programs_read "programs_read" s_programs_read f cdv A outer s H E) := ⟨rfl, rfl, sc_programs_read.nd, room, gd⟩
  simp only [D_programs_read]
  exact (gss_cons (gs_parN c.nd c (gl_cons (ge_call c C_told_items (gr_v (ge_v 0) (gr_v (ge_len M.n_len c (ge_ix c (ge_v 0) ge_int)) gr_nil)) (by omega)) (gl_cons ge_disp0 gl_nil)) (pgs_n 2 c.nd (pgs_n 3 c.nd pgs_n0)))
    (gss_cons (gs_for c PassesOwn.never (gi_seq c (ge_call c C_pieces_of (gr_v (ge_v 0) (gr_v (ge_v 1) gr_nil)) (by omega))) (gg_n 4 c.nd) (gss_cons (gs_setLc 5 [("place", 6), ("late", 7)] c (gi_seq c (ge_call c C_programs_said (gr_v (ge_ix c (ge_v 2) (ge_v 4)) gr_nil) (by omega))) (by kernel_rfl) (fun _ _ _ _ _ => (gg_t c.blk (ggs_cons (gg_n 6 c.blk.nd) (ggs_cons (gg_n 7 c.blk.nd) ggs_nil)))) (fun _ _ _ _ _ => gc_no) (fun _ _ _ _ _ => (ge_v 7)))
    (gss_cons (gs_put c 3 (ge_if (gb_ne c (ge_v 5) (ge_lst ga_nil)) (ge_sum M.n_sum c (ge_lc [("late", 7)] c (gi_seq c (ge_v 5)) (by kernel_rfl) (fun _ _ _ _ _ => (gg_n 7 c.blk.nd)) (fun _ _ _ _ _ => gc_no) (fun _ _ _ _ _ => (ge_ix c.blk (ge_v 3) (ge_v 7))))) ge_int) (ge_v 4))
    gss_nil)))
    (gss_cons (gs_ret (ge_ix c (ge_v 3) (ge_v 1)))
    gss_nil)))
theorem ok_programs_read (F : L2.Fun K "programs_read" "programs_read" s_programs_read f fd) (M : MG K mg) (C_pieces_of : CalG P w0 K mg base 2 "pieces_of" (spD (W0 K) 2 D_pieces_of)) (C_told_items : CalG P w0 K mg base 1 "told_items" (spD (W0 K) 2 D_told_items)) (C_programs_said : CalG P w0 K mg base 1 "programs_said" (spD (W0 K) 1 D_programs_said)) : FnG P w0 K mg base (2 + 1) f fd P_programs_read (spD (W0 K) 2 D_programs_read) :=
  fnD_of F sc_programs_read rfl (show ([] : List Nat).Nodup by decide) (show ∀ i ∈ ([] : List Nat), i < P_programs_read.length by decide) fun cdv A outer s H E room gd => d_programs_read M C_pieces_of C_told_items C_programs_said room gd
theorem sc_u_law_program : FnScope N_u_law_program P_u_law_program (defScope s_u_law_program) := ⟨rfl, rfl, rfl, by decide +kernel, rfl, by decide +kernel, by decide +kernel⟩
theorem d_u_law_program (M : MG K mg) (C_u_law_of : CalG P w0 K mg base 2 "_law_of" (spD (W0 K) 2 D_u_law_of)) (C_u_law_pick : CalG P w0 K mg base 1 "_law_pick" (spD (W0 K) 2 D_u_law_pick)) (room : Room 2 (A.deeper (envOfC "_law_program" (defScope s_u_law_program) s.heap.objs.size f cdv))) (gd : A.guards = some []) :
    GSs (W0 K) [0] (bodyCx P w0 K mg base N_u_law_program "_law_program" s_u_law_program f cdv A outer s H E) (defBody s_u_law_program) D_u_law_program.body := by
  have c : Cok (W0 K) 2 (bodyCx P w0 K mg base N_u_law_program "_law_program" s_u_law_program f cdv A outer s H E) := ⟨rfl, rfl, sc_u_law_program.nd, room, gd⟩
  simp only [D_u_law_program]
  exact (gss_cons (gs_set 2 c.nd (ge_call c C_u_law_of (gr_io 0 (gr_v (ge_lst (ga_cons (ge_tup (ga_cons (ge_tup (ga_cons ge_str (ga_cons (ge_tup (ga_cons ge_str ga_nil)) (ga_cons ge_str ga_nil)))) ga_nil)) (ga_cons (ge_tup (ga_cons (ge_tup (ga_cons ge_str (ga_cons (ge_tup (ga_cons ge_str (ga_cons ge_str ga_nil))) ga_nil))) (ga_cons (ge_tup (ga_cons ge_str (ga_cons ge_str ga_nil))) ga_nil))) (ga_cons (ge_tup (ga_cons (ge_tup (ga_cons ge_str (ga_cons ge_str ga_nil))) ga_nil)) (ga_cons (ge_tup ga_nil) ga_nil))))) gr_nil)) (by omega)))
    (gss_cons (gs_ret (ge_tup (ga_cons ge_str (ga_cons (ge_v 1) (ga_cons (ge_tup (ga_cons ge_str ga_nil)) (ga_cons (ge_tup (ga_cons (ge_tup (ga_cons ge_str (ga_cons (ge_eq c (ge_call c C_u_law_pick (gr_io 0 (gr_v ge_int gr_nil)) (by omega)) ge_int) (ga_cons (ge_tup (ga_cons (ge_tup (ga_cons (ge_tup (ga_cons ge_str ga_nil)) (ga_cons (ge_v 2) ga_nil))) ga_nil)) ga_nil)))) ga_nil)) ga_nil))))))
    gss_nil))
theorem ok_u_law_program (F : L2.Fun K "_law_program" "_law_program" s_u_law_program f fd) (M : MG K mg) (C_u_law_of : CalG P w0 K mg base 2 "_law_of" (spD (W0 K) 2 D_u_law_of)) (C_u_law_pick : CalG P w0 K mg base 1 "_law_pick" (spD (W0 K) 2 D_u_law_pick)) : FnG P w0 K mg base (2 + 1) f fd P_u_law_program (spD (W0 K) 2 D_u_law_program) :=
  fnD_of F sc_u_law_program rfl (show ([0] : List Nat).Nodup by decide) (show ∀ i ∈ ([0] : List Nat), i < P_u_law_program.length by decide) fun cdv A outer s H E room gd => d_u_law_program M C_u_law_of C_u_law_pick room gd
theorem sc_u_law_item : FnScope N_u_law_item P_u_law_item (defScope s_u_law_item) := ⟨rfl, rfl, rfl, by decide +kernel, rfl, by decide +kernel, by decide +kernel⟩
theorem d_u_law_item (M : MG K mg) (C_u_law_pick : CalG P w0 K mg base 1 "_law_pick" (spD (W0 K) 2 D_u_law_pick)) (C_u_law_of : CalG P w0 K mg base 2 "_law_of" (spD (W0 K) 2 D_u_law_of)) (C_u_law_program : CalG P w0 K mg base 3 "_law_program" (spD (W0 K) 2 D_u_law_program)) (room : Room 3 (A.deeper (envOfC "_law_item" (defScope s_u_law_item) s.heap.objs.size f cdv))) (gd : A.guards = some []) :
    GSs (W0 K) [0] (bodyCx P w0 K mg base N_u_law_item "_law_item" s_u_law_item f cdv A outer s H E) (defBody s_u_law_item) D_u_law_item.body := by
  have c : Cok (W0 K) 3 (bodyCx P w0 K mg base N_u_law_item "_law_item" s_u_law_item f cdv A outer s H E) := ⟨rfl, rfl, sc_u_law_item.nd, room, gd⟩
  simp only [D_u_law_item]
  exact (gss_cons (gs_unp (ge_lc [("k", 8)] c (gi_rg1 M.n_range ge_int) (by kernel_rfl) (fun _ _ _ _ _ => (gg_n 8 c.blk.nd)) (fun _ _ _ _ _ => gc_no) (fun _ _ _ _ _ => (ge_call c.blk C_u_law_of (gr_io 0 (gr_v (ge_v 1) gr_nil)) (by omega)))) (gg_tl c (ggs_cons (gg_n 2 c.nd) (ggs_cons (gg_n 3 c.nd) (ggs_cons (gg_n 4 c.nd) ggs_nil)))))
    (gss_cons (gs_set 5 c.nd (ge_call c C_u_law_pick (gr_io 0 (gr_v ge_int gr_nil)) (by omega)))
    (gss_cons (gs_if (gb_lt (ge_v 5) ge_int) (gss_cons (gs_ret (ge_call c C_u_law_program (gr_io 0 (gr_v (ge_v 2) gr_nil)) (by omega)))
    gss_nil) gss_nil)
    (gss_cons (gs_if (gb_lt (ge_v 5) ge_int) (gss_cons (gs_set 7 c.nd (ge_call c C_u_law_of (gr_io 0 (gr_v (ge_lst (ga_cons ge_str (ga_cons ge_str (ga_cons ge_str (ga_cons ge_str ga_nil))))) gr_nil)) (by omega)))
    (gss_cons (gs_ret (ge_tup (ga_cons ge_str (ga_cons (ge_v 2) (ga_cons (ge_if (gb_eq c (ge_v 7) ge_str) (ge_tup (ga_cons (ge_v 7) (ga_cons (ge_v 3) ga_nil))) (ge_tup (ga_cons (ge_v 7) (ga_cons (ge_v 3) (ga_cons (ge_v 4) ga_nil))))) ga_nil)))))
    gss_nil)) gss_nil)
    (gss_cons (gs_if (gb_eq c (ge_v 5) ge_int) (gss_cons (gs_ret (ge_tup (ga_cons ge_str (ga_cons (ge_call c C_u_law_of (gr_io 0 (gr_v (ge_lst (ga_cons ge_str (ga_cons ge_str (ga_cons ge_str ga_nil)))) gr_nil)) (by omega)) (ga_cons (ge_v 2) (ga_cons (ge_v 3) (ga_cons (ge_v 4) ga_nil)))))))
    gss_nil) gss_nil)
    (gss_cons (gs_if (gb_eq c (ge_v 5) ge_int) (gss_cons (gs_ret (ge_call c C_u_law_of (gr_io 0 (gr_v (ge_lst (ga_cons (ge_tup (ga_cons ge_str (ga_cons (ge_call c C_u_law_of (gr_io 0 (gr_v (ge_lst (ga_cons ge_str (ga_cons ge_str ga_nil))) gr_nil)) (by omega)) (ga_cons (ge_v 2) ga_nil)))) (ga_cons (ge_tup (ga_cons ge_str (ga_cons (ge_call c C_u_law_of (gr_io 0 (gr_v (ge_lst (ga_cons ge_str (ga_cons ge_str ga_nil))) gr_nil)) (by omega)) ga_nil))) ga_nil))) gr_nil)) (by omega)))
    gss_nil) gss_nil)
    (gss_cons (gs_if (gb_eq c (ge_v 5) ge_int) (gss_cons (gs_ret (ge_tup (ga_cons (ge_call c C_u_law_of (gr_io 0 (gr_v (ge_lst (ga_cons ge_str (ga_cons ge_str (ga_cons ge_str ga_nil)))) gr_nil)) (by omega)) (ga_cons (ge_call c C_u_law_of (gr_io 0 (gr_v (ge_lst (ga_cons ge_str (ga_cons ge_str ga_nil))) gr_nil)) (by omega)) ga_nil))))
    gss_nil) gss_nil)
    (gss_cons (gs_set 6 c.nd (ge_lst (ga_cons (ge_tup (ga_cons ge_str (ga_cons (ge_v 2) (ga_cons (ge_tup (ga_cons ge_str ga_nil)) ga_nil)))) (ga_cons (ge_tup (ga_cons ge_str (ga_cons (ge_v 2) (ga_cons (ge_tup ga_nil) ga_nil)))) (ga_cons (ge_tup (ga_cons ge_str (ga_cons (ge_v 2) (ga_cons (ge_tup (ga_cons ge_str (ga_cons ge_str ga_nil))) ga_nil)))) (ga_cons (ge_tup (ga_cons ge_str (ga_cons (ge_v 2) ga_nil))) (ga_cons (ge_tup (ga_cons ge_str (ga_cons (ge_v 2) ga_nil))) (ga_cons (ge_tup (ga_cons ge_str (ga_cons (ge_v 2) (ga_cons (ge_v 3) ga_nil)))) ga_nil))))))))
    (gss_cons (gs_ret (ge_call c C_u_law_of (gr_io 0 (gr_v (ge_add c (ge_v 6) (ge_lst (ga_cons (ge_tup (ga_cons ge_str (ga_cons (ge_v 2) (ga_cons (ge_v 3) ga_nil)))) (ga_cons (ge_tup (ga_cons ge_str (ga_cons (ge_v 2) (ga_cons ge_int ga_nil)))) (ga_cons (ge_tup (ga_cons ge_str (ga_cons (ge_v 2) ga_nil))) (ga_cons (ge_tup (ga_cons ge_str (ga_cons (ge_v 2) ga_nil))) (ga_cons (ge_tup (ga_cons ge_str (ga_cons (ge_v 2) ga_nil))) ga_nil))))))) gr_nil)) (by omega)))
    gss_nil)))))))))
theorem ok_u_law_item (F : L2.Fun K "_law_item" "_law_item" s_u_law_item f fd) (M : MG K mg) (C_u_law_pick : CalG P w0 K mg base 1 "_law_pick" (spD (W0 K) 2 D_u_law_pick)) (C_u_law_of : CalG P w0 K mg base 2 "_law_of" (spD (W0 K) 2 D_u_law_of)) (C_u_law_program : CalG P w0 K mg base 3 "_law_program" (spD (W0 K) 2 D_u_law_program)) : FnG P w0 K mg base (3 + 1) f fd P_u_law_item (spD (W0 K) 2 D_u_law_item) :=
  fnD_of F sc_u_law_item rfl (show ([0] : List Nat).Nodup by decide) (show ∀ i ∈ ([0] : List Nat), i < P_u_law_item.length by decide) fun cdv A outer s H E room gd => d_u_law_item M C_u_law_pick C_u_law_of C_u_law_program room gd
theorem sc_u_law_fault : FnScope N_u_law_fault P_u_law_fault (defScope s_u_law_fault) := ⟨rfl, rfl, rfl, by decide +kernel, rfl, by decide +kernel, by decide +kernel⟩
theorem d_u_law_fault (M : MG K mg)  (room : Room 0 (A.deeper (envOfC "_law_fault" (defScope s_u_law_fault) s.heap.objs.size f cdv))) (gd : A.guards = some []) :
    GSs (W0 K) [] (bodyCx P w0 K mg base N_u_law_fault "_law_fault" s_u_law_fault f cdv A outer s H E) (defBody s_u_law_fault) D_u_law_fault.body := by
  have c : Cok (W0 K) 0 (bodyCx P w0 K mg base N_u_law_fault "_law_fault" s_u_law_fault f cdv A outer s H E) := ⟨rfl, rfl, sc_u_law_fault.nd, room, gd⟩
  simp only [D_u_law_fault]
  exact (gss_cons (gs_set 2 c.nd (ge_ix c (ge_v 1) ge_str))
    (gss_cons (gs_if (gb_and (gb_in c (ge_ix c (ge_v 0) ge_int) (ge_tup (ga_cons ge_str (ga_cons ge_str ga_nil)))) (gb_and1 (gb_in c (ge_ix c (ge_v 0) ge_int) (ge_v 2)))).pt (gss_cons (gs_ret (ge_tup (ga_cons (ge_tup (ga_cons ge_int ga_nil)) (ga_cons ge_str ga_nil))))
    gss_nil) gss_nil)
    (gss_cons (gs_if (gb_and (gb_in c (ge_ix c (ge_v 0) ge_int) (ge_tup (ga_cons ge_str (ga_cons ge_str ga_nil)))) (gb_and1 (gb_in c (ge_ix c (ge_v 0) ge_int) (ge_ix c (ge_v 1) (ge_ix c (ge_v 0) ge_int))))).pt (gss_cons (gs_ret (ge_tup (ga_cons (ge_tup (ga_cons ge_int ga_nil)) (ga_cons ge_str ga_nil))))
    gss_nil) gss_nil)
    (gss_cons (gs_set 3 c.nd (ge_lst ga_nil))
    (gss_cons (gs_if (gb_eq c (ge_ix c (ge_v 0) ge_int) ge_str) (gss_cons (gs_setLc 3 [("k", 7)] c (gi_rg2 M.n_range ge_int (ge_len M.n_len c (ge_ix c (ge_v 0) ge_int))) (by kernel_rfl) (fun _ _ _ _ _ => (gg_n 7 c.blk.nd)) (fun _ _ _ _ _ => gc_no) (fun _ _ _ _ _ => (ge_tup (ga_cons (ge_tup (ga_cons ge_int (ga_cons (ge_v 7) ga_nil))) (ga_cons (ge_ix c.blk (ge_ix c.blk (ge_v 0) ge_int) (ge_v 7)) ga_nil)))))
    gss_nil) (gss_cons (gs_if (gb_eq c (ge_ix c (ge_v 0) ge_int) ge_str) (gss_cons (gs_setLc 3 [("k", 7)] c (gi_seq c (ge_tup (ga_cons ge_int (ga_cons ge_int (ga_cons ge_int ga_nil))))) (by kernel_rfl) (fun _ _ _ _ _ => (gg_n 7 c.blk.nd)) (fun _ _ _ _ _ => gc_no) (fun _ _ _ _ _ => (ge_tup (ga_cons (ge_tup (ga_cons (ge_v 7) ga_nil)) (ga_cons (ge_ix c.blk (ge_v 0) (ge_v 7)) ga_nil)))))
    gss_nil) (gss_cons (gs_if (gb_eq c (ge_ix c (ge_v 0) ge_int) ge_str) (gss_cons (gs_set 3 c.nd (ge_lst (ga_cons (ge_tup (ga_cons (ge_tup (ga_cons ge_int ga_nil)) (ga_cons (ge_ix c (ge_v 0) ge_int) ga_nil))) ga_nil)))
    gss_nil) (gss_cons (gs_if (gb_in c (ge_ix c (ge_v 0) ge_int) (ge_tup (ga_cons ge_str (ga_cons ge_str ga_nil)))) (gss_cons (gs_set 3 c.nd (ge_lst (ga_cons (ge_tup (ga_cons (ge_tup (ga_cons ge_int ga_nil)) (ga_cons (ge_ix c (ge_v 0) ge_int) ga_nil))) (ga_cons (ge_tup (ga_cons (ge_tup (ga_cons ge_int ga_nil)) (ga_cons (ge_ix c (ge_v 0) ge_int) ga_nil))) ga_nil))))
    gss_nil) (gss_cons (gs_if (gb_in c (ge_ix c (ge_v 0) ge_int) (ge_tup (ga_cons ge_str (ga_cons ge_str (ga_cons ge_str ga_nil))))) (gss_cons (gs_ret (ge_if (gb_in c (ge_ix c (ge_v 0) ge_int) (ge_ix c (ge_v 1) ge_str)) ge_non (ge_tup (ga_cons (ge_tup (ga_cons ge_int ga_nil)) (ga_cons ge_str ga_nil)))))
    gss_nil) (gss_cons (gs_if (gb_eq c (ge_ix c (ge_v 0) ge_int) ge_str) (gss_cons (gs_ret (ge_if (gb_in c (ge_ix c (ge_v 0) ge_int) (ge_ix c (ge_v 1) ge_str)) ge_non (ge_tup (ga_cons (ge_tup (ga_cons ge_int ga_nil)) (ga_cons ge_str ga_nil)))))
    gss_nil) (gss_cons (gs_if (gb_ne c (ge_ix c (ge_v 0) ge_int) ge_str) (gss_cons (gs_set 3 c.nd (ge_lst (ga_cons (ge_tup (ga_cons (ge_tup (ga_cons ge_int ga_nil)) (ga_cons (ge_ix c (ge_v 0) ge_int) ga_nil))) ga_nil)))
    gss_nil) gss_nil)
    gss_nil))
    gss_nil))
    gss_nil))
    gss_nil))
    gss_nil))
    gss_nil))
    (gss_cons (gs_setLc 4 [("place", 5), ("name", 6)] c (gi_seq c (ge_v 3)) (by kernel_rfl) (fun _ _ _ _ _ => (gg_t c.blk (ggs_cons (gg_n 5 c.blk.nd) (ggs_cons (gg_n 6 c.blk.nd) ggs_nil)))) (fun _ _ _ _ _ => (gc_if (gb_notIn c.blk (ge_v 6) (ge_v 2)))) (fun _ _ _ _ _ => (ge_v 5)))
    (gss_cons (gs_ret (ge_if (gb_ne c (ge_v 4) (ge_lst ga_nil)) (ge_tup (ga_cons (ge_ix c (ge_v 4) ge_int) (ga_cons ge_str ga_nil))) ge_non))
    gss_nil)))))))
theorem ok_u_law_fault (F : L2.Fun K "_law_fault" "_law_fault" s_u_law_fault f fd) (M : MG K mg)  : FnG P w0 K mg base (0 + 1) f fd P_u_law_fault (spD (W0 K) 2 D_u_law_fault) :=
  fnD_of F sc_u_law_fault rfl (show ([] : List Nat).Nodup by decide) (show ∀ i ∈ ([] : List Nat), i < P_u_law_fault.length by decide) fun cdv A outer s H E room gd => d_u_law_fault M  room gd
theorem sc_u_law_put : FnScope N_u_law_put P_u_law_put (defScope s_u_law_put) := ⟨rfl, rfl, rfl, by decide +kernel, rfl, by decide +kernel, by decide +kernel⟩
theorem d_u_law_put (M : MG K mg)  (room : Room 0 (A.deeper (envOfC "_law_put" (defScope s_u_law_put) s.heap.objs.size f cdv))) (gd : A.guards = some []) :
    GSs (W0 K) [0] (bodyCx P w0 K mg base N_u_law_put "_law_put" s_u_law_put f cdv A outer s H E) (defBody s_u_law_put) D_u_law_put.body := by
  have c : Cok (W0 K) 0 (bodyCx P w0 K mg base N_u_law_put "_law_put" s_u_law_put f cdv A outer s H E) := ⟨rfl, rfl, sc_u_law_put.nd, room, gd⟩
  simp only [D_u_law_put]
  exact (gss_cons (gs_if (gb_in c (ge_ix c (ge_v 1) ge_int) (ge_tup (ga_cons ge_str (ga_cons ge_str ga_nil)))) (gss_cons (gs_tabPut c 0 (ge_v 1) gq_str (gq_ix c 1 1))
    gss_nil) (gss_cons (gs_if (gb_in c (ge_ix c (ge_v 1) ge_int) (ge_tup (ga_cons ge_str (ga_cons ge_str ga_nil)))) (gss_cons (gs_tabPut c 0 (ge_v 1) (gq_ix c 1 0) (gq_ix c 1 1))
    gss_nil) gss_nil)
    gss_nil))
    gss_nil)
theorem ok_u_law_put (F : L2.Fun K "_law_put" "_law_put" s_u_law_put f fd) (M : MG K mg)  : FnG P w0 K mg base (0 + 1) f fd P_u_law_put (spD (W0 K) 2 D_u_law_put) :=
  fnD_of F sc_u_law_put rfl (show ([0] : List Nat).Nodup by decide) (show ∀ i ∈ ([0] : List Nat), i < P_u_law_put.length by decide) fun cdv A outer s H E room gd => d_u_law_put M  room gd
theorem sc_u_law_first_wrong : FnScope N_u_law_first_wrong P_u_law_first_wrong (defScope s_u_law_first_wrong) := ⟨rfl, rfl, rfl, by decide +kernel, rfl, by decide +kernel, by decide +kernel⟩
theorem d_u_law_first_wrong (M : MG K mg) (C_u_law_fault : CalG P w0 K mg base 1 "_law_fault" (spD (W0 K) 2 D_u_law_fault)) (C_u_law_put : CalG P w0 K mg base 1 "_law_put" (spD (W0 K) 2 D_u_law_put)) (room : Room 1 (A.deeper (envOfC "_law_first_wrong" (defScope s_u_law_first_wrong) s.heap.objs.size f cdv))) (gd : A.guards = some []) :
    GSs (W0 K) [] (bodyCx P w0 K mg base N_u_law_first_wrong "_law_first_wrong" s_u_law_first_wrong f cdv A outer s H E) (defBody s_u_law_first_wrong) D_u_law_first_wrong.body := by
  have c : Cok (W0 K) 1 (bodyCx P w0 K mg base N_u_law_first_wrong "_law_first_wrong" s_u_law_first_wrong f cdv A outer s H E) := ⟨rfl, rfl, sc_u_law_first_wrong.nd, room, gd⟩
  simp only [D_u_law_first_wrong]
  exact (gss_cons (gs_set 1 c.nd (ge_tab ge_disp0 ge_disp0 ge_disp0))
    (gss_cons (gs_for2 c PassesOwn.never (gi_enum c M.n_enumerate (ge_v 0)) (gg_2 c.calm (ggs_cons (gg_n 2 c.nd) (ggs_cons (gg_n 3 c.nd) ggs_nil))) (gss_cons (gs_set 4 c.nd (ge_callR c C_u_law_fault (gr_v (ge_v 3) (gr_io 1 gr_nil)) (by omega)))
    (gss_cons (gs_if (gb_notN (ge_v 4)) (gss_cons (gs_ret (ge_add c (ge_tup (ga_cons (ge_v 2) ga_nil)) (ge_v 4)))
    gss_nil) gss_nil)
    (gss_cons (gs_drop (ge_call c C_u_law_put (gr_io 1 (gr_v (ge_v 3) gr_nil)) (by omega)))
    gss_nil))))
    (gss_cons (gs_ret ge_non)
    gss_nil)))
theorem ok_u_law_first_wrong (F : L2.Fun K "_law_first_wrong" "_law_first_wrong" s_u_law_first_wrong f fd) (M : MG K mg) (C_u_law_fault : CalG P w0 K mg base 1 "_law_fault" (spD (W0 K) 2 D_u_law_fault)) (C_u_law_put : CalG P w0 K mg base 1 "_law_put" (spD (W0 K) 2 D_u_law_put)) : FnG P w0 K mg base (1 + 1) f fd P_u_law_first_wrong (spD (W0 K) 1 D_u_law_first_wrong) :=
  fnD_of F sc_u_law_first_wrong rfl (show ([] : List Nat).Nodup by decide) (show ∀ i ∈ ([] : List Nat), i < P_u_law_first_wrong.length by decide) fun cdv A outer s H E room gd => d_u_law_first_wrong M C_u_law_fault C_u_law_put room gd
theorem sc_law : FnScope N_law P_law (defScope s_law) := ⟨rfl, rfl, rfl, by decide +kernel, rfl, by decide +kernel, by decide +kernel⟩
theorem d_law (M : MG K mg) (C_u_law_source : CalG P w0 K mg base 1 "_law_source" (spD (W0 K) 1 D_u_law_source)) (C_u_law_of : CalG P w0 K mg base 2 "_law_of" (spD (W0 K) 2 D_u_law_of)) (C_told_items : CalG P w0 K mg base 1 "told_items" (spD (W0 K) 2 D_told_items)) (C_wrong_item : CalG P w0 K mg base 6 "wrong_item" (spD (W0 K) 1 D_wrong_item)) (C_u_law_right_form : CalG P w0 K mg base 1 "_law_right_form" (spD (W0 K) 1 D_u_law_right_form)) (C_u_law_pick : CalG P w0 K mg base 1 "_law_pick" (spD (W0 K) 2 D_u_law_pick)) (C_u_law_mixed : CalG P w0 K mg base 2 "_law_mixed" (spD (W0 K) 2 D_u_law_mixed)) (C_u_law_pieces : CalG P w0 K mg base 2 "_law_pieces" (spD (W0 K) 2 D_u_law_pieces)) (C_programs_read : CalG P w0 K mg base 3 "programs_read" (spD (W0 K) 2 D_programs_read)) (C_pieces_of : CalG P w0 K mg base 2 "pieces_of" (spD (W0 K) 2 D_pieces_of)) (C_u_law_item : CalG P w0 K mg base 4 "_law_item" (spD (W0 K) 2 D_u_law_item)) (C_u_law_first_wrong : CalG P w0 K mg base 2 "_law_first_wrong" (spD (W0 K) 1 D_u_law_first_wrong)) (room : Room 6 (A.deeper (envOfC "law" (defScope s_law) s.heap.objs.size f cdv))) (gd : A.guards = some []) :
    GSs (W0 K) [] (bodyCx P w0 K mg base N_law "law" s_law f cdv A outer s H E) (defBody s_law) D_law.body := by
  have c : Cok (W0 K) 6 (bodyCx P w0 K mg base N_law "law" s_law f cdv A outer s H E) := ⟨rfl, rfl, sc_law.nd, room, gd⟩
  simp only [D_law]
  exact (gss_cons (gs_set 1 c.nd (ge_call c C_u_law_source (gr_pass 0 gr_nil) (by omega)))
    (gss_cons (gs_for c PassesOwn.never (gi_rg1 M.n_range ge_int) (gg_n 2 c.nd) (gss_cons (gs_set 6 c.nd (ge_call c C_u_law_of (gr_io 1 (gr_v (ge_lst (ga_cons (ge_lst (ga_cons ge_str (ga_cons ge_str ga_nil))) (ga_cons (ge_lst (ga_cons ge_str (ga_cons ge_str (ga_cons ge_str ga_nil)))) (ga_cons (ge_lst (ga_cons ge_str (ga_cons ge_str (ga_cons ge_str (ga_cons ge_str (ga_cons ge_str ga_nil)))))) ga_nil)))) gr_nil)) (by omega)))
    (gss_cons (gs_set 7 c.nd (ge_call c C_u_law_of (gr_io 1 (gr_v (ge_lst (ga_cons (ge_tup ga_nil) (ga_cons (ge_tup (ga_cons ge_str ga_nil)) ga_nil))) gr_nil)) (by omega)))
    (gss_cons (gs_par2 c.nd c 8 9 (gl_cons (ge_lst ga_nil) (gl_cons (ge_lst ga_nil) gl_nil)))
    (gss_cons (gs_for c PassesOwn.never (gi_rg1 M.n_range (ge_if (gb_or (gb_gt (ge_v 2) ge_int) (gb_or1 (gb_gt (ge_call c C_u_law_pick (gr_io 1 (gr_v ge_int gr_nil)) (by omega)) ge_int))).pt (ge_add c ge_int (ge_call c C_u_law_pick (gr_io 1 (gr_v ge_int gr_nil)) (by omega))) ge_int)) (gg_n 10 c.nd) (gss_cons (gs_set 15 c.nd (ge_call c C_u_law_right_form (gr_v (ge_call c C_u_law_item (gr_io 1 (gr_v (ge_v 6) gr_nil)) (by omega)) gr_nil) (by omega)))
    (gss_cons (gs_if (gb_or (gb_isN (ge_call c C_u_law_first_wrong (gr_v (ge_add c (ge_v 9) (ge_lst (ga_cons (ge_v 15) ga_nil))) gr_nil) (by omega))) (gb_or1 (gb_eq c (ge_call c C_u_law_pick (gr_io 1 (gr_v ge_int gr_nil)) (by omega)) ge_int))).pt (gss_cons (gs_drop (ge_app 8 (ge_v 15)))
    gss_nil) gss_nil)
    (gss_cons (gs_if (gb_isN (ge_call c C_u_law_first_wrong (gr_v (ge_add c (ge_v 9) (ge_lst (ga_cons (ge_v 15) ga_nil))) gr_nil) (by omega))) (gss_cons (gs_drop (ge_app 9 (ge_v 15)))
    gss_nil) gss_nil)
    gss_nil))))
    (gss_cons (gs_par2 c.nd c 5 11 (gl_cons (ge_tup (ga_cons (ge_v 7) (ga_cons (ge_tuple M.n_tuple c (ge_v 8)) ga_nil))) (gl_cons (ge_repr M.n_repr c (ge_v 8)) gl_nil)))
    (gss_cons (gs_if (gb_or (gb_neS (ge_repr M.n_repr c (ge_call c C_wrong_item (gr_v (ge_v 5) gr_nil) (by omega))) (ge_repr M.n_repr c (ge_call c C_u_law_first_wrong (gr_v (ge_v 8) gr_nil) (by omega)))) (gb_or1 (gb_neS (ge_repr M.n_repr c (ge_v 8)) (ge_v 11)))).pt (gss_cons (gs_ret ge_bl)
    gss_nil) gss_nil)
    (gss_cons (gs_set 5 c.nd (ge_tup (ga_cons (ge_v 7) (ga_cons (ge_tuple M.n_tuple c (ge_v 9)) ga_nil))))
    (gss_cons (gs_if (gb_notN (ge_call c C_wrong_item (gr_v (ge_v 5) gr_nil) (by omega))) (gss_cons (gs_ret ge_bl)
    gss_nil) gss_nil)
    (gss_cons (gs_for c PassesOwn.never (gi_seq c (ge_tup (ga_cons ge_int (ga_cons (ge_len M.n_len c (ge_v 9)) (ga_cons (ge_call c C_u_law_pick (gr_io 1 (gr_v (ge_add c (ge_len M.n_len c (ge_v 9)) ge_int) gr_nil)) (by omega)) ga_nil))))) (gg_n 12 c.nd) (gss_cons (gs_set 16 c.nd (ge_dictL M.n_dict c (ge_lc [("item", 15)] c (gi_seq c (ge_sl c (ge_v 9) gp_none (gp_some (ge_v 12)))) (by kernel_rfl) (fun _ _ _ _ _ => (gg_n 15 c.blk.nd)) (fun _ _ _ _ _ => (gc_if (gb_in c.blk (ge_ix c.blk (ge_v 15) ge_int) (ge_tup (ga_cons ge_str (ga_cons ge_str ga_nil)))))) (fun _ _ _ _ _ => (ge_tup (ga_cons (ge_ix c.blk (ge_v 15) ge_int) (ga_cons (ge_v 15) ga_nil)))))))
    (gss_cons (gs_if (gb_neS (ge_reprD M.n_repr c (ge_call c C_told_items (gr_v (ge_v 5) (gr_v (ge_v 12) gr_nil)) (by omega))) (ge_reprD M.n_repr c (ge_v 16))) (gss_cons (gs_ret ge_bl)
    gss_nil) gss_nil)
    gss_nil)))
    (gss_cons (gs_set 13 c.nd (ge_call c C_told_items (gr_v (ge_v 5) (gr_v (ge_len M.n_len c (ge_v 9)) gr_nil)) (by omega)))
    (gss_cons (gs_for c PassesOwn.never (gi_seq c (ge_sl c (ge_call c C_u_law_mixed (gr_io 1 (gr_v (ge_list M.n_list c (ge_v 13)) gr_nil)) (by omega)) gp_none (gp_some ge_int))) (gg_n 14 c.nd) (gss_cons (gs_unp (ge_call c C_u_law_pieces (gr_v (ge_v 13) (gr_v (ge_v 14) gr_nil)) (by omega)) (gg_t c (ggs_cons (gg_n 17 c.nd) (ggs_cons (gg_n 18 c.nd) ggs_nil))))
    (gss_cons (gs_if (gb_and (gb_lt (ge_v 18) ge_int) (gb_and1 (gb_neS (ge_repr M.n_repr c (ge_lst (ga_cons (ge_call c C_pieces_of (gr_v (ge_v 5) (gr_v (ge_v 14) gr_nil)) (by omega)) (ga_cons (ge_call c C_programs_read (gr_v (ge_v 5) (gr_v (ge_v 14) gr_nil)) (by omega)) ga_nil)))) (ge_repr M.n_repr c (ge_lst (ga_cons (ge_v 17) (ga_cons (ge_v 18) ga_nil))))))).pt (gss_cons (gs_ret ge_bl)
    gss_nil) gss_nil)
    gss_nil)))
    gss_nil))))))))))))
    (gss_cons (gs_set 3 c.nd (ge_tup (ga_cons ge_str (ga_cons ge_str (ga_cons (ge_tup ga_nil) (ga_cons (ge_tup (ga_cons (ge_tup (ga_cons ge_str (ga_cons ge_bl (ga_cons (ge_tup ga_nil) ga_nil)))) ga_nil)) ga_nil))))))
    (gss_cons (gs_set 4 c.nd (ge_tup (ga_cons (ge_v 3) (ga_cons (ge_tup (ga_cons ge_str (ga_cons ge_str (ga_cons (ge_tup (ga_cons ge_str (ga_cons ge_str (ga_cons ge_str ga_nil)))) ga_nil)))) (ga_cons (ge_tup (ga_cons ge_str (ga_cons ge_str (ga_cons (ge_tup (ga_cons ge_str (ga_cons ge_str (ga_cons ge_str ga_nil)))) ga_nil)))) (ga_cons (ge_tup (ga_cons ge_str (ga_cons ge_str (ga_cons (ge_tup (ga_cons ge_str (ga_cons ge_str ga_nil))) ga_nil)))) ga_nil))))))
    (gss_cons (gs_set 5 c.nd (ge_tup (ga_cons (ge_tup ga_nil) (ga_cons (ge_v 4) ga_nil))))
    (gss_cons (gs_if (gb_ne c (ge_call c C_wrong_item (gr_v (ge_v 5) gr_nil) (by omega)) (ge_tup (ga_cons ge_int (ga_cons (ge_tup (ga_cons ge_int (ga_cons ge_int ga_nil))) (ga_cons ge_str ga_nil))))) (gss_cons (gs_ret ge_bl)
    gss_nil) gss_nil)
    (gss_cons (gs_set 5 c.nd (ge_tup (ga_cons (ge_tup ga_nil) (ga_cons (ge_sl c (ge_ix c (ge_v 5) ge_int) gp_none (gp_some ge_int)) ga_nil))))
    (gss_cons (gs_ret (ge_eq c (ge_lst (ga_cons (ge_call c C_wrong_item (gr_v (ge_v 5) gr_nil) (by omega)) (ga_cons (ge_call c C_programs_read (gr_v (ge_v 5) (gr_v ge_str gr_nil)) (by omega)) (ga_cons (ge_call c C_pieces_of (gr_v (ge_v 5) (gr_v ge_str gr_nil)) (by omega)) ga_nil)))) (ge_lst (ga_cons ge_non (ga_cons ge_int (ga_cons (ge_tup (ga_cons ge_str (ga_cons ge_str (ga_cons ge_str ga_nil)))) ga_nil))))))
    gss_nil))))))))
theorem ok_law (F : L2.Fun K "law" "law" s_law f fd) (M : MG K mg) (C_u_law_source : CalG P w0 K mg base 1 "_law_source" (spD (W0 K) 1 D_u_law_source)) (C_u_law_of : CalG P w0 K mg base 2 "_law_of" (spD (W0 K) 2 D_u_law_of)) (C_told_items : CalG P w0 K mg base 1 "told_items" (spD (W0 K) 2 D_told_items)) (C_wrong_item : CalG P w0 K mg base 6 "wrong_item" (spD (W0 K) 1 D_wrong_item)) (C_u_law_right_form : CalG P w0 K mg base 1 "_law_right_form" (spD (W0 K) 1 D_u_law_right_form)) (C_u_law_pick : CalG P w0 K mg base 1 "_law_pick" (spD (W0 K) 2 D_u_law_pick)) (C_u_law_mixed : CalG P w0 K mg base 2 "_law_mixed" (spD (W0 K) 2 D_u_law_mixed)) (C_u_law_pieces : CalG P w0 K mg base 2 "_law_pieces" (spD (W0 K) 2 D_u_law_pieces)) (C_programs_read : CalG P w0 K mg base 3 "programs_read" (spD (W0 K) 2 D_programs_read)) (C_pieces_of : CalG P w0 K mg base 2 "pieces_of" (spD (W0 K) 2 D_pieces_of)) (C_u_law_item : CalG P w0 K mg base 4 "_law_item" (spD (W0 K) 2 D_u_law_item)) (C_u_law_first_wrong : CalG P w0 K mg base 2 "_law_first_wrong" (spD (W0 K) 1 D_u_law_first_wrong)) : FnG P w0 K mg base (6 + 1) f fd P_law (spD (W0 K) 1 D_law) :=
  fnD_of F sc_law rfl (show ([] : List Nat).Nodup by decide) (show ∀ i ∈ ([] : List Nat), i < P_law.length by decide) fun cdv A outer s H E room gd => d_law M C_u_law_source C_u_law_of C_told_items C_wrong_item C_u_law_right_form C_u_law_pick C_u_law_mixed C_u_law_pieces C_programs_read C_pieces_of C_u_law_item C_u_law_first_wrong room gd
end
/-- a def of the module as the top has written it -/
structure At (K : PySem.W.Frag) (mg : Str → Option Value) (x : Str) (st : Stmt) (ps : List Str) : Prop where
  ex : ∃ (f : Addr) (fd : FuncData), L2.Fun K x x st f fd ∧ mg x = some (.ref f) ∧ Binds K fd ps []
theorem at_mk {K : PySem.W.Frag} {mg : Str → Option Value} {hp : Heap} (KX : K.In hp) (G : hp.Ns mainGlobals mg) {x : Str} {st : Stmt} {ps : List Str} {f : Addr} {oc : Value} {od an : Option Addr} {osl : Array (Option Value)} {kV doc pm cdv ct : Value}
    (a : PySem.W.nsIn K mainGlobals x = some (some (.ref f))) (l : K.lookup f = some ⟨oc, od, .func (PySem.W.fnOf x x (defArgs st) (defBody st) (defScope st) .none kV doc pm an cdv ct), osl⟩) (c : PySem.W.codeIn K cdv x = true) (k : PySem.W.keepIn K (.ref f) = true)
    (hb : ∀ (kV doc pm : Value) (an : Option Addr) (cdv ct : Value) (us : List Value), us.length = ps.length → bindArgs (PySem.W.fnOf x x (defArgs st) (defBody st) (defScope st) .none kV doc pm an cdv ct) ⟨us, []⟩ = pure (ps.zip us)) : At K mg x st ps :=
  ⟨f, _, fun_mk l c k, PySem.W.mg_of KX G a, (fun_mk l c k).binds hb⟩
theorem law_ok {P : Program} {w0 : World} {K : PySem.W.Frag} {mg : Str → Option Value} {fa : Addr} (M : MG K mg) (hfa : mg "law" = some (.ref fa)) (A_u_law_source : At K mg "_law_source" s_u_law_source P_u_law_source) (A_u_law_pick : At K mg "_law_pick" s_u_law_pick P_u_law_pick) (A_u_law_of : At K mg "_law_of" s_u_law_of P_u_law_of) (A_told_items : At K mg "told_items" s_told_items P_told_items) (A_names_told : At K mg "names_told" s_names_told P_names_told) (A_twice_told : At K mg "twice_told" s_twice_told P_twice_told) (A_first_twice : At K mg "first_twice" s_first_twice P_first_twice) (A_conditions_in : At K mg "conditions_in" s_conditions_in P_conditions_in) (A_is_unknown : At K mg "is_unknown" s_is_unknown P_is_unknown) (A_names_said : At K mg "names_said" s_names_said P_names_said) (A_set_by : At K mg "set_by" s_set_by P_set_by) (A_act_clashes : At K mg "act_clashes" s_act_clashes P_act_clashes) (A_wrong_rule : At K mg "wrong_rule" s_wrong_rule P_wrong_rule) (A_wrong_use : At K mg "wrong_use" s_wrong_use P_wrong_use) (A_programs_said : At K mg "programs_said" s_programs_said P_programs_said) (A_item_fault : At K mg "item_fault" s_item_fault P_item_fault) (A_wrong_item : At K mg "wrong_item" s_wrong_item P_wrong_item) (A_u_law_right_form : At K mg "_law_right_form" s_u_law_right_form P_u_law_right_form) (A_u_law_mixed : At K mg "_law_mixed" s_u_law_mixed P_u_law_mixed) (A_u_law_parts : At K mg "_law_parts" s_u_law_parts P_u_law_parts) (A_u_law_pieces : At K mg "_law_pieces" s_u_law_pieces P_u_law_pieces) (A_pieces_of : At K mg "pieces_of" s_pieces_of P_pieces_of) (A_programs_read : At K mg "programs_read" s_programs_read P_programs_read) (A_u_law_program : At K mg "_law_program" s_u_law_program P_u_law_program) (A_u_law_item : At K mg "_law_item" s_u_law_item P_u_law_item) (A_u_law_fault : At K mg "_law_fault" s_u_law_fault P_u_law_fault) (A_u_law_put : At K mg "_law_put" s_u_law_put P_u_law_put) (A_u_law_first_wrong : At K mg "_law_first_wrong" s_u_law_first_wrong P_u_law_first_wrong) (A_law : At K mg "law" s_law P_law) :
    ∃ fd : FuncData, (∀ (s : Shared) (u : Value), BindsTo s fd ⟨[u], []⟩ [("script", u)]) ∧ ∀ base : Heap, K.In base → base.Ns mainGlobals mg → FnG P w0 K mg base 7 fa fd ["script"] (spD (W0 K) 1 D_law) := by
  obtain ⟨f_u_law_source, fd_u_law_source, F_u_law_source, m_u_law_source, b_u_law_source⟩ := A_u_law_source.ex
  obtain ⟨f_u_law_pick, fd_u_law_pick, F_u_law_pick, m_u_law_pick, b_u_law_pick⟩ := A_u_law_pick.ex
  obtain ⟨f_u_law_of, fd_u_law_of, F_u_law_of, m_u_law_of, b_u_law_of⟩ := A_u_law_of.ex
  obtain ⟨f_told_items, fd_told_items, F_told_items, m_told_items, b_told_items⟩ := A_told_items.ex
  obtain ⟨f_names_told, fd_names_told, F_names_told, m_names_told, b_names_told⟩ := A_names_told.ex
  obtain ⟨f_twice_told, fd_twice_told, F_twice_told, m_twice_told, b_twice_told⟩ := A_twice_told.ex
  obtain ⟨f_first_twice, fd_first_twice, F_first_twice, m_first_twice, b_first_twice⟩ := A_first_twice.ex
  obtain ⟨f_conditions_in, fd_conditions_in, F_conditions_in, m_conditions_in, b_conditions_in⟩ := A_conditions_in.ex
  obtain ⟨f_is_unknown, fd_is_unknown, F_is_unknown, m_is_unknown, b_is_unknown⟩ := A_is_unknown.ex
  obtain ⟨f_names_said, fd_names_said, F_names_said, m_names_said, b_names_said⟩ := A_names_said.ex
  obtain ⟨f_set_by, fd_set_by, F_set_by, m_set_by, b_set_by⟩ := A_set_by.ex
  obtain ⟨f_act_clashes, fd_act_clashes, F_act_clashes, m_act_clashes, b_act_clashes⟩ := A_act_clashes.ex
  obtain ⟨f_wrong_rule, fd_wrong_rule, F_wrong_rule, m_wrong_rule, b_wrong_rule⟩ := A_wrong_rule.ex
  obtain ⟨f_wrong_use, fd_wrong_use, F_wrong_use, m_wrong_use, b_wrong_use⟩ := A_wrong_use.ex
  obtain ⟨f_programs_said, fd_programs_said, F_programs_said, m_programs_said, b_programs_said⟩ := A_programs_said.ex
  obtain ⟨f_item_fault, fd_item_fault, F_item_fault, m_item_fault, b_item_fault⟩ := A_item_fault.ex
  obtain ⟨f_wrong_item, fd_wrong_item, F_wrong_item, m_wrong_item, b_wrong_item⟩ := A_wrong_item.ex
  obtain ⟨f_u_law_right_form, fd_u_law_right_form, F_u_law_right_form, m_u_law_right_form, b_u_law_right_form⟩ := A_u_law_right_form.ex
  obtain ⟨f_u_law_mixed, fd_u_law_mixed, F_u_law_mixed, m_u_law_mixed, b_u_law_mixed⟩ := A_u_law_mixed.ex
  obtain ⟨f_u_law_parts, fd_u_law_parts, F_u_law_parts, m_u_law_parts, b_u_law_parts⟩ := A_u_law_parts.ex
  obtain ⟨f_u_law_pieces, fd_u_law_pieces, F_u_law_pieces, m_u_law_pieces, b_u_law_pieces⟩ := A_u_law_pieces.ex
  obtain ⟨f_pieces_of, fd_pieces_of, F_pieces_of, m_pieces_of, b_pieces_of⟩ := A_pieces_of.ex
  obtain ⟨f_programs_read, fd_programs_read, F_programs_read, m_programs_read, b_programs_read⟩ := A_programs_read.ex
  obtain ⟨f_u_law_program, fd_u_law_program, F_u_law_program, m_u_law_program, b_u_law_program⟩ := A_u_law_program.ex
  obtain ⟨f_u_law_item, fd_u_law_item, F_u_law_item, m_u_law_item, b_u_law_item⟩ := A_u_law_item.ex
  obtain ⟨f_u_law_fault, fd_u_law_fault, F_u_law_fault, m_u_law_fault, b_u_law_fault⟩ := A_u_law_fault.ex
  obtain ⟨f_u_law_put, fd_u_law_put, F_u_law_put, m_u_law_put, b_u_law_put⟩ := A_u_law_put.ex
  obtain ⟨f_u_law_first_wrong, fd_u_law_first_wrong, F_u_law_first_wrong, m_u_law_first_wrong, b_u_law_first_wrong⟩ := A_u_law_first_wrong.ex
  obtain ⟨f_law, fd_law, F_law, m_law, b_law⟩ := A_law.ex
  rw [m_law] at hfa
  cases hfa
  refine ⟨fd_law, fun s u => ?_, fun base KB _ => ?_⟩
  · obtain ⟨oc, od, kV, doc, pm, an, cdv, ct, osl, rfl, _⟩ := F_law.ex
    exact .of_eq rfl
  · have C_u_law_source : CalG P w0 K mg base 1 "_law_source" (spD (W0 K) 1 D_u_law_source) := ⟨f_u_law_source, fd_u_law_source, P_u_law_source, ok_u_law_source F_u_law_source M , m_u_law_source, F_u_law_source.kp, b_u_law_source⟩
    have C_u_law_pick : CalG P w0 K mg base 1 "_law_pick" (spD (W0 K) 2 D_u_law_pick) := ⟨f_u_law_pick, fd_u_law_pick, P_u_law_pick, ok_u_law_pick F_u_law_pick M , m_u_law_pick, F_u_law_pick.kp, b_u_law_pick⟩
    have C_u_law_of : CalG P w0 K mg base 2 "_law_of" (spD (W0 K) 2 D_u_law_of) := ⟨f_u_law_of, fd_u_law_of, P_u_law_of, ok_u_law_of F_u_law_of M C_u_law_pick, m_u_law_of, F_u_law_of.kp, b_u_law_of⟩
    have C_told_items : CalG P w0 K mg base 1 "told_items" (spD (W0 K) 2 D_told_items) := ⟨f_told_items, fd_told_items, P_told_items, ok_told_items F_told_items M , m_told_items, F_told_items.kp, b_told_items⟩
    have C_names_told : CalG P w0 K mg base 1 "names_told" (spD (W0 K) 3 D_names_told) := ⟨f_names_told, fd_names_told, P_names_told, ok_names_told F_names_told M , m_names_told, F_names_told.kp, b_names_told⟩
    have C_twice_told : CalG P w0 K mg base 2 "twice_told" (spD (W0 K) 2 D_twice_told) := ⟨f_twice_told, fd_twice_told, P_twice_told, ok_twice_told F_twice_told M C_told_items C_names_told, m_twice_told, F_twice_told.kp, b_twice_told⟩
    have C_first_twice : CalG P w0 K mg base 1 "first_twice" (spD (W0 K) 1 D_first_twice) := ⟨f_first_twice, fd_first_twice, P_first_twice, ok_first_twice F_first_twice M , m_first_twice, F_first_twice.kp, b_first_twice⟩
    have C_conditions_in : CalG P w0 K mg base 1 "conditions_in" (spD (W0 K) 2 D_conditions_in) := ⟨f_conditions_in, fd_conditions_in, P_conditions_in, ok_conditions_in F_conditions_in M , m_conditions_in, F_conditions_in.kp, b_conditions_in⟩
    have C_is_unknown : CalG P w0 K mg base 1 "is_unknown" (spD (W0 K) 3 D_is_unknown) := ⟨f_is_unknown, fd_is_unknown, P_is_unknown, ok_is_unknown F_is_unknown M , m_is_unknown, F_is_unknown.kp, b_is_unknown⟩
    have C_names_said : CalG P w0 K mg base 1 "names_said" (spD (W0 K) 2 D_names_said) := ⟨f_names_said, fd_names_said, P_names_said, ok_names_said F_names_said M , m_names_said, F_names_said.kp, b_names_said⟩
    have C_set_by : CalG P w0 K mg base 1 "set_by" (spD (W0 K) 1 D_set_by) := ⟨f_set_by, fd_set_by, P_set_by, ok_set_by F_set_by M , m_set_by, F_set_by.kp, b_set_by⟩
    have C_act_clashes : CalG P w0 K mg base 2 "act_clashes" (spD (W0 K) 2 D_act_clashes) := ⟨f_act_clashes, fd_act_clashes, P_act_clashes, ok_act_clashes F_act_clashes M C_set_by, m_act_clashes, F_act_clashes.kp, b_act_clashes⟩
    have C_wrong_rule : CalG P w0 K mg base 3 "wrong_rule" (spD (W0 K) 3 D_wrong_rule) := ⟨f_wrong_rule, fd_wrong_rule, P_wrong_rule, ok_wrong_rule F_wrong_rule M C_conditions_in C_is_unknown C_names_said C_act_clashes, m_wrong_rule, F_wrong_rule.kp, b_wrong_rule⟩
    have C_wrong_use : CalG P w0 K mg base 4 "wrong_use" (spD (W0 K) 2 D_wrong_use) := ⟨f_wrong_use, fd_wrong_use, P_wrong_use, ok_wrong_use F_wrong_use M C_first_twice C_wrong_rule, m_wrong_use, F_wrong_use.kp, b_wrong_use⟩
    have C_programs_said : CalG P w0 K mg base 1 "programs_said" (spD (W0 K) 1 D_programs_said) := ⟨f_programs_said, fd_programs_said, P_programs_said, ok_programs_said F_programs_said M , m_programs_said, F_programs_said.kp, b_programs_said⟩
    have C_item_fault : CalG P w0 K mg base 5 "item_fault" (spD (W0 K) 2 D_item_fault) := ⟨f_item_fault, fd_item_fault, P_item_fault, ok_item_fault F_item_fault M C_twice_told C_told_items C_wrong_use C_programs_said C_names_told, m_item_fault, F_item_fault.kp, b_item_fault⟩
    have C_wrong_item : CalG P w0 K mg base 6 "wrong_item" (spD (W0 K) 1 D_wrong_item) := ⟨f_wrong_item, fd_wrong_item, P_wrong_item, ok_wrong_item F_wrong_item M C_item_fault, m_wrong_item, F_wrong_item.kp, b_wrong_item⟩
    have C_u_law_right_form : CalG P w0 K mg base 1 "_law_right_form" (spD (W0 K) 1 D_u_law_right_form) := ⟨f_u_law_right_form, fd_u_law_right_form, P_u_law_right_form, ok_u_law_right_form F_u_law_right_form M , m_u_law_right_form, F_u_law_right_form.kp, b_u_law_right_form⟩
    have C_u_law_mixed : CalG P w0 K mg base 2 "_law_mixed" (spD (W0 K) 2 D_u_law_mixed) := ⟨f_u_law_mixed, fd_u_law_mixed, P_u_law_mixed, ok_u_law_mixed F_u_law_mixed M C_u_law_pick, m_u_law_mixed, F_u_law_mixed.kp, b_u_law_mixed⟩
    have C_u_law_parts : CalG P w0 K mg base 1 "_law_parts" (spD (W0 K) 1 D_u_law_parts) := ⟨f_u_law_parts, fd_u_law_parts, P_u_law_parts, ok_u_law_parts F_u_law_parts M , m_u_law_parts, F_u_law_parts.kp, b_u_law_parts⟩
    have C_u_law_pieces : CalG P w0 K mg base 2 "_law_pieces" (spD (W0 K) 2 D_u_law_pieces) := ⟨f_u_law_pieces, fd_u_law_pieces, P_u_law_pieces, ok_u_law_pieces F_u_law_pieces M C_u_law_parts, m_u_law_pieces, F_u_law_pieces.kp, b_u_law_pieces⟩
    have C_pieces_of : CalG P w0 K mg base 2 "pieces_of" (spD (W0 K) 2 D_pieces_of) := ⟨f_pieces_of, fd_pieces_of, P_pieces_of, ok_pieces_of F_pieces_of M C_told_items C_programs_said, m_pieces_of, F_pieces_of.kp, b_pieces_of⟩
    have C_programs_read : CalG P w0 K mg base 3 "programs_read" (spD (W0 K) 2 D_programs_read) := ⟨f_programs_read, fd_programs_read, P_programs_read, ok_programs_read F_programs_read M C_pieces_of C_told_items C_programs_said, m_programs_read, F_programs_read.kp, b_programs_read⟩
    have C_u_law_program : CalG P w0 K mg base 3 "_law_program" (spD (W0 K) 2 D_u_law_program) := ⟨f_u_law_program, fd_u_law_program, P_u_law_program, ok_u_law_program F_u_law_program M C_u_law_of C_u_law_pick, m_u_law_program, F_u_law_program.kp, b_u_law_program⟩
    have C_u_law_item : CalG P w0 K mg base 4 "_law_item" (spD (W0 K) 2 D_u_law_item) := ⟨f_u_law_item, fd_u_law_item, P_u_law_item, ok_u_law_item F_u_law_item M C_u_law_pick C_u_law_of C_u_law_program, m_u_law_item, F_u_law_item.kp, b_u_law_item⟩
    have C_u_law_fault : CalG P w0 K mg base 1 "_law_fault" (spD (W0 K) 2 D_u_law_fault) := ⟨f_u_law_fault, fd_u_law_fault, P_u_law_fault, ok_u_law_fault F_u_law_fault M , m_u_law_fault, F_u_law_fault.kp, b_u_law_fault⟩
    have C_u_law_put : CalG P w0 K mg base 1 "_law_put" (spD (W0 K) 2 D_u_law_put) := ⟨f_u_law_put, fd_u_law_put, P_u_law_put, ok_u_law_put F_u_law_put M , m_u_law_put, F_u_law_put.kp, b_u_law_put⟩
    have C_u_law_first_wrong : CalG P w0 K mg base 2 "_law_first_wrong" (spD (W0 K) 1 D_u_law_first_wrong) := ⟨f_u_law_first_wrong, fd_u_law_first_wrong, P_u_law_first_wrong, ok_u_law_first_wrong F_u_law_first_wrong M C_u_law_fault C_u_law_put, m_u_law_first_wrong, F_u_law_first_wrong.kp, b_u_law_first_wrong⟩
    exact ok_law F_law M C_u_law_source C_u_law_of C_told_items C_wrong_item C_u_law_right_form C_u_law_pick C_u_law_mixed C_u_law_pieces C_programs_read C_pieces_of C_u_law_item C_u_law_first_wrong
end K06

set_option Elab.async false
set_option linter.all false
set_option maxRecDepth 100000
set_option maxHeartbeats 4000000
namespace K06
open PySem KV
theorem pick_turn (S1 : Src) (n : Int) (s : Sl) (hs : s = [some (.src S1), some (.val (.int n)), none, none]) :
    ((bAnd (bVal (k2 pGt (kX 1) (kC (.int 1)))) (bAnd (bVal (k2 pLt (kSGet 0 .left) (kC (.int 2)))) (bVal (k2 pGt (kSLen 0) (kC (.int 0)))))) s).W fun r =>
      if r.1 = true then ((sCons (sSPut 0 .left (kSPop 0)) sNil) r.2).W fun q => (q.1 = .nx ∨ q.1 = .ct) ∧ ∃ m', m' < S1.cells.length ∧ ∃ S2 : Src, q.2 = [some (.src S2), some (.val (.int n)), none, none] ∧ S2.cells.length = m'
      else r.2 = s := by
  subst hs
  simp only [run_mk, List.map_cons, List.map_nil, List.length_cons, List.length_nil, List.cons_append, List.nil_append, List.replicate_succ, List.replicate_zero, Nat.reduceAdd, Nat.reduceSub, List.getElem?_cons_zero, List.getElem?_cons_succ, List.set_cons_zero, List.set_cons_succ, R.bind_ok, sCons, sNil, sIf, sRet, retL, dropL, sSet, setL, sDrop, sUnp, sPar, lNil, lCons, kF, putL, gN, gT, gAll, kC, kX, kD, kG, kS, scl, k1, k2, L.get, L.take, T.toD, aNil, aCons, kTup, kLst, bVal, bAnd, bOr, bNot, kAnd, kOr, kNot, kIf, boolOf, kCall, cNil, cV, cMv, cPass, lend, back, resL, outs, endOf, srcAt, kSGet, kSLen, kInt, SF.get, SF.put, bl, nm, if_true, if_false, Bool.false_eq_true, Bool.not_true, Bool.not_false, pGt, pLt]
  by_cases h1 : (1 : Int) < n
  · simp only [h1, decide_true, run_mk, List.map_cons, List.map_nil, List.length_cons, List.length_nil, List.cons_append, List.nil_append, List.replicate_succ, List.replicate_zero, Nat.reduceAdd, Nat.reduceSub, List.getElem?_cons_zero, List.getElem?_cons_succ, List.set_cons_zero, List.set_cons_succ, R.bind_ok, sCons, sNil, sIf, sRet, retL, dropL, sSet, setL, sDrop, sUnp, sPar, lNil, lCons, kF, putL, gN, gT, gAll, kC, kX, kD, kG, kS, scl, k1, k2, L.get, L.take, T.toD, aNil, aCons, kTup, kLst, bVal, bAnd, bOr, bNot, kAnd, kOr, kNot, kIf, boolOf, kCall, cNil, cV, cMv, cPass, lend, back, resL, outs, endOf, srcAt, kSGet, kSLen, kInt, SF.get, SF.put, bl, nm, if_true, if_false, Bool.false_eq_true, Bool.not_true, Bool.not_false]
    by_cases h2 : S1.left < 2
    · simp only [h2, decide_true, run_mk, List.map_cons, List.map_nil, List.length_cons, List.length_nil, List.cons_append, List.nil_append, List.replicate_succ, List.replicate_zero, Nat.reduceAdd, Nat.reduceSub, List.getElem?_cons_zero, List.getElem?_cons_succ, List.set_cons_zero, List.set_cons_succ, R.bind_ok, sCons, sNil, sIf, sRet, retL, dropL, sSet, setL, sDrop, sUnp, sPar, lNil, lCons, kF, putL, gN, gT, gAll, kC, kX, kD, kG, kS, scl, k1, k2, L.get, L.take, T.toD, aNil, aCons, kTup, kLst, bVal, bAnd, bOr, bNot, kAnd, kOr, kNot, kIf, boolOf, kCall, cNil, cV, cMv, cPass, lend, back, resL, outs, endOf, srcAt, kSGet, kSLen, kInt, SF.get, SF.put, bl, nm, if_true, if_false, Bool.false_eq_true, Bool.not_true, Bool.not_false]
      by_cases h3 : (0 : Int) < S1.cells.length
      · simp only [h3, decide_true, run_mk, List.map_cons, List.map_nil, List.length_cons, List.length_nil, List.cons_append, List.nil_append, List.replicate_succ, List.replicate_zero, Nat.reduceAdd, Nat.reduceSub, List.getElem?_cons_zero, List.getElem?_cons_succ, List.set_cons_zero, List.set_cons_succ, R.bind_ok, sCons, sNil, sIf, sRet, retL, dropL, sSet, setL, sDrop, sUnp, sPar, lNil, lCons, kF, putL, gN, gT, gAll, kC, kX, kD, kG, kS, scl, k1, k2, L.get, L.take, T.toD, aNil, aCons, kTup, kLst, bVal, bAnd, bOr, bNot, kAnd, kOr, kNot, kIf, boolOf, kCall, cNil, cV, cMv, cPass, lend, back, resL, outs, endOf, srcAt, kSGet, kSLen, kInt, SF.get, SF.put, bl, nm, if_true, if_false, Bool.false_eq_true, Bool.not_true, Bool.not_false, R.W_ok]
        have hl : S1.cells.length - 1 < S1.cells.length := by omega
        simp only [sSPut, kSPop, run_mk, List.map_cons, List.map_nil, List.length_cons, List.length_nil, List.cons_append, List.nil_append, List.replicate_succ, List.replicate_zero, Nat.reduceAdd, Nat.reduceSub, List.getElem?_cons_zero, List.getElem?_cons_succ, List.set_cons_zero, List.set_cons_succ, R.bind_ok, sCons, sNil, sIf, sRet, retL, dropL, sSet, setL, sDrop, sUnp, sPar, lNil, lCons, kF, putL, gN, gT, gAll, kC, kX, kD, kG, kS, scl, k1, k2, L.get, L.take, T.toD, aNil, aCons, kTup, kLst, bVal, bAnd, bOr, bNot, kAnd, kOr, kNot, kIf, boolOf, kCall, cNil, cV, cMv, cPass, lend, back, resL, outs, endOf, srcAt, kSGet, kSLen, kInt, SF.get, SF.put, bl, nm, if_true, if_false, Bool.false_eq_true, Bool.not_true, Bool.not_false, List.getElem?_eq_getElem hl, R.W_ok]
        refine ⟨.inl trivial, S1.cells.length - 1, hl, _, rfl, ?_⟩
        simp
      · simp only [h3, decide_false, run_mk, List.map_cons, List.map_nil, List.length_cons, List.length_nil, List.cons_append, List.nil_append, List.replicate_succ, List.replicate_zero, Nat.reduceAdd, Nat.reduceSub, List.getElem?_cons_zero, List.getElem?_cons_succ, List.set_cons_zero, List.set_cons_succ, R.bind_ok, sCons, sNil, sIf, sRet, retL, dropL, sSet, setL, sDrop, sUnp, sPar, lNil, lCons, kF, putL, gN, gT, gAll, kC, kX, kD, kG, kS, scl, k1, k2, L.get, L.take, T.toD, aNil, aCons, kTup, kLst, bVal, bAnd, bOr, bNot, kAnd, kOr, kNot, kIf, boolOf, kCall, cNil, cV, cMv, cPass, lend, back, resL, outs, endOf, srcAt, kSGet, kSLen, kInt, SF.get, SF.put, bl, nm, if_true, if_false, Bool.false_eq_true, Bool.not_true, Bool.not_false, R.W_ok]
    · simp only [h2, decide_false, run_mk, List.map_cons, List.map_nil, List.length_cons, List.length_nil, List.cons_append, List.nil_append, List.replicate_succ, List.replicate_zero, Nat.reduceAdd, Nat.reduceSub, List.getElem?_cons_zero, List.getElem?_cons_succ, List.set_cons_zero, List.set_cons_succ, R.bind_ok, sCons, sNil, sIf, sRet, retL, dropL, sSet, setL, sDrop, sUnp, sPar, lNil, lCons, kF, putL, gN, gT, gAll, kC, kX, kD, kG, kS, scl, k1, k2, L.get, L.take, T.toD, aNil, aCons, kTup, kLst, bVal, bAnd, bOr, bNot, kAnd, kOr, kNot, kIf, boolOf, kCall, cNil, cV, cMv, cPass, lend, back, resL, outs, endOf, srcAt, kSGet, kSLen, kInt, SF.get, SF.put, bl, nm, if_true, if_false, Bool.false_eq_true, Bool.not_true, Bool.not_false, R.W_ok]
  · simp only [h1, decide_false, run_mk, List.map_cons, List.map_nil, List.length_cons, List.length_nil, List.cons_append, List.nil_append, List.replicate_succ, List.replicate_zero, Nat.reduceAdd, Nat.reduceSub, List.getElem?_cons_zero, List.getElem?_cons_succ, List.set_cons_zero, List.set_cons_succ, R.bind_ok, sCons, sNil, sIf, sRet, retL, dropL, sSet, setL, sDrop, sUnp, sPar, lNil, lCons, kF, putL, gN, gT, gAll, kC, kX, kD, kG, kS, scl, k1, k2, L.get, L.take, T.toD, aNil, aCons, kTup, kLst, bVal, bAnd, bOr, bNot, kAnd, kOr, kNot, kIf, boolOf, kCall, cNil, cV, cMv, cPass, lend, back, resL, outs, endOf, srcAt, kSGet, kSLen, kInt, SF.get, SF.put, bl, nm, if_true, if_false, Bool.false_eq_true, Bool.not_true, Bool.not_false, R.W_ok]
theorem pick_ok (S : Src) (n : Nat) (hn : n ≤ 1000000) (hc : S.cells.length ≤ 1000) : ∃ (r : Nat) (S' : Src), D_u_law_pick.run [.src S, .val (.int n)] = .ok (.val (.int r), [.src S']) ∧ (r < n ∨ (n ≤ 1 ∧ r = 0)) ∧ S'.cells.length ≤ S.cells.length := by
  have hw := while_inv (c := bAnd (bVal (k2 pGt (kX 1) (kC (.int 1)))) (bAnd (bVal (k2 pLt (kSGet 0 .left) (kC (.int 2)))) (bVal (k2 pGt (kSLen 0) (kC (.int 0)))))) (b := sCons (sSPut 0 .left (kSPop 0)) sNil)
    (fun m s => ∃ S1 : Src, s = [some (.src S1), some (.val (.int n)), none, none] ∧ S1.cells.length = m ∧ m ≤ S.cells.length)
    (fun s => ∃ S1 : Src, s = [some (.src S1), some (.val (.int n)), none, none] ∧ S1.cells.length ≤ S.cells.length)
    (fun m s ⟨S1, e1, e2, e3⟩ => R.W_mono (pick_turn S1 n s e1) fun r hr => by
      by_cases hb : r.1 = true
      · rw [if_pos hb] at hr ⊢
        exact R.W_mono hr fun q ⟨h1, m', h2, S2, h3, h4⟩ => ⟨h1, m', by omega, S2, h3, h4, by omega⟩
      · rw [if_neg hb] at hr ⊢
        rw [hr]
        exact ⟨S1, e1, by omega⟩)
    (n := fuel) (m := S.cells.length) (s := [some (.src S), some (.val (.int n)), none, none]) ⟨S, rfl, rfl, Nat.le_refl _⟩ (by show _ < 1000000; omega)
  obtain ⟨⟨fl, s1⟩, e1, e2, S1, e3, e4⟩ := R.W_get hw
  simp only at e2 e3
  subst e2 e3
  simp only [run_mk, List.map_cons, List.map_nil, List.length_cons, List.length_nil, List.cons_append, List.nil_append, List.replicate_succ, List.replicate_zero, Nat.reduceAdd, Nat.reduceSub, List.getElem?_cons_zero, List.getElem?_cons_succ, List.set_cons_zero, List.set_cons_succ, R.bind_ok, sCons, sNil, sIf, sRet, retL, dropL, sSet, setL, sDrop, sUnp, sPar, lNil, lCons, kF, putL, gN, gT, gAll, kC, kX, kD, kG, kS, scl, k1, k2, L.get, L.take, T.toD, aNil, aCons, kTup, kLst, bVal, bAnd, bOr, bNot, kAnd, kOr, kNot, kIf, boolOf, kCall, cNil, cV, cMv, cPass, lend, back, resL, outs, endOf, srcAt, kSGet, kSLen, kInt, SF.get, SF.put, bl, nm, if_true, if_false, Bool.false_eq_true, Bool.not_true, Bool.not_false, D_u_law_pick, sWhile, e1, pLt, pGt]
  have hmax : (if (n : Int) > 1 then (n : Int) else 1) > 0 := by split <;> omega
  have hmax2 : (if (n : Int) > 1 then (n : Int) else 1) < 1000000000 := by split <;> omega
  by_cases hs1 : (n : Int) < 2
  · simp only [hs1, decide_true, run_mk, List.map_cons, List.map_nil, List.length_cons, List.length_nil, List.cons_append, List.nil_append, List.replicate_succ, List.replicate_zero, Nat.reduceAdd, Nat.reduceSub, List.getElem?_cons_zero, List.getElem?_cons_succ, List.set_cons_zero, List.set_cons_succ, R.bind_ok, sCons, sNil, sIf, sRet, retL, dropL, sSet, setL, sDrop, sUnp, sPar, lNil, lCons, kF, putL, gN, gT, gAll, kC, kX, kD, kG, kS, scl, k1, k2, L.get, L.take, T.toD, aNil, aCons, kTup, kLst, bVal, bAnd, bOr, bNot, kAnd, kOr, kNot, kIf, boolOf, kCall, cNil, cV, cMv, cPass, lend, back, resL, outs, endOf, srcAt, kSGet, kSLen, kInt, SF.get, SF.put, bl, nm, if_true, if_false, Bool.false_eq_true, Bool.not_true, Bool.not_false, sSPut, pMax2, pDiv, pMod, pInt, hmax, hmax2, and_self]
    have e0 : ¬ ((n : Int) > 1) := by omega
    rw [if_neg e0, Int.emod_one]
    exact ⟨0, _, rfl, .inr ⟨by omega, rfl⟩, e4⟩
  · simp only [hs1, decide_false, run_mk, List.map_cons, List.map_nil, List.length_cons, List.length_nil, List.cons_append, List.nil_append, List.replicate_succ, List.replicate_zero, Nat.reduceAdd, Nat.reduceSub, List.getElem?_cons_zero, List.getElem?_cons_succ, List.set_cons_zero, List.set_cons_succ, R.bind_ok, sCons, sNil, sIf, sRet, retL, dropL, sSet, setL, sDrop, sUnp, sPar, lNil, lCons, kF, putL, gN, gT, gAll, kC, kX, kD, kG, kS, scl, k1, k2, L.get, L.take, T.toD, aNil, aCons, kTup, kLst, bVal, bAnd, bOr, bNot, kAnd, kOr, kNot, kIf, boolOf, kCall, cNil, cV, cMv, cPass, lend, back, resL, outs, endOf, srcAt, kSGet, kSLen, kInt, SF.get, SF.put, bl, nm, if_true, if_false, Bool.false_eq_true, Bool.not_true, Bool.not_false]
    have e0 : (n : Int) > 1 := by omega
    by_cases hs2 : (1 : Int) < S1.left
    · simp only [hs2, decide_true, run_mk, List.map_cons, List.map_nil, List.length_cons, List.length_nil, List.cons_append, List.nil_append, List.replicate_succ, List.replicate_zero, Nat.reduceAdd, Nat.reduceSub, List.getElem?_cons_zero, List.getElem?_cons_succ, List.set_cons_zero, List.set_cons_succ, R.bind_ok, sCons, sNil, sIf, sRet, retL, dropL, sSet, setL, sDrop, sUnp, sPar, lNil, lCons, kF, putL, gN, gT, gAll, kC, kX, kD, kG, kS, scl, k1, k2, L.get, L.take, T.toD, aNil, aCons, kTup, kLst, bVal, bAnd, bOr, bNot, kAnd, kOr, kNot, kIf, boolOf, kCall, cNil, cV, cMv, cPass, lend, back, resL, outs, endOf, srcAt, kSGet, kSLen, kInt, SF.get, SF.put, bl, nm, if_true, if_false, Bool.false_eq_true, Bool.not_true, Bool.not_false, sSPut, pMax2, pDiv, pMod, pInt, hmax, hmax2, and_self]
      rw [if_pos e0]
      have h1 := Int.emod_nonneg S1.left (show (n : Int) ≠ 0 by omega)
      have h2 := Int.emod_lt_of_pos S1.left (show (0 : Int) < n by omega)
      obtain ⟨r, hr⟩ : ∃ r : Nat, S1.left % (n : Int) = r := ⟨_, (Int.toNat_of_nonneg h1).symm⟩
      rw [hr] at h2 ⊢
      exact ⟨r, _, rfl, .inl (by omega), e4⟩
    · have t1 : (-2 ^ 64 < (104729 : Int) ∧ (104729 : Int) < 2 ^ 64) := by decide
      have t2 : (-2 ^ 64 < (17 : Int) ∧ (17 : Int) < 2 ^ 64) := by decide
      have t3 : (0 : Int) < 998244353 := by decide
      have t4 : (0 : Int) < 2147483647 := by decide
      have t5 : (0 : Int) < 16 ∧ (16 : Int) < 1000000000 := by decide
      have t6 : ∀ x : Int, (-2 ^ 64 < x % 998244353 ∧ x % 998244353 < 2 ^ 64) := fun x => by
        have h1 := Int.emod_nonneg x (show (998244353 : Int) ≠ 0 by decide)
        have h2 := Int.emod_lt_of_pos x (show (0 : Int) < 998244353 by decide)
        omega
      have t7 : (0 : Int) < n := by omega
      simp only [hs2, decide_false, run_mk, List.map_cons, List.map_nil, List.length_cons, List.length_nil, List.cons_append, List.nil_append, List.replicate_succ, List.replicate_zero, Nat.reduceAdd, Nat.reduceSub, List.getElem?_cons_zero, List.getElem?_cons_succ, List.set_cons_zero, List.set_cons_succ, R.bind_ok, sCons, sNil, sIf, sRet, retL, dropL, sSet, setL, sDrop, sUnp, sPar, lNil, lCons, kF, putL, gN, gT, gAll, kC, kX, kD, kG, kS, scl, k1, k2, L.get, L.take, T.toD, aNil, aCons, kTup, kLst, bVal, bAnd, bOr, bNot, kAnd, kOr, kNot, kIf, boolOf, kCall, cNil, cV, cMv, cPass, lend, back, resL, outs, endOf, srcAt, kSGet, kSLen, kInt, SF.get, SF.put, bl, nm, if_true, if_false, Bool.false_eq_true, Bool.not_true, Bool.not_false, sSPut, pMax2, pDiv, pMod, pInt, pAdd, pMul, t1, t2, t3, t4, t5, t6, t7, or_true, true_or, and_self]
      generalize (_ / 16 : Int) = z
      have h1 := Int.emod_nonneg z (show (n : Int) ≠ 0 by omega)
      have h2 := Int.emod_lt_of_pos z t7
      obtain ⟨r, hr⟩ : ∃ r : Nat, z % (n : Int) = r := ⟨_, (Int.toNat_of_nonneg h1).symm⟩
      rw [hr] at h2 ⊢
      exact ⟨r, _, rfl, .inl (by omega), e4⟩
/-- the source, as long as it is used -/
def Sok (S : Src) : Prop := S.cells.length ≤ 1000
theorem pick (S : Src) (n : Nat) (hS : Sok S) (hn : 0 < n) (hm : n ≤ 1000000) : ∃ (r : Nat) (S' : Src), D_u_law_pick.run [.src S, .val (.int n)] = .ok (.val (.int r), [.src S']) ∧ r < n ∧ Sok S' := by
  obtain ⟨r, S', h1, h2, h3⟩ := pick_ok S n hm hS
  exact ⟨r, S', h1, by omega, Nat.le_trans h3 hS⟩
theorem ixD_nat {n r : Nat} (h : r < n) : ixD n (r : Int) = some r := by
  unfold ixD L2.ixN
  rw [if_pos (by omega), if_pos (by omega)]
  simp
theorem of_ok (S : Src) (ds : List D) (hS : Sok S) (hn : 0 < ds.length) (hm : ds.length ≤ 1000000) : ∃ (d : D) (S' : Src), D_u_law_of.run [.src S, .val (.list ds)] = .ok (.val d, [.src S']) ∧ d ∈ ds ∧ Sok S' := by
  obtain ⟨r, S', h1, h2, h3⟩ := pick S ds.length hS hn hm
  refine ⟨ds[r], S', ?_, List.getElem_mem _, h3⟩
  simp only [run_mk, List.map_cons, List.map_nil, List.length_cons, List.length_nil, List.cons_append, List.nil_append, List.replicate_succ, List.replicate_zero, Nat.reduceAdd, Nat.reduceSub, List.getElem?_cons_zero, List.getElem?_cons_succ, List.set_cons_zero, List.set_cons_succ, R.bind_ok, sCons, sNil, sIf, sRet, retL, dropL, sSet, setL, sDrop, sUnp, sPar, lNil, lCons, kF, putL, gN, gT, gAll, kC, kX, kD, kG, kS, scl, k1, k2, L.get, L.take, T.toD, aNil, aCons, kTup, kLst, bVal, bAnd, bOr, bNot, kAnd, kOr, kNot, kIf, boolOf, kCall, cNil, cV, cMv, cPass, lend, back, resL, outs, endOf, srcAt, kSGet, kSLen, kInt, SF.get, SF.put, bl, nm, if_true, if_false, Bool.false_eq_true, Bool.not_true, Bool.not_false, D_u_law_of, pLen, h1, pIx, ixD_nat h2, Option.bind_some, List.getElem?_eq_getElem h2, optD]
def absD : D → D
  | .int i => .int (if i < 0 then -i else i)
  | d => d
theorem source_ok (ns : List Int) (h : ns.length ≤ 63) : ∃ S : Src, D_u_law_source.run [.scr ns] = .ok (.src S, []) ∧ Sok S := by
  have hw := for_inv (g := gN 2) (b := sCons (sSet 1 (k2 pMod (k1 pInt (k2 pAdd (k2 pAdd (k2 pMul (kX 1) (kC (.int 69069))) (k2 pMul (kX 2) (kC (.int 31)))) (kC (.int 5)))) (kC (.int 2147483629)))) sNil) (ds := ns.map PyData.int)
    (fun _ s => ∃ (m : Int) (t : Option T), s = [some (.scr ns), some (.val (.int m)), t]) (s := [some (.scr ns), some (.val (.int 11)), none]) ⟨11, none, rfl⟩ (fun i x s hx ⟨m, t, hs⟩ => by
      subst hs
      obtain ⟨z, hz, rfl⟩ : ∃ z, z ∈ ns ∧ x = .int z := by
        have := List.mem_of_getElem? hx
        simpa [eq_comm] using this
      have t1 : (-2 ^ 64 < (69069 : Int) ∧ (69069 : Int) < 2 ^ 64) := by decide
      have t2 : (-2 ^ 64 < (31 : Int) ∧ (31 : Int) < 2 ^ 64) := by decide
      have t3 : (0 : Int) < 2147483629 := by decide
      simp only [run_mk, List.map_cons, List.map_nil, List.length_cons, List.length_nil, List.cons_append, List.nil_append, List.replicate_succ, List.replicate_zero, Nat.reduceAdd, Nat.reduceSub, List.getElem?_cons_zero, List.getElem?_cons_succ, List.set_cons_zero, List.set_cons_succ, R.bind_ok, sCons, sNil, sIf, sRet, retL, dropL, sSet, setL, sDrop, sUnp, sPar, lNil, lCons, kF, putL, gN, gT, gAll, kC, kX, kD, kG, kS, scl, k1, k2, L.get, L.take, T.toD, aNil, aCons, kTup, kLst, bVal, bAnd, bOr, bNot, kAnd, kOr, kNot, kIf, boolOf, kCall, cNil, cV, cMv, cPass, lend, back, resL, outs, endOf, srcAt, kSGet, kSLen, kInt, SF.get, SF.put, bl, nm, if_true, if_false, Bool.false_eq_true, Bool.not_true, Bool.not_false, pMul, pAdd, pInt, pMod, t1, t2, t3, or_true, true_or, R.W_ok, true_and]
      exact ⟨_, _, rfl⟩)
  obtain ⟨⟨fl, s1⟩, e1, e2, m, t, e3⟩ := R.W_get hw
  simp only at e2 e3
  subst e2 e3
  obtain ⟨s2, hc, hs2⟩ := comp_pure2 (g := gN 2) (c := none) (f := k1 pAbs (kX 2)) (own := [2]) (s := [some (.scr ns), some (.val (.int m)), t]) (fun x => [some (.scr ns), some (.val (.int m)), some (.val x)]) (fun _ => true)
    absD rfl (ds := ns.map PyData.int) (fun x hx => by
      obtain ⟨z, hz, rfl⟩ : ∃ z, z ∈ ns ∧ x = .int z := by simpa [eq_comm] using hx
      refine ⟨rfl, rfl, rfl, fun _ => ?_⟩
      simp only [run_mk, List.map_cons, List.map_nil, List.length_cons, List.length_nil, List.cons_append, List.nil_append, List.replicate_succ, List.replicate_zero, Nat.reduceAdd, Nat.reduceSub, List.getElem?_cons_zero, List.getElem?_cons_succ, List.set_cons_zero, List.set_cons_succ, R.bind_ok, sCons, sNil, sIf, sRet, retL, dropL, sSet, setL, sDrop, sUnp, sPar, lNil, lCons, kF, putL, gN, gT, gAll, kC, kX, kD, kG, kS, scl, k1, k2, L.get, L.take, T.toD, aNil, aCons, kTup, kLst, bVal, bAnd, bOr, bNot, kAnd, kOr, kNot, kIf, boolOf, kCall, cNil, cV, cMv, cPass, lend, back, resL, outs, endOf, srcAt, kSGet, kSLen, kInt, SF.get, SF.put, bl, nm, if_true, if_false, Bool.false_eq_true, Bool.not_true, Bool.not_false, pAbs, absD])
  have hl : ∀ zs : List Int, (zs.map PyData.int).map absD = (zs.map fun i : Int => if i < 0 then -i else i).map PyData.int := fun zs => by simp [absD]
  have hf : (ns.map PyData.int).filter (fun _ => true) = ns.map PyData.int := by simp
  rw [hf, hl] at hc
  have hi : ∀ zs : List Int, intsOf (zs.map PyData.int).reverse = some zs.reverse := fun zs => by
    rw [← List.map_reverse]
    generalize zs.reverse = ys
    induction ys with
    | nil => rfl
    | cons y ys ih => rw [List.map_cons, intsOf, ih]; rfl
  have hz : szOk (ns.map fun i : Int => if i < 0 then -i else i).length = true := decide_eq_true (by rw [List.length_map]; omega)
  have hs3 : ∃ t2, s2 = [some (.scr ns), some (.val (.int m)), t2] := by
    rcases hs2 with rfl | rfl
    · exact ⟨t, rfl⟩
    · exact ⟨none, rfl⟩
  obtain ⟨t2, rfl⟩ := hs3
  rw [List.length_map] at hz
  simp only [run_mk, List.map_cons, List.map_nil, List.length_cons, List.length_nil, List.cons_append, List.nil_append, List.replicate_succ, List.replicate_zero, Nat.reduceAdd, Nat.reduceSub, List.getElem?_cons_zero, List.getElem?_cons_succ, List.set_cons_zero, List.set_cons_succ, R.bind_ok, sCons, sNil, sIf, sRet, retL, dropL, sSet, setL, sDrop, sUnp, sPar, lNil, lCons, kF, putL, gN, gT, gAll, kC, kX, kD, kG, kS, scl, k1, k2, L.get, L.take, T.toD, aNil, aCons, kTup, kLst, bVal, bAnd, bOr, bNot, kAnd, kOr, kNot, kIf, boolOf, kCall, cNil, cV, cMv, cPass, lend, back, resL, outs, endOf, srcAt, kSGet, kSLen, kInt, SF.get, SF.put, bl, nm, if_true, if_false, Bool.false_eq_true, Bool.not_true, Bool.not_false, D_u_law_source, sFor, iScr, scrAt, e1, kSrc, kComp, hc, List.length_map, hz, pRev, hi]
  refine ⟨_, rfl, ?_⟩
  show List.length (List.reverse _) ≤ 1000
  rw [List.length_reverse, List.length_map]
  omega
end K06

set_option Elab.async false
set_option linter.all false
set_option maxRecDepth 100000
set_option maxHeartbeats 4000000
set_option pp.maxSteps 600
namespace K06
open PySem KV
def strsE (bs : List Str) : D := .tuple (bs.map .str)
def Sk (x : Str) : Prop := PyData.strOk x = true ∧ x.cps.size ≤ 20
theorem fit_strs {bs : List Str} (h : ∀ b ∈ bs, Sk b) : ∀ d ∈ bs.map PyData.str, fit 0 20 d := fun d hd => by
  obtain ⟨b, hb, rfl⟩ := List.mem_map.mp hd
  exact fit_str (h b hb).1 (h b hb).2
theorem eqOk_strs {bs : List Str} (h : ∀ b ∈ bs, Sk b) : eqOk (strsE bs) = true := (fit_tup (fit_strs h) (Nat.le_refl _)).eqOk (by decide)
theorem eqOk_sk {x : Str} (h : Sk x) : eqOk (.str x) = true := (fit_str (n := 0) (m := 20) h.1 h.2).eqOk (by decide)
theorem ix0 {a : D} {r : List D} : pIx (.tuple (a :: r)) (.int 0) = .ok (.d a) := by
  simp only [pIx, ixD_nat (n := (a :: r).length) (r := 0) (by simp), Option.bind_some, List.getElem?_cons_zero, optD, show ((0 : Nat) : Int) = 0 from rfl]
  have := ixD_nat (n := (a :: r).length) (r := 0) (by simp)
  simp only [Int.natCast_zero] at this ⊢
  rw [show ixD (a :: r).length 0 = some 0 from this]
  rfl
theorem ix1 {a b : D} {r : List D} : pIx (.tuple (a :: b :: r)) (.int 1) = .ok (.d b) := by
  have := ixD_nat (n := (a :: b :: r).length) (r := 1) (by simp)
  simp only [pIx]
  rw [show ixD (a :: b :: r).length 1 = some 1 from this]
  rfl
theorem ix2 {a b c : D} {r : List D} : pIx (.tuple (a :: b :: c :: r)) (.int 2) = .ok (.d c) := by
  have := ixD_nat (n := (a :: b :: c :: r).length) (r := 2) (by simp)
  simp only [pIx]
  rw [show ixD (a :: b :: c :: r).length 2 = some 2 from this]
  rfl
theorem ix3 {a b c d : D} {r : List D} : pIx (.tuple (a :: b :: c :: d :: r)) (.int 3) = .ok (.d d) := by
  have := ixD_nat (n := (a :: b :: c :: d :: r).length) (r := 3) (by simp)
  simp only [pIx]
  rw [show ixD (a :: b :: c :: d :: r).length 3 = some 3 from this]
  rfl
theorem inB_strs {v : Str} : ∀ {ws : List Str}, inB (.str v) (ws.map PyData.str) = decide (v ∈ ws)
  | [] => by simp [inB]
  | w :: ws => by
    have ih := inB_strs (v := v) (ws := ws)
    simp only [inB, List.map_cons, List.any_cons, eqv_str] at ih ⊢
    rw [ih]
    by_cases e : w = v
    · subst e; simp
    · simp [e, Ne.symm e]
theorem last_app {α : Type} {xs : List α} {x : α} : (xs ++ [x])[(xs ++ [x]).length - 1]? = some x := by simp
theorem last_app1 {α : Type} {xs : List α} {x : α} : (xs ++ [x])[xs.length + 1 - 1]? = some x := by simp
theorem pNe_nil {xs : List D} (h : eqOk (.list xs) = true) : pNe (.list xs) (.list []) = bl (!xs.isEmpty) := by
  rw [pNe_of h rfl]
  cases xs <;> simp [PyData.eqv, PyData.eqvAll]
theorem szOk2 : szOk 2 = true := by decide
theorem szOk1 : szOk 1 = true := by decide
theorem szOk0 : szOk 0 = true := by decide
theorem szOk3 : szOk 3 = true := by decide
theorem szOk4 : szOk 4 = true := by decide
theorem szOk5 : szOk 5 = true := by decide
theorem szOk6 : szOk 6 = true := by decide
theorem szOk_of {n : Nat} (h : n ≤ 1000000) : szOk n = true := decide_eq_true (by omega)
theorem pEq_sk {x y : Str} (h : Sk x) (h' : Sk y) : pEq (.str x) (.str y) = bl (decide (x = y)) := by rw [pEq_of (eqOk_sk h) (eqOk_sk h'), eqv_str]
theorem seq_t {xs : List D} : seqOf (.tuple xs) = .ok xs := rfl
theorem seq_l {xs : List D} : seqOf (.list xs) = .ok xs := rfl
theorem ixl0 : ∀ (a : D) (r : List D), pIx (.list (a :: r)) (.int 0) = .ok (.d a) := fun a r => by
  have := ixD_nat (n := (a :: r).length) (r := 0) (by simp)
  simp only [pIx]
  rw [show ixD (a :: r).length 0 = some 0 from this]
  rfl
theorem pickI {n : Nat} (i : Int) (S : Src) (e : i = n) (hS : Sok S) (hn : 0 < n) (hm : n ≤ 1000000) : ∃ (r : Nat) (S' : Src), D_u_law_pick.run [.src S, .val (.int i)] = .ok (.val (.int r), [.src S']) ∧ r < n ∧ Sok S' := by
  subst e
  exact pick S n hS hn hm
theorem pEq_int {a b : Int} : pEq (.int a) (.int b) = bl (decide (a = b)) := rfl
def plE (pl : List Nat) : D := .tuple (pl.map fun i => .int (i : Nat))
theorem seq_pl {pl : List Nat} : seqOf (plE pl) = .ok (pl.map fun i => .int (i : Nat)) := rfl
def findF {α : Type} (F : Nat → Option α) : Nat → Nat → Option α
  | _, 0 => none
  | k, n + 1 => match F k with
    | some a => some a
    | none => findF F (k + 1) n
def Hit {α : Type} (o : Option α) (tt : α → T) (r : Fl × Sl) (Q : Sl → Prop) : Prop := match o with
  | some a => r.1 = .rt (tt a)
  | none => r.1 = .nx ∧ Q r.2
def Turn {α : Type} (o : Option α) (tt : α → T) (r : Fl × Sl) (Q : Sl → Prop) : Prop := match o with
  | some a => r.1 = .rt (tt a)
  | none => (r.1 = .nx ∨ r.1 = .ct) ∧ Q r.2
theorem forD_find {α : Type} {g : GV} {b : SV} {ds : List D} (I : Nat → Sl → Prop) (F : Nat → Option α) (tt : α → T)
    (h : ∀ i x s, ds[i]? = some x → I i s → (g x s).W fun s1 => (b s1).W fun r => Turn (F i) tt r (I (i + 1))) :
    ∀ {k : Nat} {s : Sl}, I k s → k ≤ ds.length → (forD g b (ds.drop k) s).W fun r => Hit (findF F k (ds.length - k)) tt r (I ds.length) := by
  intro k s hi hk
  generalize hn : ds.length - k = n
  induction n generalizing k s with
  | zero =>
    have : k = ds.length := by omega
    subst this
    rw [List.drop_length]
    exact ⟨rfl, hi⟩
  | succ n ih =>
    have hlt : k < ds.length := by omega
    rw [List.drop_eq_getElem_cons hlt]
    obtain ⟨s1, e1, h1⟩ := R.W_get (h k ds[k] s (List.getElem?_eq_getElem hlt) hi)
    obtain ⟨⟨fl, s2⟩, e2, h2⟩ := R.W_get h1
    unfold forD findF
    rw [e1, R.bind_ok, e2, R.bind_ok]
    cases hF : F k with
    | some a =>
      simp only [hF, Turn, Hit] at h2 ⊢
      subst h2
      exact rfl
    | none =>
      simp only [hF, Turn] at h2 ⊢
      obtain ⟨h2, h3⟩ := h2
      have next := ih (k := k + 1) (s := s2) h3 hlt (by omega)
      rcases h2 with h2 | h2 <;> (subst h2; exact next)
theorem for_find {α : Type} {g : GV} {b : SV} {ds : List D} {s : Sl} (I : Nat → Sl → Prop) (F : Nat → Option α) (tt : α → T) (h0 : I 0 s)
    (h : ∀ i x s, ds[i]? = some x → I i s → (g x s).W fun s1 => (b s1).W fun r => Turn (F i) tt r (I (i + 1))) :
    (forD g b ds s).W fun r => Hit (findF F 0 ds.length) tt r (I ds.length) := by
  have := forD_find I F tt h (k := 0) h0 (Nat.zero_le _)
  rwa [List.drop_zero, Nat.sub_zero] at this
theorem findF_congr {α : Type} {F G : Nat → Option α} : ∀ {n k : Nat}, (∀ i, k ≤ i → i < k + n → F i = G i) → findF F k n = findF G k n
  | 0, _, _ => rfl
  | n + 1, k, h => by
    unfold findF
    rw [h k (Nat.le_refl _) (by omega), findF_congr (n := n) (k := k + 1) fun i h1 h2 => h i (by omega) (by omega)]
theorem pAdd_ll {a b : List D} (h : a.length + b.length ≤ 1000000) : pAdd (.list a) (.list b) = .ok (.t (.lst (a ++ b))) := by
  simp only [pAdd, szOk_of h, if_true]
theorem pAdd_tt {a b : List D} (h : a.length + b.length ≤ 1000000) : pAdd (.tuple a) (.tuple b) = .ok (.d (.tuple (a ++ b))) := by
  simp only [pAdd, szOk_of h, if_true]
theorem fit_ints : ∀ i ∈ List.range 100, (PyData.canLay0 (.int (i : Nat)) && decide (PyData.depth (.int (i : Nat)) ≤ 0) && decide (PyData.weight (.int (i : Nat)) ≤ 20) && PyData.intsShort 13 (.int (i : Nat)) && PyData.showable (.int (i : Nat))) = true := by decide +kernel
theorem fit_int {i : Nat} (h : i < 100) : fit 0 20 (.int (i : Nat)) := by
  have := fit_ints i (List.mem_range.mpr h)
  simp only [Bool.and_eq_true, decide_eq_true_eq] at this
  exact ⟨this.1.1.1.1, this.1.1.1.2, this.1.1.2, this.1.2, this.2⟩
def plOk (pl : List Nat) : Prop := pl.length ≤ 20 ∧ ∀ i ∈ pl, i < 100
theorem fit_pl {pl : List Nat} (h : plOk pl) : fit 1 420 (plE pl) := fit_tup (n := 0) (m := 20) (k := 20) (fun d hd => by
  obtain ⟨i, hi, rfl⟩ := List.mem_map.mp hd
  exact fit_int (h.2 i hi)) (by rw [List.length_map]; exact h.1)
theorem plOk.app {pl : List Nat} {a : Nat} (h : plOk pl) (hl : pl.length < 20) (ha : a < 100) : plOk (pl ++ [a]) :=
  ⟨by rw [List.length_append, List.length_singleton]; omega, fun i hi => by
    rcases List.mem_append.mp hi with z | z
    · exact h.2 i z
    · simp at z; omega⟩
theorem cut_to {xs : List D} {k : Nat} : cutD xs none (some (k : Int)) = xs.take k := by
  unfold cutD
  rw [HT.sIx_none, HT.sIx_nat, List.drop_zero, Nat.sub_zero, List.take_eq_take_iff]
  omega
theorem cut_from {xs : List D} {k : Nat} : cutD xs (some (k : Int)) none = xs.drop k := by
  unfold cutD
  rw [HT.sIx_none, HT.sIx_nat]
  by_cases h : k ≤ xs.length
  · rw [Nat.min_eq_left h, List.take_of_length_le (by rw [List.length_drop]; exact Nat.le_refl _)]
  · rw [Nat.min_eq_right (by omega), List.drop_length, List.drop_eq_nil_of_le (by omega)]
    simp
theorem in_strsL {v : Str} {ws : List Str} (hv : Sk v) (hw : ∀ w ∈ ws, Sk w) : pIn (.str v) (.list (ws.map PyData.str)) = bl (decide (v ∈ ws)) := by
  unfold pIn
  simp only [eqOk_sk hv, show eqOk (.list (ws.map PyData.str)) = true from (fit_lst (fit_strs hw) (Nat.le_refl _)).eqOk (by decide), Bool.and_self, if_true, inB_strs]
theorem in_strsT {v : Str} {ws : List Str} (hv : Sk v) (hw : ∀ w ∈ ws, Sk w) : pIn (.str v) (.tuple (ws.map PyData.str)) = bl (decide (v ∈ ws)) := by
  unfold pIn
  simp only [eqOk_sk hv, show eqOk (.tuple (ws.map PyData.str)) = true from eqOk_strs hw, Bool.and_self, if_true, inB_strs]
theorem notIn_strsL {v : Str} {ws : List Str} (hv : Sk v) (hw : ∀ w ∈ ws, Sk w) : pNotIn (.str v) (.list (ws.map PyData.str)) = bl (!decide (v ∈ ws)) := by
  unfold pNotIn
  rw [in_strsL hv hw]
  rfl
theorem nodict_pIxT {xs : List D} {a : Nat} {x : D} (h : xs[a]? = some x) : pIx (.tuple xs) (.int (a : Nat)) = .ok (.d x) := by
  have := ixD_nat (n := xs.length) (r := a) (List.getElem?_eq_some_iff.mp h).1
  simp only [pIx, this, Option.bind_some, h, optD]
theorem nodict_pIxL {xs : List D} {a : Nat} {x : D} (h : xs[a]? = some x) : pIx (.list xs) (.int (a : Nat)) = .ok (.d x) := by
  have := ixD_nat (n := xs.length) (r := a) (List.getElem?_eq_some_iff.mp h).1
  simp only [pIx, this, Option.bind_some, h, optD]
abbrev Ft := List Nat × Str
def ftE : Option Ft → D
  | none => .none
  | some x => .tuple [plE x.1, .str x.2]
theorem enum_at : ∀ {ds : List D} {k i : Nat}, (enumD k ds)[i]? = (ds[i]?).map fun d => .tuple [.int ((k + i : Nat) : Int), d]
  | [], _, _ => rfl
  | d :: ds, k, 0 => rfl
  | d :: ds, k, i + 1 => by
    rw [enumD, List.getElem?_cons_succ, List.getElem?_cons_succ, enum_at, show k + 1 + i = k + (i + 1) by omega]
theorem enum_len : ∀ {ds : List D} {k : Nat}, (enumD k ds).length = ds.length
  | [], _ => rfl
  | d :: ds, k => by rw [enumD, List.length_cons, List.length_cons, enum_len]
theorem intR_at {n i : Nat} (h : i < n) : (intR 0 n)[i]? = some (.int (i : Nat)) := by
  simp only [intR, List.getElem?_map, List.getElem?_range h, Option.map_some, Int.zero_add]
theorem intR_len {n : Nat} : (intR 0 n).length = n := by simp [intR]
theorem intR_in {n i : Nat} {d : D} (h : (intR 0 n)[i]? = some d) : i < n ∧ d = .int (i : Nat) := by
  have h1 : i < n := by
    have := (List.getElem?_eq_some_iff.mp h).1
    rwa [intR_len] at this
  rw [intR_at h1] at h
  exact ⟨h1, (Option.some.inj h).symm⟩
theorem forD_nil {g : GV} {b : SV} {s : Sl} : forD g b [] s = .ok (.nx, s) := rfl
theorem forD_rt {g : GV} {b : SV} {x : D} {xs : List D} {s s1 s2 : Sl} {t : T} (h1 : g x s = .ok s1) (h2 : b s1 = .ok (.rt t, s2)) : forD g b (x :: xs) s = .ok (.rt t, s2) := by
  unfold forD
  rw [h1, R.bind_ok, h2, R.bind_ok]
theorem forD_nx {g : GV} {b : SV} {x : D} {xs : List D} {s s1 s2 : Sl} {fl : Fl} (h1 : g x s = .ok s1) (h2 : b s1 = .ok (fl, s2)) (h : fl = .nx ∨ fl = .ct) : forD g b (x :: xs) s = forD g b xs s2 := by
  rw [forD, h1, R.bind_ok, h2, R.bind_ok]
  rcases h with h | h <;> subst h <;> rfl
theorem findF_mem {α : Type} {F : Nat → Option α} {a : α} : ∀ {n k : Nat}, findF F k n = some a → ∃ i, k ≤ i ∧ i < k + n ∧ F i = some a
  | 0, _, h => by cases h
  | n + 1, k, h => by
    unfold findF at h
    cases hF : F k with
    | some b =>
      rw [hF] at h
      cases h
      exact ⟨k, Nat.le_refl _, by omega, hF⟩
    | none =>
      rw [hF] at h
      obtain ⟨i, h1, h2, h3⟩ := findF_mem h
      exact ⟨i, by omega, by omega, h3⟩
theorem findF_none {α : Type} {F : Nat → Option α} : ∀ {n k : Nat}, (∀ i, k ≤ i → i < k + n → F i = none) → findF F k n = none
  | 0, _, _ => rfl
  | n + 1, k, h => by
    unfold findF
    rw [h k (Nat.le_refl _) (by omega)]
    exact findF_none fun i h1 h2 => h i (by omega) (by omega)
theorem fit_t0 {n : Nat} : fit (n + 1) 0 (.tuple []) := ⟨by simp [PyData.canLay0, PyData.canLayAll0], by simp [PyData.depth, PyData.depthAll], by simp [PyData.weight, PyData.weightAll], by simp [PyData.intsShort, PyData.intsShortAll], by simp [PyData.showable, PyData.showableAll]⟩
theorem fit_cons {n a b c : Nat} {d : D} {ds : List D} (h1 : fit n a d) (h2 : fit (n + 1) b (.tuple ds)) (hc : a + 1 + b ≤ c) : fit (n + 1) c (.tuple (d :: ds)) := by
  obtain ⟨p1, p2, p3, p4, p5⟩ := h1
  obtain ⟨q1, q2, q3, q4, q5⟩ := h2
  rw [PyData.canLay0] at q1
  rw [PyData.depth] at q2
  rw [PyData.weight] at q3
  rw [PyData.intsShort] at q4
  rw [PyData.showable] at q5
  exact ⟨by rw [PyData.canLay0, PyData.canLayAll0, p1, q1]; rfl, by rw [PyData.depth, PyData.depthAll]; omega, by rw [PyData.weight, PyData.weightAll]; omega, by rw [PyData.intsShort, PyData.intsShortAll, p4, q4]; rfl, by rw [PyData.showable, PyData.showableAll, p5, q5]; rfl⟩
theorem fit_sk {n : Nat} {x : Str} (h : Sk x) : fit n 20 (.str x) := fit_str h.1 h.2
theorem of2 (S : Src) (ds : List D) {P : D → Prop} (hS : Sok S) (hn : 0 < ds.length) (hm : ds.length ≤ 1000000) (h : ∀ d ∈ ds, P d) : ∃ (d : D) (S' : Src), D_u_law_of.run [.src S, .val (.list ds)] = .ok (.val d, [.src S']) ∧ P d ∧ Sok S' := by
  obtain ⟨d, S', h1, h2, h3⟩ := of_ok S ds hS hn hm
  exact ⟨d, S', h1, h d h2, h3⟩
theorem pLenM {α : Type} {f : α → D} {l : List α} : pLen (.tuple (l.map f)) = .ok (.d (.int (l.length : Nat))) := by
  show nm _ = _
  rw [List.length_map]
  rfl
theorem pGt_int {a b : Int} : pGt (.int a) (.int b) = bl (decide (b < a)) := rfl
theorem pAdd_int {a b : Int} : pAdd (.int a) (.int b) = .ok (.d (.int (a + b))) := rfl
theorem slT {α : Type} {f : α → D} {l : List α} {i : Nat} : pSl none (some (i : Int)) (.tuple (l.map f)) = .ok (.d (.tuple ((l.take i).map f))) := by
  unfold pSl
  simp only [cut_to, List.map_take]
theorem neS {a : Str} : pNeS (.str a) (.str a) = bl false := by simp [pNeS]
theorem eqS {a : Str} : pEqS (.str a) (.str a) = bl true := by simp [pEqS]
theorem isN_ft {x : Ft} : isNone (ftE (some x)) = false := rfl
theorem isN_ft0 : isNone (ftE none) = true := rfl
def fE : Option (D × D) → D
  | none => .none
  | some x => .tuple [x.1, x.2]
def wE : Option (Nat × D × D) → D
  | none => .none
  | some x => .tuple [.int (x.1 : Nat), x.2.1, x.2.2]
theorem ix4 {a b c d e : D} {r : List D} : pIx (.tuple (a :: b :: c :: d :: e :: r)) (.int 4) = .ok (.d e) := nodict_pIxT (a := 4) (by simp)
/-! ### items, as data of their own -/
inductive It where
  | prog (na : Str) (b m : D)
  | pipe1 (na w a : Str)
  | pipe2 (na w a b : Str)
  | prom (na a b c : Str)
  | strm (na a : Str)
  | kept (na : Str)
  | feed (w na : Str) (r : List D)
  | one (w na : Str) (r : List D)
  | two (w na b : Str)
def It.enc : It → D
  | .prog na b m => .tuple [.str "program", .str na, b, m]
  | .pipe1 na w a => .tuple [.str "pipe", .str na, .tuple [.str w, .str a]]
  | .pipe2 na w a b => .tuple [.str "pipe", .str na, .tuple [.str w, .str a, .str b]]
  | .prom na a b c => .tuple [.str "promise", .str na, .str a, .str b, .str c]
  | .strm na a => .tuple [.str "stream", .str na, .str a]
  | .kept na => .tuple [.str "kept", .str na]
  | .feed w na r => .tuple (.str w :: .str na :: r)
  | .one w na r => .tuple (.str w :: .str na :: r)
  | .two w na b => .tuple [.str w, .str na, .str b]
def It.word : It → Str
  | .prog _ _ _ => "program"
  | .pipe1 _ _ _ => "pipe"
  | .pipe2 _ _ _ _ => "pipe"
  | .prom _ _ _ _ => "promise"
  | .strm _ _ => "stream"
  | .kept _ => "kept"
  | .feed w _ _ => w
  | .one w _ _ => w
  | .two w _ _ => w
def It.name : It → Str
  | .prog na _ _ => na
  | .pipe1 na _ _ => na
  | .pipe2 na _ _ _ => na
  | .prom na _ _ _ => na
  | .strm na _ => na
  | .kept na => na
  | .feed _ na _ => na
  | .one _ na _ => na
  | .two _ na _ => na
def It.said : It → List (List Nat × Str)
  | .prog _ _ _ => []
  | .pipe1 _ _ a => [([2, 1], a)]
  | .pipe2 _ _ a b => [([2, 1], a), ([2, 2], b)]
  | .prom _ a b c => [([2], a), ([3], b), ([4], c)]
  | .strm _ a => [([2], a)]
  | .kept _ => []
  | .feed _ _ _ => []
  | .one _ na _ => [([1], na)]
  | .two _ na b => [([1], na), ([2], b)]
def It.isPP : It → Bool
  | .prog _ _ _ => true
  | .pipe1 _ _ _ => true
  | .pipe2 _ _ _ _ => true
  | _ => false
def It.isPS : It → Bool
  | .prom _ _ _ _ => true
  | .strm _ _ => true
  | _ => false
/-- a word with what is asked of it -/
structure Wd0 (w : Str) (pp ps pr pi po st kp fd ta on : Bool) : Prop where
  sk : Sk w
  xpp : pIn (.str w) (.tuple [.str "program", .str "pipe"]) = bl pp
  xps : pIn (.str w) (.tuple [.str "promise", .str "stream"]) = bl ps
  xpr : pEq (.str w) (.str "program") = bl pr
  xnpr : pNe (.str w) (.str "program") = bl !pr
  xpi : pEq (.str w) (.str "pipe") = bl pi
  xpo : pEq (.str w) (.str "promise") = bl po
  xst : pEq (.str w) (.str "stream") = bl st
  xkp : pEq (.str w) (.str "kept") = bl kp
  xfd : pIn (.str w) (.tuple [.str "feed", .str "back", .str "at"]) = bl fd
  xta : pIn (.str w) (.tuple [.str "within", .str "alike"]) = bl ta
  xon : pIn (.str w) (.tuple [.str "run", .str "yes", .str "keeps", .str "ever", .str "always", .str "many", .str "size", .str "again", .str "learn"]) = bl on
theorem w_program : Wd0 "program" true false true false false false false false false false := ⟨⟨by kernel_rfl, Nat.le_of_ble_eq_true (by kernel_rfl)⟩, by kernel_rfl, by kernel_rfl, by kernel_rfl, by kernel_rfl, by kernel_rfl, by kernel_rfl, by kernel_rfl, by kernel_rfl, by kernel_rfl, by kernel_rfl, by kernel_rfl⟩
theorem w_pipe : Wd0 "pipe" true false false true false false false false false false := ⟨⟨by kernel_rfl, Nat.le_of_ble_eq_true (by kernel_rfl)⟩, by kernel_rfl, by kernel_rfl, by kernel_rfl, by kernel_rfl, by kernel_rfl, by kernel_rfl, by kernel_rfl, by kernel_rfl, by kernel_rfl, by kernel_rfl, by kernel_rfl⟩
theorem w_promise : Wd0 "promise" false true false false true false false false false false := ⟨⟨by kernel_rfl, Nat.le_of_ble_eq_true (by kernel_rfl)⟩, by kernel_rfl, by kernel_rfl, by kernel_rfl, by kernel_rfl, by kernel_rfl, by kernel_rfl, by kernel_rfl, by kernel_rfl, by kernel_rfl, by kernel_rfl, by kernel_rfl⟩
theorem w_stream : Wd0 "stream" false true false false false true false false false false := ⟨⟨by kernel_rfl, Nat.le_of_ble_eq_true (by kernel_rfl)⟩, by kernel_rfl, by kernel_rfl, by kernel_rfl, by kernel_rfl, by kernel_rfl, by kernel_rfl, by kernel_rfl, by kernel_rfl, by kernel_rfl, by kernel_rfl, by kernel_rfl⟩
theorem w_kept : Wd0 "kept" false false false false false false true false false false := ⟨⟨by kernel_rfl, Nat.le_of_ble_eq_true (by kernel_rfl)⟩, by kernel_rfl, by kernel_rfl, by kernel_rfl, by kernel_rfl, by kernel_rfl, by kernel_rfl, by kernel_rfl, by kernel_rfl, by kernel_rfl, by kernel_rfl, by kernel_rfl⟩
theorem w_feed : Wd0 "feed" false false false false false false false true false false := ⟨⟨by kernel_rfl, Nat.le_of_ble_eq_true (by kernel_rfl)⟩, by kernel_rfl, by kernel_rfl, by kernel_rfl, by kernel_rfl, by kernel_rfl, by kernel_rfl, by kernel_rfl, by kernel_rfl, by kernel_rfl, by kernel_rfl, by kernel_rfl⟩
theorem w_back : Wd0 "back" false false false false false false false true false false := ⟨⟨by kernel_rfl, Nat.le_of_ble_eq_true (by kernel_rfl)⟩, by kernel_rfl, by kernel_rfl, by kernel_rfl, by kernel_rfl, by kernel_rfl, by kernel_rfl, by kernel_rfl, by kernel_rfl, by kernel_rfl, by kernel_rfl, by kernel_rfl⟩
theorem w_at : Wd0 "at" false false false false false false false true false false := ⟨⟨by kernel_rfl, Nat.le_of_ble_eq_true (by kernel_rfl)⟩, by kernel_rfl, by kernel_rfl, by kernel_rfl, by kernel_rfl, by kernel_rfl, by kernel_rfl, by kernel_rfl, by kernel_rfl, by kernel_rfl, by kernel_rfl, by kernel_rfl⟩
theorem w_run : Wd0 "run" false false false false false false false false false true := ⟨⟨by kernel_rfl, Nat.le_of_ble_eq_true (by kernel_rfl)⟩, by kernel_rfl, by kernel_rfl, by kernel_rfl, by kernel_rfl, by kernel_rfl, by kernel_rfl, by kernel_rfl, by kernel_rfl, by kernel_rfl, by kernel_rfl, by kernel_rfl⟩
theorem w_yes : Wd0 "yes" false false false false false false false false false true := ⟨⟨by kernel_rfl, Nat.le_of_ble_eq_true (by kernel_rfl)⟩, by kernel_rfl, by kernel_rfl, by kernel_rfl, by kernel_rfl, by kernel_rfl, by kernel_rfl, by kernel_rfl, by kernel_rfl, by kernel_rfl, by kernel_rfl, by kernel_rfl⟩
theorem w_keeps : Wd0 "keeps" false false false false false false false false false true := ⟨⟨by kernel_rfl, Nat.le_of_ble_eq_true (by kernel_rfl)⟩, by kernel_rfl, by kernel_rfl, by kernel_rfl, by kernel_rfl, by kernel_rfl, by kernel_rfl, by kernel_rfl, by kernel_rfl, by kernel_rfl, by kernel_rfl, by kernel_rfl⟩
theorem w_ever : Wd0 "ever" false false false false false false false false false true := ⟨⟨by kernel_rfl, Nat.le_of_ble_eq_true (by kernel_rfl)⟩, by kernel_rfl, by kernel_rfl, by kernel_rfl, by kernel_rfl, by kernel_rfl, by kernel_rfl, by kernel_rfl, by kernel_rfl, by kernel_rfl, by kernel_rfl, by kernel_rfl⟩
theorem w_always : Wd0 "always" false false false false false false false false false true := ⟨⟨by kernel_rfl, Nat.le_of_ble_eq_true (by kernel_rfl)⟩, by kernel_rfl, by kernel_rfl, by kernel_rfl, by kernel_rfl, by kernel_rfl, by kernel_rfl, by kernel_rfl, by kernel_rfl, by kernel_rfl, by kernel_rfl, by kernel_rfl⟩
theorem w_many : Wd0 "many" false false false false false false false false false true := ⟨⟨by kernel_rfl, Nat.le_of_ble_eq_true (by kernel_rfl)⟩, by kernel_rfl, by kernel_rfl, by kernel_rfl, by kernel_rfl, by kernel_rfl, by kernel_rfl, by kernel_rfl, by kernel_rfl, by kernel_rfl, by kernel_rfl, by kernel_rfl⟩
theorem w_size : Wd0 "size" false false false false false false false false false true := ⟨⟨by kernel_rfl, Nat.le_of_ble_eq_true (by kernel_rfl)⟩, by kernel_rfl, by kernel_rfl, by kernel_rfl, by kernel_rfl, by kernel_rfl, by kernel_rfl, by kernel_rfl, by kernel_rfl, by kernel_rfl, by kernel_rfl, by kernel_rfl⟩
theorem w_again : Wd0 "again" false false false false false false false false false true := ⟨⟨by kernel_rfl, Nat.le_of_ble_eq_true (by kernel_rfl)⟩, by kernel_rfl, by kernel_rfl, by kernel_rfl, by kernel_rfl, by kernel_rfl, by kernel_rfl, by kernel_rfl, by kernel_rfl, by kernel_rfl, by kernel_rfl, by kernel_rfl⟩
theorem w_learn : Wd0 "learn" false false false false false false false false false true := ⟨⟨by kernel_rfl, Nat.le_of_ble_eq_true (by kernel_rfl)⟩, by kernel_rfl, by kernel_rfl, by kernel_rfl, by kernel_rfl, by kernel_rfl, by kernel_rfl, by kernel_rfl, by kernel_rfl, by kernel_rfl, by kernel_rfl, by kernel_rfl⟩
theorem w_within : Wd0 "within" false false false false false false false false true false := ⟨⟨by kernel_rfl, Nat.le_of_ble_eq_true (by kernel_rfl)⟩, by kernel_rfl, by kernel_rfl, by kernel_rfl, by kernel_rfl, by kernel_rfl, by kernel_rfl, by kernel_rfl, by kernel_rfl, by kernel_rfl, by kernel_rfl, by kernel_rfl⟩
theorem w_alike : Wd0 "alike" false false false false false false false false true false := ⟨⟨by kernel_rfl, Nat.le_of_ble_eq_true (by kernel_rfl)⟩, by kernel_rfl, by kernel_rfl, by kernel_rfl, by kernel_rfl, by kernel_rfl, by kernel_rfl, by kernel_rfl, by kernel_rfl, by kernel_rfl, by kernel_rfl, by kernel_rfl⟩
/-- what an item keeps to -/
structure OkI (x : It) : Prop where
  nk : Sk x.name
  sd : ∀ y ∈ x.said, Sk y.2
  ft : fit 11 600 x.enc
  tu : tupOnly x.enc = true
  pr : ∀ na b m, x = .prog na b m → ∀ w : D, D_wrong_use.run [.val w, .val (.tuple [.str na, b, m])] = .ok (.val .none, [])
  fd : ∀ w na r, x = .feed w na r → w = "feed" ∨ w = "back" ∨ w = "at"
  on : ∀ w na r, x = .one w na r → w = "run" ∨ w = "yes" ∨ w = "keeps" ∨ w = "ever" ∨ w = "always" ∨ w = "many" ∨ w = "size" ∨ w = "again" ∨ w = "learn"
  ta : ∀ w na b, x = .two w na b → w = "within" ∨ w = "alike"
def It.isFd : It → Bool
  | .feed _ _ _ => true
  | _ => false
def It.isOn : It → Bool
  | .one _ _ _ => true
  | _ => false
def It.isTa : It → Bool
  | .two _ _ _ => true
  | _ => false
def It.isPr : It → Bool
  | .prog _ _ _ => true
  | _ => false
def It.isPi : It → Bool
  | .pipe1 _ _ _ => true
  | .pipe2 _ _ _ _ => true
  | _ => false
def It.isPo : It → Bool
  | .prom _ _ _ _ => true
  | _ => false
def It.isSt : It → Bool
  | .strm _ _ => true
  | _ => false
def It.isKp : It → Bool
  | .kept _ => true
  | _ => false
theorem OkI.wd {x : It} (o : OkI x) : Wd0 x.word x.isPP x.isPS x.isPr x.isPi x.isPo x.isSt x.isKp x.isFd x.isTa x.isOn := by
  cases x with
  | prog na b m => exact w_program
  | pipe1 na w a => exact w_pipe
  | pipe2 na w a b => exact w_pipe
  | prom na a b c => exact w_promise
  | strm na a => exact w_stream
  | kept na => exact w_kept
  | feed w na r => rcases o.fd w na r rfl with z | z | z <;> subst z <;> first | exact w_feed | exact w_back | exact w_at
  | one w na r => rcases o.on w na r rfl with z | z | z | z | z | z | z | z | z <;> subst z <;> first | exact w_run | exact w_yes | exact w_keeps | exact w_ever | exact w_always | exact w_many | exact w_size | exact w_again | exact w_learn
  | two w na b => rcases o.ta w na b rfl with z | z <;> subst z <;> first | exact w_within | exact w_alike
theorem enc0 {x : It} : pIx x.enc (.int 0) = .ok (.d (.str x.word)) := by cases x <;> exact ix0
theorem enc1 {x : It} : pIx x.enc (.int 1) = .ok (.d (.str x.name)) := by cases x <;> exact ix1
def saidE (x : List Nat × Str) : D := .tuple [plE x.1, .str x.2]
/-- the names with their places -/
theorem said_ok {x : It} (o : OkI x) : D_programs_said.run [.val x.enc] = .ok (.lst (x.said.map saidE), []) := by
  cases x with
  | prog na b m => kernel_rfl
  | pipe1 na w a => kernel_rfl
  | pipe2 na w a b => kernel_rfl
  | prom na a b c => kernel_rfl
  | strm na a => kernel_rfl
  | kept na => kernel_rfl
  | feed w na r =>
    have w0 := (enc0 (x := .feed w na r))
    have wd := o.wd
    simp only [It.word, It.isPi, It.isPo, It.isSt, It.isTa, It.isOn] at wd w0
    simp only [run_mk, List.map_cons, List.map_nil, List.length_cons, List.length_nil, List.cons_append, List.nil_append, List.replicate_succ, List.replicate_zero, Nat.reduceAdd, Nat.reduceSub, List.getElem?_cons_zero, List.getElem?_cons_succ, List.set_cons_zero, List.set_cons_succ, R.bind_ok, sCons, sNil, sIf, sRet, retL, dropL, sSet, setL, sDrop, sUnp, sPar, lNil, lCons, kF, putL, gN, gT, gAll, kC, kX, kD, kG, kS, scl, k1, k2, L.get, L.take, T.toD, aNil, aCons, kTup, kLst, bVal, bAnd, bOr, bNot, kAnd, kOr, kNot, kIf, boolOf, kCall, cNil, cV, cMv, cPass, lend, back, resL, outs, endOf, srcAt, kSGet, kSLen, kInt, SF.get, SF.put, bl, nm, if_true, if_false, Bool.false_eq_true, Bool.not_true, Bool.not_false, D_programs_said, w0, wd.xpi, wd.xpo, wd.xst, wd.xta, wd.xon, szOk0, szOk1, szOk2, It.said]
  | one w na r =>
    have w0 := (enc0 (x := .one w na r))
    have w1 := (enc1 (x := .one w na r))
    have wd := o.wd
    simp only [It.word, It.name, It.isPi, It.isPo, It.isSt, It.isTa, It.isOn] at wd w0 w1
    simp only [run_mk, List.map_cons, List.map_nil, List.length_cons, List.length_nil, List.cons_append, List.nil_append, List.replicate_succ, List.replicate_zero, Nat.reduceAdd, Nat.reduceSub, List.getElem?_cons_zero, List.getElem?_cons_succ, List.set_cons_zero, List.set_cons_succ, R.bind_ok, sCons, sNil, sIf, sRet, retL, dropL, sSet, setL, sDrop, sUnp, sPar, lNil, lCons, kF, putL, gN, gT, gAll, kC, kX, kD, kG, kS, scl, k1, k2, L.get, L.take, T.toD, aNil, aCons, kTup, kLst, bVal, bAnd, bOr, bNot, kAnd, kOr, kNot, kIf, boolOf, kCall, cNil, cV, cMv, cPass, lend, back, resL, outs, endOf, srcAt, kSGet, kSLen, kInt, SF.get, SF.put, bl, nm, if_true, if_false, Bool.false_eq_true, Bool.not_true, Bool.not_false, D_programs_said, w0, w1, wd.xpi, wd.xpo, wd.xst, wd.xta, wd.xon, szOk0, szOk1, szOk2, It.said, saidE]
    rfl
  | two w na b => rcases o.ta w na b rfl with z | z <;> subst z <;> kernel_rfl
end K06

set_option Elab.async false
set_option linter.all false
set_option maxRecDepth 100000
set_option maxHeartbeats 4000000
set_option pp.maxSteps 600
namespace K06
open PySem KV
/-! ### dicts under texts -/
def kvE (l : List (Str × D)) : List (D × D) := l.map fun x => (.str x.1, x.2)
theorem has_put {kvs : List (D × D)} {x y : Str} {v : D} : hasB (putD kvs (.str x) v) (.str y) = (hasB kvs (.str y) || decide (x = y)) := by
  unfold putD
  by_cases h : hasB kvs (.str x) = true
  · rw [if_pos h]
    have e : hasB (kvs.map fun p => if PyData.eqv p.1 (.str x) = true then (p.1, v) else p) (.str y) = hasB kvs (.str y) := by
      unfold hasB
      rw [List.any_map]
      congr 1
      funext p
      simp only [Function.comp_apply]
      split <;> rfl
    rw [e]
    by_cases z : x = y
    · subst z
      rw [h]
      simp
    · simp [z]
  · rw [if_neg h]
    unfold hasB
    rw [List.any_append]
    simp [eqv_str]
theorem has_merge : ∀ {l : List (Str × D)} {kvs : List (D × D)} {y : Str}, hasB (mergeD kvs (kvE l)) (.str y) = (hasB kvs (.str y) || decide (y ∈ l.map (·.1)))
  | [], kvs, y => by simp [kvE, mergeD]
  | x :: l, kvs, y => by
    have : mergeD kvs (kvE (x :: l)) = mergeD (putD kvs (.str x.1) x.2) (kvE l) := rfl
    rw [this, has_merge, has_put]
    by_cases z : x.1 = y
    · subst z; simp
    · by_cases q : y ∈ l.map (·.1)
      · simp [z, q]
      · have : y ∉ (x :: l).map (·.1) := by
          intro m
          rcases List.mem_cons.mp m with m | m
          · exact z m.symm
          · exact q m
        have z2 : ¬ y = x.1 := fun h => z h.symm
        simp [z, z2, q]
theorem merge_snoc : ∀ {l : List (D × D)} {kvs : List (D × D)} {k v : D}, mergeD kvs (l ++ [(k, v)]) = putD (mergeD kvs l) k v
  | [], kvs, k, v => rfl
  | (a, b) :: l, kvs, k, v => by
    show mergeD (putD kvs a b) (l ++ [(k, v)]) = putD (mergeD (putD kvs a b) l) k v
    exact merge_snoc
theorem put_len {kvs : List (D × D)} {k v : D} : (putD kvs k v).length ≤ kvs.length + 1 := by
  unfold putD
  split
  · rw [List.length_map]; omega
  · rw [List.length_append, List.length_singleton]; exact Nat.le_refl _
theorem merge_len : ∀ {l kvs : List (D × D)}, (mergeD kvs l).length ≤ kvs.length + l.length
  | [], kvs => Nat.le_refl _
  | (a, b) :: l, kvs => by
    have h1 := merge_len (l := l) (kvs := putD kvs a b)
    have h2 := put_len (kvs := kvs) (k := a) (v := b)
    show (mergeD (putD kvs a b) l).length ≤ _
    rw [List.length_cons]
    omega
theorem pairs_kv : ∀ {l : List (Str × D)}, pairsOf (l.map fun x => .tuple [.str x.1, x.2]) = some (kvE l)
  | [] => rfl
  | x :: l => by
    show (if (keyOf (.str x.1)).isSome then _ else _) = _
    rw [pairs_kv]
    rfl
theorem pDict_kv {l : List (Str × D)} : pDict (.list (l.map fun x => .tuple [.str x.1, x.2])) = .ok (.t (.dct (mergeD [] (kvE l)))) := by
  simp only [pDict, pairs_kv]
theorem in_dict {kvs : List (D × D)} {x : Str} : pIn (.str x) (.dict kvs) = bl (hasB kvs (.str x)) := rfl
theorem notIn_dict {kvs : List (D × D)} {x : Str} : pNotIn (.str x) (.dict kvs) = bl (!hasB kvs (.str x)) := rfl
/-! ### what is told ahead -/
def prs (f : It → Bool) (l : List It) : List (Str × D) := (l.filter f).map fun x => (x.name, x.enc)
def nms (f : It → Bool) (l : List It) : List Str := (l.filter f).map It.name
def dcs (f : It → Bool) (l : List It) : List (D × D) := mergeD [] (kvE (prs f l))
theorem has_dcs {f : It → Bool} {l : List It} {x : Str} : hasB (dcs f l) (.str x) = decide (x ∈ nms f l) := by
  unfold dcs
  rw [has_merge]
  have : (prs f l).map (·.1) = nms f l := by
    unfold prs nms
    rw [List.map_map]
    rfl
  rw [this]
  rfl
theorem dcs_len {f : It → Bool} {l : List It} : (dcs f l).length ≤ l.length := by
  have := merge_len (l := kvE (prs f l)) (kvs := [])
  unfold dcs
  have h2 : (kvE (prs f l)).length ≤ l.length := by
    unfold kvE prs
    rw [List.length_map, List.length_map]
    exact List.length_filter_le ..
  simp only [List.length_nil] at this
  omega
theorem dcs_snoc {f : It → Bool} {l : List It} {x : It} : dcs f (l ++ [x]) = if f x = true then putD (dcs f l) (.str x.name) x.enc else dcs f l := by
  unfold dcs prs
  rw [List.filter_append]
  by_cases h : f x = true
  · rw [if_pos h, List.filter_cons_of_pos h, List.filter_nil, List.map_append]
    unfold kvE
    rw [List.map_append]
    exact merge_snoc
  · rw [if_neg h, List.filter_cons_of_neg h, List.filter_nil, List.append_nil]
abbrev sesE (w : D) (l : List It) : D := .tuple [w, .tuple (l.map It.enc)]
theorem ses1 {w : D} {l : List It} : pIx (sesE w l) (.int 1) = .ok (.d (.tuple (l.map It.enc))) := ix1
theorem ses0 {w : D} {l : List It} : pIx (sesE w l) (.int 0) = .ok (.d w) := ix0
theorem told_ok {w : D} {l : List It} {i : Nat} (o : ∀ x ∈ l, OkI x) (hl : l.length ≤ 1000) : D_told_items.run [.val (sesE w l), .val (.int (i : Nat))] = .ok (.dct (dcs It.isPP (l.take i)), []) := by
  have hc := comp_map (g := gN 2) (c := some (bVal (k2 pIn (k2 pIx (kX 2) (kC (.int 0))) (kTup (aCons (kC (.str "program")) (aCons (kC (.str "pipe")) aNil)))))) (f := kTup (aCons (k2 pIx (kX 2) (kC (.int 1))) (aCons (kX 2) aNil))) (own := [2]) (s := [some (.val (sesE w l)), some (.val (.int (i : Nat))), none])
    It.enc (fun x => [some (.val (sesE w l)), some (.val (.int (i : Nat))), some (.val x.enc)]) It.isPP (fun x => .tuple [.str x.name, x.enc]) rfl (xs := l.take i) (fun x hx => by
      have wd := (o x (List.mem_of_mem_take hx)).wd
      refine ⟨rfl, rfl, ?_, fun _ => ?_⟩
      · simp only [bOf, run_mk, List.map_cons, List.map_nil, List.length_cons, List.length_nil, List.cons_append, List.nil_append, List.replicate_succ, List.replicate_zero, Nat.reduceAdd, Nat.reduceSub, List.getElem?_cons_zero, List.getElem?_cons_succ, List.set_cons_zero, List.set_cons_succ, R.bind_ok, sCons, sNil, sIf, sRet, retL, dropL, sSet, setL, sDrop, sUnp, sPar, lNil, lCons, kF, putL, gN, gT, gAll, kC, kX, kD, kG, kS, scl, k1, k2, L.get, L.take, T.toD, aNil, aCons, kTup, kLst, bVal, bAnd, bOr, bNot, kAnd, kOr, kNot, kIf, boolOf, kCall, cNil, cV, cMv, cPass, lend, back, resL, outs, endOf, srcAt, kSGet, kSLen, kInt, SF.get, SF.put, bl, nm, if_true, if_false, Bool.false_eq_true, Bool.not_true, Bool.not_false, enc0, szOk2, wd.xpp]
      · simp only [run_mk, List.map_cons, List.map_nil, List.length_cons, List.length_nil, List.cons_append, List.nil_append, List.replicate_succ, List.replicate_zero, Nat.reduceAdd, Nat.reduceSub, List.getElem?_cons_zero, List.getElem?_cons_succ, List.set_cons_zero, List.set_cons_succ, R.bind_ok, sCons, sNil, sIf, sRet, retL, dropL, sSet, setL, sDrop, sUnp, sPar, lNil, lCons, kF, putL, gN, gT, gAll, kC, kX, kD, kG, kS, scl, k1, k2, L.get, L.take, T.toD, aNil, aCons, kTup, kLst, bVal, bAnd, bOr, bNot, kAnd, kOr, kNot, kIf, boolOf, kCall, cNil, cV, cMv, cPass, lend, back, resL, outs, endOf, srcAt, kSGet, kSLen, kInt, SF.get, SF.put, bl, nm, if_true, if_false, Bool.false_eq_true, Bool.not_true, Bool.not_false, enc1, szOk2])
  have e2 : ((l.take i).filter It.isPP).map (fun x => PyData.tuple [.str x.name, x.enc]) = (prs It.isPP (l.take i)).map fun x => .tuple [.str x.1, x.2] := by
    unfold prs
    rw [List.map_map]
    rfl
  rw [e2] at hc
  have hz : szOk ((prs It.isPP (l.take i)).map fun x => PyData.tuple [.str x.1, x.2]).length = true := szOk_of (by
    unfold prs
    rw [List.length_map, List.length_map]
    have h1 := List.length_filter_le It.isPP (l.take i)
    rw [List.length_take] at h1
    omega)
  have sl : pSl none (some (i : Int)) (.tuple (l.map It.enc)) = .ok (.d (.tuple ((l.take i).map It.enc))) := slT
  simp only [run_mk, List.map_cons, List.map_nil, List.length_cons, List.length_nil, List.cons_append, List.nil_append, List.replicate_succ, List.replicate_zero, Nat.reduceAdd, Nat.reduceSub, List.getElem?_cons_zero, List.getElem?_cons_succ, List.set_cons_zero, List.set_cons_succ, R.bind_ok, sCons, sNil, sIf, sRet, retL, dropL, sSet, setL, sDrop, sUnp, sPar, lNil, lCons, kF, putL, gN, gT, gAll, kC, kX, kD, kG, kS, scl, k1, k2, L.get, L.take, T.toD, aNil, aCons, kTup, kLst, bVal, bAnd, bOr, bNot, kAnd, kOr, kNot, kIf, boolOf, kCall, cNil, cV, cMv, cPass, lend, back, resL, outs, endOf, srcAt, kSGet, kSLen, kInt, SF.get, SF.put, bl, nm, if_true, if_false, Bool.false_eq_true, Bool.not_true, Bool.not_false, D_told_items, ses1, kSl, partOf, sl, kComp, iSeq, seq_t, hc, hz, pDict_kv]
  rfl
theorem names_ok {w : D} {l : List It} {i : Nat} {v : Str} (hv : Sk v) (o : ∀ x ∈ l, OkI x) (hl : l.length ≤ 1000) : D_names_told.run [.val (sesE w l), .val (.int (i : Nat)), .val (.str v)] = .ok (.lst ((nms (fun x => decide (x.word = v)) (l.take i)).map .str), []) := by
  have hc := comp_map (g := gN 3) (c := some (bVal (k2 pEq (k2 pIx (kX 3) (kC (.int 0))) (kX 2)))) (f := k2 pIx (kX 3) (kC (.int 1))) (own := [3]) (s := [some (.val (sesE w l)), some (.val (.int (i : Nat))), some (.val (.str v)), none])
    It.enc (fun x => [some (.val (sesE w l)), some (.val (.int (i : Nat))), some (.val (.str v)), some (.val x.enc)]) (fun x => decide (x.word = v)) (fun x => .str x.name) rfl (xs := l.take i) (fun x hx => by
      have wd := (o x (List.mem_of_mem_take hx)).wd
      refine ⟨rfl, rfl, ?_, fun _ => ?_⟩
      · simp only [bOf, run_mk, List.map_cons, List.map_nil, List.length_cons, List.length_nil, List.cons_append, List.nil_append, List.replicate_succ, List.replicate_zero, Nat.reduceAdd, Nat.reduceSub, List.getElem?_cons_zero, List.getElem?_cons_succ, List.set_cons_zero, List.set_cons_succ, R.bind_ok, sCons, sNil, sIf, sRet, retL, dropL, sSet, setL, sDrop, sUnp, sPar, lNil, lCons, kF, putL, gN, gT, gAll, kC, kX, kD, kG, kS, scl, k1, k2, L.get, L.take, T.toD, aNil, aCons, kTup, kLst, bVal, bAnd, bOr, bNot, kAnd, kOr, kNot, kIf, boolOf, kCall, cNil, cV, cMv, cPass, lend, back, resL, outs, endOf, srcAt, kSGet, kSLen, kInt, SF.get, SF.put, bl, nm, if_true, if_false, Bool.false_eq_true, Bool.not_true, Bool.not_false, enc0, pEq_sk wd.sk hv]
      · simp only [run_mk, List.map_cons, List.map_nil, List.length_cons, List.length_nil, List.cons_append, List.nil_append, List.replicate_succ, List.replicate_zero, Nat.reduceAdd, Nat.reduceSub, List.getElem?_cons_zero, List.getElem?_cons_succ, List.set_cons_zero, List.set_cons_succ, R.bind_ok, sCons, sNil, sIf, sRet, retL, dropL, sSet, setL, sDrop, sUnp, sPar, lNil, lCons, kF, putL, gN, gT, gAll, kC, kX, kD, kG, kS, scl, k1, k2, L.get, L.take, T.toD, aNil, aCons, kTup, kLst, bVal, bAnd, bOr, bNot, kAnd, kOr, kNot, kIf, boolOf, kCall, cNil, cV, cMv, cPass, lend, back, resL, outs, endOf, srcAt, kSGet, kSLen, kInt, SF.get, SF.put, bl, nm, if_true, if_false, Bool.false_eq_true, Bool.not_true, Bool.not_false, enc1])
  have hz : szOk (((l.take i).filter (fun x => decide (x.word = v))).map (fun x => PyData.str x.name)).length = true := szOk_of (by
    rw [List.length_map]
    have h1 := List.length_filter_le (fun x => decide (It.word x = v)) (l.take i)
    rw [List.length_take] at h1
    omega)
  have e2 : ((l.take i).filter (fun x => decide (x.word = v))).map (fun x => PyData.str x.name) = (nms (fun x => decide (x.word = v)) (l.take i)).map .str := by
    unfold nms
    rw [List.map_map]
    rfl
  have sl : pSl none (some (i : Int)) (.tuple (l.map It.enc)) = .ok (.d (.tuple ((l.take i).map It.enc))) := slT
  simp only [run_mk, List.map_cons, List.map_nil, List.length_cons, List.length_nil, List.cons_append, List.nil_append, List.replicate_succ, List.replicate_zero, Nat.reduceAdd, Nat.reduceSub, List.getElem?_cons_zero, List.getElem?_cons_succ, List.set_cons_zero, List.set_cons_succ, R.bind_ok, sCons, sNil, sIf, sRet, retL, dropL, sSet, setL, sDrop, sUnp, sPar, lNil, lCons, kF, putL, gN, gT, gAll, kC, kX, kD, kG, kS, scl, k1, k2, L.get, L.take, T.toD, aNil, aCons, kTup, kLst, bVal, bAnd, bOr, bNot, kAnd, kOr, kNot, kIf, boolOf, kCall, cNil, cV, cMv, cPass, lend, back, resL, outs, endOf, srcAt, kSGet, kSLen, kInt, SF.get, SF.put, bl, nm, if_true, if_false, Bool.false_eq_true, Bool.not_true, Bool.not_false, D_names_told, ses1, kSl, partOf, sl, kComp, iSeq, seq_t, hc, hz]
  rw [e2]
def isW (v : Str) (x : It) : Bool := decide (x.word = v)
theorem nms_sk {f : It → Bool} {l : List It} (o : ∀ x ∈ l, OkI x) : ∀ y ∈ nms f l, Sk y := fun y hy => by
  unfold nms at hy
  obtain ⟨x, hx, rfl⟩ := List.mem_map.mp hy
  exact (o x (List.mem_filter.mp hx).1).nk
def twice (l : List It) (x : It) : Bool := if x.isPP = true then decide (x.name ∈ nms It.isPP l) else x.isPS && decide (x.name ∈ nms (isW x.word) l)
theorem twice_ok {w : D} {l : List It} {i : Nat} {x : It} (o : ∀ x ∈ l, OkI x) (hl : l.length ≤ 1000) (hx : l[i]? = some x) : D_twice_told.run [.val (sesE w l), .val (.int (i : Nat))] = .ok (.val (.bool (twice (l.take i) x)), []) := by
  have ox := o x (List.mem_of_getElem? hx)
  have wd := ox.wd
  have ei : pIx (.tuple (l.map It.enc)) (.int (i : Nat)) = .ok (.d x.enc) := nodict_pIxT (by rw [List.getElem?_map, hx]; rfl)
  have t1 := told_ok (w := w) (i := i) o hl
  have n1 := names_ok (w := w) (i := i) wd.sk o hl
  have in1 := in_strsL (v := x.name) (ws := nms (isW x.word) (l.take i)) ox.nk (nms_sk fun y hy => o y (List.mem_of_mem_take hy))
  unfold twice
  cases h1 : x.isPP with
  | true =>
    have e1 := wd.xpp
    rw [h1] at e1
    simp only [run_mk, List.map_cons, List.map_nil, List.length_cons, List.length_nil, List.cons_append, List.nil_append, List.replicate_succ, List.replicate_zero, Nat.reduceAdd, Nat.reduceSub, List.getElem?_cons_zero, List.getElem?_cons_succ, List.set_cons_zero, List.set_cons_succ, R.bind_ok, sCons, sNil, sIf, sRet, retL, dropL, sSet, setL, sDrop, sUnp, sPar, lNil, lCons, kF, putL, gN, gT, gAll, kC, kX, kD, kG, kS, scl, k1, k2, L.get, L.take, T.toD, aNil, aCons, kTup, kLst, bVal, bAnd, bOr, bNot, kAnd, kOr, kNot, kIf, boolOf, kCall, cNil, cV, cMv, cPass, lend, back, resL, outs, endOf, srcAt, kSGet, kSLen, kInt, SF.get, SF.put, bl, nm, if_true, if_false, Bool.false_eq_true, Bool.not_true, Bool.not_false, D_twice_told, ses1, ei, enc0, enc1, szOk2, e1, t1, in_dict, has_dcs]
  | false =>
    have e1 := wd.xpp
    rw [h1] at e1
    have e2 := wd.xps
    cases h2 : x.isPS with
    | true =>
      rw [h2] at e2
      have in2 : pIn (.str x.name) (.list ((nms (fun y => decide (y.word = x.word)) (l.take i)).map .str)) = bl (decide (x.name ∈ nms (isW x.word) (l.take i))) := in1
      simp only [run_mk, List.map_cons, List.map_nil, List.length_cons, List.length_nil, List.cons_append, List.nil_append, List.replicate_succ, List.replicate_zero, Nat.reduceAdd, Nat.reduceSub, List.getElem?_cons_zero, List.getElem?_cons_succ, List.set_cons_zero, List.set_cons_succ, R.bind_ok, sCons, sNil, sIf, sRet, retL, dropL, sSet, setL, sDrop, sUnp, sPar, lNil, lCons, kF, putL, gN, gT, gAll, kC, kX, kD, kG, kS, scl, k1, k2, L.get, L.take, T.toD, aNil, aCons, kTup, kLst, bVal, bAnd, bOr, bNot, kAnd, kOr, kNot, kIf, boolOf, kCall, cNil, cV, cMv, cPass, lend, back, resL, outs, endOf, srcAt, kSGet, kSLen, kInt, SF.get, SF.put, bl, nm, if_true, if_false, Bool.false_eq_true, Bool.not_true, Bool.not_false, D_twice_told, ses1, ei, enc0, enc1, szOk2, e1, e2, n1, in2, Bool.true_and]
    | false =>
      rw [h2] at e2
      simp only [run_mk, List.map_cons, List.map_nil, List.length_cons, List.length_nil, List.cons_append, List.nil_append, List.replicate_succ, List.replicate_zero, Nat.reduceAdd, Nat.reduceSub, List.getElem?_cons_zero, List.getElem?_cons_succ, List.set_cons_zero, List.set_cons_succ, R.bind_ok, sCons, sNil, sIf, sRet, retL, dropL, sSet, setL, sDrop, sUnp, sPar, lNil, lCons, kF, putL, gN, gT, gAll, kC, kX, kD, kG, kS, scl, k1, k2, L.get, L.take, T.toD, aNil, aCons, kTup, kLst, bVal, bAnd, bOr, bNot, kAnd, kOr, kNot, kIf, boolOf, kCall, cNil, cV, cMv, cPass, lend, back, resL, outs, endOf, srcAt, kSGet, kSLen, kInt, SF.get, SF.put, bl, nm, if_true, if_false, Bool.false_eq_true, Bool.not_true, Bool.not_false, D_twice_told, ses1, ei, enc0, enc1, szOk2, e1, e2, Bool.false_and]
/-- the first fault of an item -/
def fault (l : List It) (x : It) : Option Ft :=
  if twice l x = true then some ([1], "twice")
  else if x.isPr = true then none
  else if x.isFd = true then (if x.name ∈ nms (isW "stream") l then none else some ([1], "stream"))
  else if x.isKp = true then (if x.name ∈ nms (isW "promise") l then none else some ([1], "promise"))
  else (x.said.find? fun y => !decide (y.2 ∈ nms It.isPP l)).map fun y => (y.1, "program")
end K06

set_option Elab.async false
set_option linter.all false
set_option maxRecDepth 100000
set_option maxHeartbeats 4000000
set_option pp.maxSteps 600
namespace K06
open PySem KV
/-! ### item_fault -/
theorem said_pl {x : It} : ∀ y ∈ x.said, plOk y.1 := fun y hy => by
  cases x <;> simp only [It.said, List.mem_cons, List.not_mem_nil, or_false] at hy
  case pipe1 => subst hy; exact ⟨by simp, fun j hj => by simp at hj; omega⟩
  case pipe2 => rcases hy with rfl | rfl <;> exact ⟨by simp, fun j hj => by simp at hj; omega⟩
  case prom => rcases hy with rfl | rfl | rfl <;> exact ⟨by simp, fun j hj => by simp at hj; omega⟩
  case strm => subst hy; exact ⟨by simp, fun j hj => by simp at hj; omega⟩
  case one => subst hy; exact ⟨by simp, fun j hj => by simp at hj; omega⟩
  case two => rcases hy with rfl | rfl <;> exact ⟨by simp, fun j hj => by simp at hj; omega⟩
theorem said_len {x : It} : x.said.length ≤ 3 := by cases x <;> simp [It.said]
def lacks (l : List It) (y : List Nat × Str) : Bool := !decide (y.2 ∈ nms It.isPP l)
/-- the first that is not told -/
def lackFt (l : List It) (x : It) : Option Ft := (x.said.find? (lacks l)).map fun y => (y.1, "program")
theorem lack_find {l : List It} {x : It} : lackFt l x = ((x.said.filter (lacks l)).map (·.1)).head?.map fun p => (p, ("program" : Str)) := by
  unfold lackFt
  rw [List.head?_map, List.head?_filter]
  cases x.said.find? (lacks l) <;> rfl
theorem ne_pls {ps : List (List Nat)} (h : ∀ p ∈ ps, plOk p) : pNe (.list (ps.map plE)) (.list []) = bl (!ps.isEmpty) := by
  have := pNe_nil (xs := ps.map plE) ((fit_lst (n := 1) (m := 420) (fun d hd => by
    obtain ⟨p, hp, rfl⟩ := List.mem_map.mp hd
    exact fit_pl (h p hp)) (Nat.le_refl _)).eqOk (by decide))
  rw [this, List.isEmpty_map]
theorem fault_pr {l : List It} {x : It} (h : twice l x = false) (hp : x.isPr = true) : fault l x = none := by simp [fault, h, hp]
theorem fault_fd {l : List It} {x : It} (h : twice l x = false) (hp : x.isFd = true) : fault l x = if x.name ∈ nms (isW "stream") l then none else some (([1], ("stream" : Str)) : Ft) := by
  cases x <;> simp_all [fault, It.isPr, It.isFd]
theorem fault_kp {l : List It} {x : It} (h : twice l x = false) (hp : x.isKp = true) : fault l x = if x.name ∈ nms (isW "promise") l then none else some (([1], ("promise" : Str)) : Ft) := by
  cases x <;> simp_all [fault, It.isPr, It.isFd, It.isKp]
theorem fault_el {l : List It} {x : It} (h : twice l x = false) (h1 : x.isPr = false) (h2 : x.isFd = false) (h3 : x.isKp = false) : fault l x = lackFt l x := by
  simp [fault, h, h1, h2, h3, lackFt]
  rfl
theorem item_ok {w : D} {l : List It} {i : Nat} {x : It} (o : ∀ x ∈ l, OkI x) (hl : l.length ≤ 1000) (hx : l[i]? = some x) : D_item_fault.run [.val (sesE w l), .val (.int (i : Nat))] = .ok (.val (ftE (fault (l.take i) x)), []) := by
  have ox := o x (List.mem_of_getElem? hx)
  have wd := ox.wd
  have ot : ∀ y ∈ l.take i, OkI y := fun y hy => o y (List.mem_of_mem_take hy)
  have ei : pIx (.tuple (l.map It.enc)) (.int (i : Nat)) = .ok (.d x.enc) := nodict_pIxT (by rw [List.getElem?_map, hx]; rfl)
  have t1 := told_ok (w := w) (i := i) o hl
  have t2 := twice_ok (w := w) o hl hx
  cases ht : twice (l.take i) x with
  | true =>
    rw [ht] at t2
    have ef : fault (l.take i) x = some (([1], ("twice" : Str)) : Ft) := by simp [fault, ht]
    rw [ef]
    simp only [run_mk, List.map_cons, List.map_nil, List.length_cons, List.length_nil, List.cons_append, List.nil_append, List.replicate_succ, List.replicate_zero, Nat.reduceAdd, Nat.reduceSub, List.getElem?_cons_zero, List.getElem?_cons_succ, List.set_cons_zero, List.set_cons_succ, R.bind_ok, sCons, sNil, sIf, sRet, retL, dropL, sSet, setL, sDrop, sUnp, sPar, lNil, lCons, kF, putL, gN, gT, gAll, kC, kX, kD, kG, kS, scl, k1, k2, L.get, L.take, T.toD, aNil, aCons, kTup, kLst, bVal, bAnd, bOr, bNot, kAnd, kOr, kNot, kIf, boolOf, kCall, cNil, cV, cMv, cPass, lend, back, resL, outs, endOf, srcAt, kSGet, kSLen, kInt, SF.get, SF.put, bl, nm, if_true, if_false, Bool.false_eq_true, Bool.not_true, Bool.not_false, D_item_fault, ses1, ei, t1, t2, szOk1, szOk2]
    rfl
  | false =>
    rw [ht] at t2
    cases h1 : x.isPr with
    | true =>
      rw [fault_pr ht h1]
      cases x with
      | prog na b m =>
        have e1 := wd.xpr
        simp only [It.isPr, It.word] at e1
        have e0 := (enc0 (x := .prog na b m))
        simp only [It.word] at e0
        have sl : pSl (some 1) none (It.enc (.prog na b m)) = .ok (.d (.tuple [.str na, b, m])) := by kernel_rfl
        have wu := ox.pr na b m rfl w
        simp only [run_mk, List.map_cons, List.map_nil, List.length_cons, List.length_nil, List.cons_append, List.nil_append, List.replicate_succ, List.replicate_zero, Nat.reduceAdd, Nat.reduceSub, List.getElem?_cons_zero, List.getElem?_cons_succ, List.set_cons_zero, List.set_cons_succ, R.bind_ok, sCons, sNil, sIf, sRet, retL, dropL, sSet, setL, sDrop, sUnp, sPar, lNil, lCons, kF, putL, gN, gT, gAll, kC, kX, kD, kG, kS, scl, k1, k2, L.get, L.take, T.toD, aNil, aCons, kTup, kLst, bVal, bAnd, bOr, bNot, kAnd, kOr, kNot, kIf, boolOf, kCall, cNil, cV, cMv, cPass, lend, back, resL, outs, endOf, srcAt, kSGet, kSLen, kInt, SF.get, SF.put, bl, nm, if_true, if_false, Bool.false_eq_true, Bool.not_true, Bool.not_false, D_item_fault, ses1, ses0, ei, t1, t2, e0, e1, kSl, partOf, sl, wu, ftE]
      | _ => simp [It.isPr] at h1
    | false =>
      have e1 := wd.xpr
      rw [h1] at e1
      cases h2 : x.isFd with
      | true =>
        rw [fault_fd ht h2]
        have e2 := wd.xfd
        rw [h2] at e2
        have sv : Sk "stream" := w_stream.sk
        have n1 := names_ok (w := w) (i := i) sv o hl
        have ni : pNotIn (.str x.name) (.list ((nms (fun x => decide (x.word = "stream")) (l.take i)).map .str)) = bl (!decide (x.name ∈ nms (isW "stream") (l.take i))) := notIn_strsL ox.nk (nms_sk ot)
        by_cases hb : x.name ∈ nms (isW "stream") (l.take i)
        · rw [decide_eq_true hb] at ni
          rw [if_pos hb]
          simp only [run_mk, List.map_cons, List.map_nil, List.length_cons, List.length_nil, List.cons_append, List.nil_append, List.replicate_succ, List.replicate_zero, Nat.reduceAdd, Nat.reduceSub, List.getElem?_cons_zero, List.getElem?_cons_succ, List.set_cons_zero, List.set_cons_succ, R.bind_ok, sCons, sNil, sIf, sRet, retL, dropL, sSet, setL, sDrop, sUnp, sPar, lNil, lCons, kF, putL, gN, gT, gAll, kC, kX, kD, kG, kS, scl, k1, k2, L.get, L.take, T.toD, aNil, aCons, kTup, kLst, bVal, bAnd, bOr, bNot, kAnd, kOr, kNot, kIf, boolOf, kCall, cNil, cV, cMv, cPass, lend, back, resL, outs, endOf, srcAt, kSGet, kSLen, kInt, SF.get, SF.put, bl, nm, if_true, if_false, Bool.false_eq_true, Bool.not_true, Bool.not_false, D_item_fault, ses1, ei, t1, t2, enc0, enc1, e1, e2, n1, ni, ftE]
        · rw [decide_eq_false hb] at ni
          rw [if_neg hb]
          simp only [run_mk, List.map_cons, List.map_nil, List.length_cons, List.length_nil, List.cons_append, List.nil_append, List.replicate_succ, List.replicate_zero, Nat.reduceAdd, Nat.reduceSub, List.getElem?_cons_zero, List.getElem?_cons_succ, List.set_cons_zero, List.set_cons_succ, R.bind_ok, sCons, sNil, sIf, sRet, retL, dropL, sSet, setL, sDrop, sUnp, sPar, lNil, lCons, kF, putL, gN, gT, gAll, kC, kX, kD, kG, kS, scl, k1, k2, L.get, L.take, T.toD, aNil, aCons, kTup, kLst, bVal, bAnd, bOr, bNot, kAnd, kOr, kNot, kIf, boolOf, kCall, cNil, cV, cMv, cPass, lend, back, resL, outs, endOf, srcAt, kSGet, kSLen, kInt, SF.get, SF.put, bl, nm, if_true, if_false, Bool.false_eq_true, Bool.not_true, Bool.not_false, D_item_fault, ses1, ei, t1, t2, enc0, enc1, e1, e2, n1, ni, szOk1, szOk2]
          rfl
      | false =>
        have e2 := wd.xfd
        rw [h2] at e2
        cases h3 : x.isKp with
        | true =>
          rw [fault_kp ht h3]
          have e3 := wd.xkp
          rw [h3] at e3
          have sv : Sk "promise" := w_promise.sk
          have n1 := names_ok (w := w) (i := i) sv o hl
          have ni : pNotIn (.str x.name) (.list ((nms (fun x => decide (x.word = "promise")) (l.take i)).map .str)) = bl (!decide (x.name ∈ nms (isW "promise") (l.take i))) := notIn_strsL ox.nk (nms_sk ot)
          by_cases hb : x.name ∈ nms (isW "promise") (l.take i)
          · rw [decide_eq_true hb] at ni
            rw [if_pos hb]
            simp only [run_mk, List.map_cons, List.map_nil, List.length_cons, List.length_nil, List.cons_append, List.nil_append, List.replicate_succ, List.replicate_zero, Nat.reduceAdd, Nat.reduceSub, List.getElem?_cons_zero, List.getElem?_cons_succ, List.set_cons_zero, List.set_cons_succ, R.bind_ok, sCons, sNil, sIf, sRet, retL, dropL, sSet, setL, sDrop, sUnp, sPar, lNil, lCons, kF, putL, gN, gT, gAll, kC, kX, kD, kG, kS, scl, k1, k2, L.get, L.take, T.toD, aNil, aCons, kTup, kLst, bVal, bAnd, bOr, bNot, kAnd, kOr, kNot, kIf, boolOf, kCall, cNil, cV, cMv, cPass, lend, back, resL, outs, endOf, srcAt, kSGet, kSLen, kInt, SF.get, SF.put, bl, nm, if_true, if_false, Bool.false_eq_true, Bool.not_true, Bool.not_false, D_item_fault, ses1, ei, t1, t2, enc0, enc1, e1, e2, e3, n1, ni, ftE]
          · rw [decide_eq_false hb] at ni
            rw [if_neg hb]
            simp only [run_mk, List.map_cons, List.map_nil, List.length_cons, List.length_nil, List.cons_append, List.nil_append, List.replicate_succ, List.replicate_zero, Nat.reduceAdd, Nat.reduceSub, List.getElem?_cons_zero, List.getElem?_cons_succ, List.set_cons_zero, List.set_cons_succ, R.bind_ok, sCons, sNil, sIf, sRet, retL, dropL, sSet, setL, sDrop, sUnp, sPar, lNil, lCons, kF, putL, gN, gT, gAll, kC, kX, kD, kG, kS, scl, k1, k2, L.get, L.take, T.toD, aNil, aCons, kTup, kLst, bVal, bAnd, bOr, bNot, kAnd, kOr, kNot, kIf, boolOf, kCall, cNil, cV, cMv, cPass, lend, back, resL, outs, endOf, srcAt, kSGet, kSLen, kInt, SF.get, SF.put, bl, nm, if_true, if_false, Bool.false_eq_true, Bool.not_true, Bool.not_false, D_item_fault, ses1, ei, t1, t2, enc0, enc1, e1, e2, e3, n1, ni, szOk1, szOk2]
            rfl
        | false =>
          rw [fault_el ht h1 h2 h3, lack_find]
          have e3 := wd.xkp
          rw [h3] at e3
          have hc := comp_map (g := gT [(gN 5), (gN 6)]) (c := some (bVal (k2 pNotIn (kX 6) (kX 3)))) (f := kX 5) (own := [5, 6]) (s := [some (.val (sesE w l)), some (.val (.int (i : Nat))), some (.val x.enc), some (.dct (dcs It.isPP (l.take i))), none, none, none])
            saidE (fun y => [some (.val (sesE w l)), some (.val (.int (i : Nat))), some (.val x.enc), some (.dct (dcs It.isPP (l.take i))), none, some (.val (plE y.1)), some (.val (.str y.2))]) (lacks (l.take i)) (fun y => plE y.1) rfl (xs := x.said) (fun y hy => by
              refine ⟨rfl, rfl, ?_, fun _ => ?_⟩
              · simp only [bOf, run_mk, List.map_cons, List.map_nil, List.length_cons, List.length_nil, List.cons_append, List.nil_append, List.replicate_succ, List.replicate_zero, Nat.reduceAdd, Nat.reduceSub, List.getElem?_cons_zero, List.getElem?_cons_succ, List.set_cons_zero, List.set_cons_succ, R.bind_ok, sCons, sNil, sIf, sRet, retL, dropL, sSet, setL, sDrop, sUnp, sPar, lNil, lCons, kF, putL, gN, gT, gAll, kC, kX, kD, kG, kS, scl, k1, k2, L.get, L.take, T.toD, aNil, aCons, kTup, kLst, bVal, bAnd, bOr, bNot, kAnd, kOr, kNot, kIf, boolOf, kCall, cNil, cV, cMv, cPass, lend, back, resL, outs, endOf, srcAt, kSGet, kSLen, kInt, SF.get, SF.put, bl, nm, if_true, if_false, Bool.false_eq_true, Bool.not_true, Bool.not_false, notIn_dict, has_dcs, lacks]
              · simp only [run_mk, List.map_cons, List.map_nil, List.length_cons, List.length_nil, List.cons_append, List.nil_append, List.replicate_succ, List.replicate_zero, Nat.reduceAdd, Nat.reduceSub, List.getElem?_cons_zero, List.getElem?_cons_succ, List.set_cons_zero, List.set_cons_succ, R.bind_ok, sCons, sNil, sIf, sRet, retL, dropL, sSet, setL, sDrop, sUnp, sPar, lNil, lCons, kF, putL, gN, gT, gAll, kC, kX, kD, kG, kS, scl, k1, k2, L.get, L.take, T.toD, aNil, aCons, kTup, kLst, bVal, bAnd, bOr, bNot, kAnd, kOr, kNot, kIf, boolOf, kCall, cNil, cV, cMv, cPass, lend, back, resL, outs, endOf, srcAt, kSGet, kSLen, kInt, SF.get, SF.put, bl, nm, if_true, if_false, Bool.false_eq_true, Bool.not_true, Bool.not_false])
          have hz : szOk ((x.said.filter (lacks (l.take i))).map (fun y => plE y.1)).length = true := szOk_of (by
            rw [List.length_map]
            have h1 := List.length_filter_le (lacks (l.take i)) x.said
            have h2 := said_len (x := x)
            omega)
          have hm : (x.said.filter (lacks (l.take i))).map (fun y => plE y.1) = ((x.said.filter (lacks (l.take i))).map (·.1)).map plE := by rw [List.map_map]; rfl
          rw [hm] at hc hz
          have so := said_ok ox
          generalize hps : (x.said.filter (lacks (l.take i))).map (·.1) = ps at hc hz ⊢
          have np := ne_pls (ps := ps) (fun p hp => by
            rw [← hps] at hp
            obtain ⟨y, hy, rfl⟩ := List.mem_map.mp hp
            exact said_pl y (List.mem_filter.mp hy).1)
          cases ps with
          | nil =>
            simp only [List.map_nil, List.isEmpty_nil] at hc hz np
            simp only [run_mk, List.map_cons, List.map_nil, List.length_cons, List.length_nil, List.cons_append, List.nil_append, List.replicate_succ, List.replicate_zero, Nat.reduceAdd, Nat.reduceSub, List.getElem?_cons_zero, List.getElem?_cons_succ, List.set_cons_zero, List.set_cons_succ, R.bind_ok, sCons, sNil, sIf, sRet, retL, dropL, sSet, setL, sDrop, sUnp, sPar, lNil, lCons, kF, putL, gN, gT, gAll, kC, kX, kD, kG, kS, scl, k1, k2, L.get, L.take, T.toD, aNil, aCons, kTup, kLst, bVal, bAnd, bOr, bNot, kAnd, kOr, kNot, kIf, boolOf, kCall, cNil, cV, cMv, cPass, lend, back, resL, outs, endOf, srcAt, kSGet, kSLen, kInt, SF.get, SF.put, bl, nm, if_true, if_false, Bool.false_eq_true, Bool.not_true, Bool.not_false, D_item_fault, ses1, ei, t1, t2, enc0, e1, e2, e3, so, kComp, iSeq, seq_l, hc, szOk0, np, List.head?_nil, Option.map_none, ftE]
          | cons p ps =>
            simp only [List.map_cons, List.isEmpty_cons] at hc hz np
            simp only [List.length_cons] at hz
            simp only [run_mk, List.map_cons, List.map_nil, List.length_cons, List.length_nil, List.cons_append, List.nil_append, List.replicate_succ, List.replicate_zero, Nat.reduceAdd, Nat.reduceSub, List.getElem?_cons_zero, List.getElem?_cons_succ, List.set_cons_zero, List.set_cons_succ, R.bind_ok, sCons, sNil, sIf, sRet, retL, dropL, sSet, setL, sDrop, sUnp, sPar, lNil, lCons, kF, putL, gN, gT, gAll, kC, kX, kD, kG, kS, scl, k1, k2, L.get, L.take, T.toD, aNil, aCons, kTup, kLst, bVal, bAnd, bOr, bNot, kAnd, kOr, kNot, kIf, boolOf, kCall, cNil, cV, cMv, cPass, lend, back, resL, outs, endOf, srcAt, kSGet, kSLen, kInt, SF.get, SF.put, bl, nm, if_true, if_false, Bool.false_eq_true, Bool.not_true, Bool.not_false, D_item_fault, ses1, ei, t1, t2, enc0, e1, e2, e3, so, kComp, iSeq, seq_l, hc, hz, szOk0, szOk2, np, ixl0, List.head?_cons, Option.map_some, ftE]
/-! ### the law's own fault -/
def tb (l : List It) : Tab := ⟨"programs", "promise", "stream", dcs It.isPP l, dcs (isW "promise") l, dcs (isW "stream") l⟩
abbrev lfS : SV := (sIf (bVal (k2 pEq (k2 pIx (kX 0) (kC (.int 0))) (kC (.str "pipe")))) (sCons (sSet 3 (kComp (iRg2 (kC (.int 1)) (k1 pLen (k2 pIx (kX 0) (kC (.int 2))))) (gN 7) none (kTup (aCons (kTup (aCons (kC (.int 2)) (aCons (kX 7) aNil))) (aCons (k2 pIx (k2 pIx (kX 0) (kC (.int 2))) (kX 7)) aNil))) [7])) sNil) (sCons (sIf (bVal (k2 pEq (k2 pIx (kX 0) (kC (.int 0))) (kC (.str "promise")))) (sCons (sSet 3 (kComp (iSeq (kTup (aCons (kC (.int 2)) (aCons (kC (.int 3)) (aCons (kC (.int 4)) aNil))))) (gN 7) none (kTup (aCons (kTup (aCons (kX 7) aNil)) (aCons (k2 pIx (kX 0) (kX 7)) aNil))) [7])) sNil) (sCons (sIf (bVal (k2 pEq (k2 pIx (kX 0) (kC (.int 0))) (kC (.str "stream")))) (sCons (sSet 3 (kLst (aCons (kTup (aCons (kTup (aCons (kC (.int 2)) aNil)) (aCons (k2 pIx (kX 0) (kC (.int 2))) aNil))) aNil))) sNil) (sCons (sIf (bVal (k2 pIn (k2 pIx (kX 0) (kC (.int 0))) (kTup (aCons (kC (.str "within")) (aCons (kC (.str "alike")) aNil))))) (sCons (sSet 3 (kLst (aCons (kTup (aCons (kTup (aCons (kC (.int 1)) aNil)) (aCons (k2 pIx (kX 0) (kC (.int 1))) aNil))) (aCons (kTup (aCons (kTup (aCons (kC (.int 2)) aNil)) (aCons (k2 pIx (kX 0) (kC (.int 2))) aNil))) aNil)))) sNil) (sCons (sIf (bVal (k2 pIn (k2 pIx (kX 0) (kC (.int 0))) (kTup (aCons (kC (.str "feed")) (aCons (kC (.str "back")) (aCons (kC (.str "at")) aNil)))))) (sCons (sRet (kIf (bVal (k2 pIn (k2 pIx (kX 0) (kC (.int 1))) (k2 pIx (kX 1) (kC (.str "stream"))))) (kC .none) (kTup (aCons (kTup (aCons (kC (.int 1)) aNil)) (aCons (kC (.str "stream")) aNil))))) sNil) (sCons (sIf (bVal (k2 pEq (k2 pIx (kX 0) (kC (.int 0))) (kC (.str "kept")))) (sCons (sRet (kIf (bVal (k2 pIn (k2 pIx (kX 0) (kC (.int 1))) (k2 pIx (kX 1) (kC (.str "promise"))))) (kC .none) (kTup (aCons (kTup (aCons (kC (.int 1)) aNil)) (aCons (kC (.str "promise")) aNil))))) sNil) (sCons (sIf (bVal (k2 pNe (k2 pIx (kX 0) (kC (.int 0))) (kC (.str "program")))) (sCons (sSet 3 (kLst (aCons (kTup (aCons (kTup (aCons (kC (.int 1)) aNil)) (aCons (k2 pIx (kX 0) (kC (.int 1))) aNil))) aNil))) sNil) sNil) sNil)) sNil)) sNil)) sNil)) sNil)) sNil))
theorem lf_said {x : It} (ox : OkI x) (h2 : x.isFd = false) (h3 : x.isKp = false) {v1 v2 : D} : lfS [some (.val x.enc), some (.val v1), some (.val v2), some (.lst []), none, none, none, none] = .ok (.nx, [some (.val x.enc), some (.val v1), some (.val v2), some (.lst (x.said.map saidE)), none, none, none, none]) := by
  cases x with
  | prog na b m => kernel_rfl
  | pipe1 na w a => kernel_rfl
  | pipe2 na w a b => kernel_rfl
  | prom na a b c => kernel_rfl
  | strm na a => kernel_rfl
  | kept na => simp [It.isKp] at h3
  | feed w na r => simp [It.isFd] at h2
  | one w na r =>
    have w0 := (enc0 (x := .one w na r))
    have w1 := (enc1 (x := .one w na r))
    have wd := ox.wd
    simp only [It.word, It.name, It.isPr, It.isKp, It.isFd, It.isPi, It.isPo, It.isSt, It.isTa, It.isOn] at wd w0 w1
    simp only [run_mk, List.map_cons, List.map_nil, List.length_cons, List.length_nil, List.cons_append, List.nil_append, List.replicate_succ, List.replicate_zero, Nat.reduceAdd, Nat.reduceSub, List.getElem?_cons_zero, List.getElem?_cons_succ, List.set_cons_zero, List.set_cons_succ, R.bind_ok, sCons, sNil, sIf, sRet, retL, dropL, sSet, setL, sDrop, sUnp, sPar, lNil, lCons, kF, putL, gN, gT, gAll, kC, kX, kD, kG, kS, scl, k1, k2, L.get, L.take, T.toD, aNil, aCons, kTup, kLst, bVal, bAnd, bOr, bNot, kAnd, kOr, kNot, kIf, boolOf, kCall, cNil, cV, cMv, cPass, lend, back, resL, outs, endOf, srcAt, kSGet, kSLen, kInt, SF.get, SF.put, bl, nm, if_true, if_false, Bool.false_eq_true, Bool.not_true, Bool.not_false, lfS, w0, w1, wd.xpi, wd.xpo, wd.xst, wd.xta, wd.xfd, wd.xkp, wd.xnpr, szOk0, szOk1, szOk2, szOk3, It.said, saidE]
    rfl
  | two w na b => rcases ox.ta w na b rfl with z | z <;> subst z <;> kernel_rfl
theorem tb_p {l : List It} : pIx (tabD (tb l)) (.str "programs") = .ok (.d (.dict (dcs It.isPP l))) := by kernel_rfl
theorem tb_q {l : List It} : pIx (tabD (tb l)) (.str "promise") = .ok (.d (.dict (dcs (isW "promise") l))) := by kernel_rfl
theorem tb_r {l : List It} : pIx (tabD (tb l)) (.str "stream") = .ok (.d (.dict (dcs (isW "stream") l))) := by kernel_rfl
theorem in_dcs {f : It → Bool} {l : List It} {x : Str} : pIn (.str x) (.dict (dcs f l)) = bl (decide (x ∈ nms f l)) := by rw [in_dict, has_dcs]
theorem tb_w {l : List It} {x : It} (h : x.isPS = true) : pIx (tabD (tb l)) (.str x.word) = .ok (.d (.dict (dcs (isW x.word) l))) := by
  cases x with
  | prom na a b c => exact tb_q
  | strm na a => exact tb_r
  | _ => simp [It.isPS] at h
abbrev lA0 : SV := (sSet 2 (k2 pIx (kX 1) (kC (.str "programs"))))
abbrev lA1 : SV := (sIf (bAnd (bVal (k2 pIn (k2 pIx (kX 0) (kC (.int 0))) (kTup (aCons (kC (.str "program")) (aCons (kC (.str "pipe")) aNil))))) (bVal (k2 pIn (k2 pIx (kX 0) (kC (.int 1))) (kX 2)))) (sCons (sRet (kTup (aCons (kTup (aCons (kC (.int 1)) aNil)) (aCons (kC (.str "twice")) aNil)))) sNil) sNil)
abbrev lA2 : SV := (sIf (bAnd (bVal (k2 pIn (k2 pIx (kX 0) (kC (.int 0))) (kTup (aCons (kC (.str "promise")) (aCons (kC (.str "stream")) aNil))))) (bVal (k2 pIn (k2 pIx (kX 0) (kC (.int 1))) (k2 pIx (kX 1) (k2 pIx (kX 0) (kC (.int 0))))))) (sCons (sRet (kTup (aCons (kTup (aCons (kC (.int 1)) aNil)) (aCons (kC (.str "twice")) aNil)))) sNil) sNil)
abbrev lA3 : SV := (sSet 3 (kLst aNil))
abbrev lA5 : SV := (sSet 4 (kComp (iSeq (kX 3)) (gT [(gN 5), (gN 6)]) (some (bVal (k2 pNotIn (kX 6) (kX 2)))) (kX 5) [5, 6]))
abbrev lA6 : SV := (sRet (kIf (bVal (k2 pNe (kX 4) (kLst aNil))) (kTup (aCons (k2 pIx (kX 4) (kC (.int 0))) (aCons (kC (.str "program")) aNil))) (kC .none)))
theorem lf_eq : D_u_law_fault = ⟨8, [], sCons lA0 (sCons lA1 (sCons lA2 (sCons lA3 (sCons lfS (sCons lA5 (sCons lA6 sNil))))))⟩ := rfl
abbrev fs1 (l : List It) (x : It) (v3 : Option T) : Sl := [some (.val x.enc), some (.val (tabD (tb l))), some (.val (.dict (dcs It.isPP l))), v3, none, none, none, none]
theorem ft_tw : ftE (some (([1], ("twice" : Str)) : Ft)) = .tuple [.tuple [.int 1], .str "twice"] := rfl
theorem a1_ok {l : List It} {x : It} (ox : OkI x) : lA1 (fs1 l x none) = .ok (if x.isPP = true ∧ x.name ∈ nms It.isPP l then (.rt (.val (ftE (some (([1], ("twice" : Str)) : Ft)))), fs1 l x none) else (.nx, fs1 l x none)) := by
  have e1 := ox.wd.xpp
  cases hpp : x.isPP with
  | true =>
    rw [hpp] at e1
    by_cases hb : x.name ∈ nms It.isPP l
    · rw [if_pos ⟨rfl, hb⟩, ft_tw]
      have d1 := decide_eq_true hb
      simp only [run_mk, List.map_cons, List.map_nil, List.length_cons, List.length_nil, List.cons_append, List.nil_append, List.replicate_succ, List.replicate_zero, Nat.reduceAdd, Nat.reduceSub, List.getElem?_cons_zero, List.getElem?_cons_succ, List.set_cons_zero, List.set_cons_succ, R.bind_ok, sCons, sNil, sIf, sRet, retL, dropL, sSet, setL, sDrop, sUnp, sPar, lNil, lCons, kF, putL, gN, gT, gAll, kC, kX, kD, kG, kS, scl, k1, k2, L.get, L.take, T.toD, aNil, aCons, kTup, kLst, bVal, bAnd, bOr, bNot, kAnd, kOr, kNot, kIf, boolOf, kCall, cNil, cV, cMv, cPass, lend, back, resL, outs, endOf, srcAt, kSGet, kSLen, kInt, SF.get, SF.put, bl, nm, if_true, if_false, Bool.false_eq_true, Bool.not_true, Bool.not_false, lA1, enc0, enc1, szOk1, szOk2, e1, in_dcs, d1]
    · rw [if_neg fun z => hb z.2]
      have d1 := decide_eq_false hb
      simp only [run_mk, List.map_cons, List.map_nil, List.length_cons, List.length_nil, List.cons_append, List.nil_append, List.replicate_succ, List.replicate_zero, Nat.reduceAdd, Nat.reduceSub, List.getElem?_cons_zero, List.getElem?_cons_succ, List.set_cons_zero, List.set_cons_succ, R.bind_ok, sCons, sNil, sIf, sRet, retL, dropL, sSet, setL, sDrop, sUnp, sPar, lNil, lCons, kF, putL, gN, gT, gAll, kC, kX, kD, kG, kS, scl, k1, k2, L.get, L.take, T.toD, aNil, aCons, kTup, kLst, bVal, bAnd, bOr, bNot, kAnd, kOr, kNot, kIf, boolOf, kCall, cNil, cV, cMv, cPass, lend, back, resL, outs, endOf, srcAt, kSGet, kSLen, kInt, SF.get, SF.put, bl, nm, if_true, if_false, Bool.false_eq_true, Bool.not_true, Bool.not_false, lA1, enc0, enc1, szOk1, szOk2, e1, in_dcs, d1]
  | false =>
    rw [hpp] at e1
    rw [if_neg fun z => nomatch z.1]
    simp only [run_mk, List.map_cons, List.map_nil, List.length_cons, List.length_nil, List.cons_append, List.nil_append, List.replicate_succ, List.replicate_zero, Nat.reduceAdd, Nat.reduceSub, List.getElem?_cons_zero, List.getElem?_cons_succ, List.set_cons_zero, List.set_cons_succ, R.bind_ok, sCons, sNil, sIf, sRet, retL, dropL, sSet, setL, sDrop, sUnp, sPar, lNil, lCons, kF, putL, gN, gT, gAll, kC, kX, kD, kG, kS, scl, k1, k2, L.get, L.take, T.toD, aNil, aCons, kTup, kLst, bVal, bAnd, bOr, bNot, kAnd, kOr, kNot, kIf, boolOf, kCall, cNil, cV, cMv, cPass, lend, back, resL, outs, endOf, srcAt, kSGet, kSLen, kInt, SF.get, SF.put, bl, nm, if_true, if_false, Bool.false_eq_true, Bool.not_true, Bool.not_false, lA1, enc0, enc1, szOk1, szOk2, e1]
theorem a2_ok {l : List It} {x : It} (ox : OkI x) : lA2 (fs1 l x none) = .ok (if x.isPS = true ∧ x.name ∈ nms (isW x.word) l then (.rt (.val (ftE (some (([1], ("twice" : Str)) : Ft)))), fs1 l x none) else (.nx, fs1 l x none)) := by
  have e1 := ox.wd.xps
  cases hpp : x.isPS with
  | true =>
    have tw := tb_w (l := l) hpp
    rw [hpp] at e1
    by_cases hb : x.name ∈ nms (isW x.word) l
    · rw [if_pos ⟨rfl, hb⟩, ft_tw]
      have d1 := decide_eq_true hb
      simp only [run_mk, List.map_cons, List.map_nil, List.length_cons, List.length_nil, List.cons_append, List.nil_append, List.replicate_succ, List.replicate_zero, Nat.reduceAdd, Nat.reduceSub, List.getElem?_cons_zero, List.getElem?_cons_succ, List.set_cons_zero, List.set_cons_succ, R.bind_ok, sCons, sNil, sIf, sRet, retL, dropL, sSet, setL, sDrop, sUnp, sPar, lNil, lCons, kF, putL, gN, gT, gAll, kC, kX, kD, kG, kS, scl, k1, k2, L.get, L.take, T.toD, aNil, aCons, kTup, kLst, bVal, bAnd, bOr, bNot, kAnd, kOr, kNot, kIf, boolOf, kCall, cNil, cV, cMv, cPass, lend, back, resL, outs, endOf, srcAt, kSGet, kSLen, kInt, SF.get, SF.put, bl, nm, if_true, if_false, Bool.false_eq_true, Bool.not_true, Bool.not_false, lA2, enc0, enc1, szOk1, szOk2, e1, tw, in_dcs, d1]
    · rw [if_neg fun z => hb z.2]
      have d1 := decide_eq_false hb
      simp only [run_mk, List.map_cons, List.map_nil, List.length_cons, List.length_nil, List.cons_append, List.nil_append, List.replicate_succ, List.replicate_zero, Nat.reduceAdd, Nat.reduceSub, List.getElem?_cons_zero, List.getElem?_cons_succ, List.set_cons_zero, List.set_cons_succ, R.bind_ok, sCons, sNil, sIf, sRet, retL, dropL, sSet, setL, sDrop, sUnp, sPar, lNil, lCons, kF, putL, gN, gT, gAll, kC, kX, kD, kG, kS, scl, k1, k2, L.get, L.take, T.toD, aNil, aCons, kTup, kLst, bVal, bAnd, bOr, bNot, kAnd, kOr, kNot, kIf, boolOf, kCall, cNil, cV, cMv, cPass, lend, back, resL, outs, endOf, srcAt, kSGet, kSLen, kInt, SF.get, SF.put, bl, nm, if_true, if_false, Bool.false_eq_true, Bool.not_true, Bool.not_false, lA2, enc0, enc1, szOk1, szOk2, e1, tw, in_dcs, d1]
  | false =>
    rw [hpp] at e1
    rw [if_neg fun z => nomatch z.1]
    simp only [run_mk, List.map_cons, List.map_nil, List.length_cons, List.length_nil, List.cons_append, List.nil_append, List.replicate_succ, List.replicate_zero, Nat.reduceAdd, Nat.reduceSub, List.getElem?_cons_zero, List.getElem?_cons_succ, List.set_cons_zero, List.set_cons_succ, R.bind_ok, sCons, sNil, sIf, sRet, retL, dropL, sSet, setL, sDrop, sUnp, sPar, lNil, lCons, kF, putL, gN, gT, gAll, kC, kX, kD, kG, kS, scl, k1, k2, L.get, L.take, T.toD, aNil, aCons, kTup, kLst, bVal, bAnd, bOr, bNot, kAnd, kOr, kNot, kIf, boolOf, kCall, cNil, cV, cMv, cPass, lend, back, resL, outs, endOf, srcAt, kSGet, kSLen, kInt, SF.get, SF.put, bl, nm, if_true, if_false, Bool.false_eq_true, Bool.not_true, Bool.not_false, lA2, enc0, enc1, szOk1, szOk2, e1]
theorem tail_ok {l : List It} {x : It} : (sCons lA5 (sCons lA6 sNil)) (fs1 l x (some (.lst (x.said.map saidE)))) = .ok (.rt (.val (ftE (lackFt l x))), [some (.val x.enc), some (.val (tabD (tb l))), some (.val (.dict (dcs It.isPP l))), some (.val (.list (x.said.map saidE))), some (.lst (((x.said.filter (lacks l)).map (·.1)).map plE)), none, none, none]) := by
  have hc := comp_map (g := gT [(gN 5), (gN 6)]) (c := some (bVal (k2 pNotIn (kX 6) (kX 2)))) (f := kX 5) (own := [5, 6]) (s := fs1 l x (some (.val (.list (x.said.map saidE)))))
    saidE (fun y => [some (.val x.enc), some (.val (tabD (tb l))), some (.val (.dict (dcs It.isPP l))), some (.val (.list (x.said.map saidE))), none, some (.val (plE y.1)), some (.val (.str y.2)), none]) (lacks l) (fun y => plE y.1) rfl (xs := x.said) (fun y hy => by
      refine ⟨rfl, rfl, ?_, fun _ => ?_⟩
      · simp only [bOf, run_mk, List.map_cons, List.map_nil, List.length_cons, List.length_nil, List.cons_append, List.nil_append, List.replicate_succ, List.replicate_zero, Nat.reduceAdd, Nat.reduceSub, List.getElem?_cons_zero, List.getElem?_cons_succ, List.set_cons_zero, List.set_cons_succ, R.bind_ok, sCons, sNil, sIf, sRet, retL, dropL, sSet, setL, sDrop, sUnp, sPar, lNil, lCons, kF, putL, gN, gT, gAll, kC, kX, kD, kG, kS, scl, k1, k2, L.get, L.take, T.toD, aNil, aCons, kTup, kLst, bVal, bAnd, bOr, bNot, kAnd, kOr, kNot, kIf, boolOf, kCall, cNil, cV, cMv, cPass, lend, back, resL, outs, endOf, srcAt, kSGet, kSLen, kInt, SF.get, SF.put, bl, nm, if_true, if_false, Bool.false_eq_true, Bool.not_true, Bool.not_false, notIn_dict, has_dcs, lacks]
      · simp only [run_mk, List.map_cons, List.map_nil, List.length_cons, List.length_nil, List.cons_append, List.nil_append, List.replicate_succ, List.replicate_zero, Nat.reduceAdd, Nat.reduceSub, List.getElem?_cons_zero, List.getElem?_cons_succ, List.set_cons_zero, List.set_cons_succ, R.bind_ok, sCons, sNil, sIf, sRet, retL, dropL, sSet, setL, sDrop, sUnp, sPar, lNil, lCons, kF, putL, gN, gT, gAll, kC, kX, kD, kG, kS, scl, k1, k2, L.get, L.take, T.toD, aNil, aCons, kTup, kLst, bVal, bAnd, bOr, bNot, kAnd, kOr, kNot, kIf, boolOf, kCall, cNil, cV, cMv, cPass, lend, back, resL, outs, endOf, srcAt, kSGet, kSLen, kInt, SF.get, SF.put, bl, nm, if_true, if_false, Bool.false_eq_true, Bool.not_true, Bool.not_false])
  have hz : szOk ((x.said.filter (lacks l)).map (fun y => plE y.1)).length = true := szOk_of (by
    rw [List.length_map]
    have h1 := List.length_filter_le (lacks l) x.said
    have h2 := said_len (x := x)
    omega)
  have hm : (x.said.filter (lacks l)).map (fun y => plE y.1) = ((x.said.filter (lacks l)).map (·.1)).map plE := by rw [List.map_map]; rfl
  rw [hm] at hc hz
  rw [lack_find]
  generalize hps : (x.said.filter (lacks l)).map (·.1) = ps at hc hz ⊢
  have np := ne_pls (ps := ps) (fun p hp => by
    rw [← hps] at hp
    obtain ⟨y, hy, rfl⟩ := List.mem_map.mp hp
    exact said_pl y (List.mem_filter.mp hy).1)
  cases ps with
  | nil =>
    simp only [List.map_nil, List.isEmpty_nil] at hc hz np
    simp only [run_mk, List.map_cons, List.map_nil, List.length_cons, List.length_nil, List.cons_append, List.nil_append, List.replicate_succ, List.replicate_zero, Nat.reduceAdd, Nat.reduceSub, List.getElem?_cons_zero, List.getElem?_cons_succ, List.set_cons_zero, List.set_cons_succ, R.bind_ok, sCons, sNil, sIf, sRet, retL, dropL, sSet, setL, sDrop, sUnp, sPar, lNil, lCons, kF, putL, gN, gT, gAll, kC, kX, kD, kG, kS, scl, k1, k2, L.get, L.take, T.toD, aNil, aCons, kTup, kLst, bVal, bAnd, bOr, bNot, kAnd, kOr, kNot, kIf, boolOf, kCall, cNil, cV, cMv, cPass, lend, back, resL, outs, endOf, srcAt, kSGet, kSLen, kInt, SF.get, SF.put, bl, nm, if_true, if_false, Bool.false_eq_true, Bool.not_true, Bool.not_false, lA5, lA6, kComp, iSeq, seq_l, hc, szOk0, np, List.head?_nil, Option.map_none, ftE]
  | cons p ps =>
    simp only [List.map_cons, List.isEmpty_cons] at hc hz np
    simp only [List.length_cons] at hz
    simp only [run_mk, List.map_cons, List.map_nil, List.length_cons, List.length_nil, List.cons_append, List.nil_append, List.replicate_succ, List.replicate_zero, Nat.reduceAdd, Nat.reduceSub, List.getElem?_cons_zero, List.getElem?_cons_succ, List.set_cons_zero, List.set_cons_succ, R.bind_ok, sCons, sNil, sIf, sRet, retL, dropL, sSet, setL, sDrop, sUnp, sPar, lNil, lCons, kF, putL, gN, gT, gAll, kC, kX, kD, kG, kS, scl, k1, k2, L.get, L.take, T.toD, aNil, aCons, kTup, kLst, bVal, bAnd, bOr, bNot, kAnd, kOr, kNot, kIf, boolOf, kCall, cNil, cV, cMv, cPass, lend, back, resL, outs, endOf, srcAt, kSGet, kSLen, kInt, SF.get, SF.put, bl, nm, if_true, if_false, Bool.false_eq_true, Bool.not_true, Bool.not_false, lA5, lA6, kComp, iSeq, seq_l, hc, hz, szOk0, szOk2, np, ixl0, List.head?_cons, Option.map_some, ftE]
theorem lf_fd {l : List It} {x : It} (ox : OkI x) (h : x.isFd = true) : lfS (fs1 l x (some (.lst []))) = .ok (.rt (.val (ftE (if x.name ∈ nms (isW "stream") l then none else some (([1], ("stream" : Str)) : Ft)))), fs1 l x (some (.lst []))) := by
  cases x with
  | feed w na r =>
    have w0 := (enc0 (x := .feed w na r))
    have w1 := (enc1 (x := .feed w na r))
    have wd := ox.wd
    simp only [It.word, It.name, It.isPr, It.isKp, It.isFd, It.isPi, It.isPo, It.isSt, It.isTa, It.isOn] at wd w0 w1
    by_cases hb : (It.feed w na r).name ∈ nms (isW "stream") l
    · have d1 := decide_eq_true (show na ∈ nms (isW "stream") l from hb)
      rw [if_pos hb]
      simp only [run_mk, List.map_cons, List.map_nil, List.length_cons, List.length_nil, List.cons_append, List.nil_append, List.replicate_succ, List.replicate_zero, Nat.reduceAdd, Nat.reduceSub, List.getElem?_cons_zero, List.getElem?_cons_succ, List.set_cons_zero, List.set_cons_succ, R.bind_ok, sCons, sNil, sIf, sRet, retL, dropL, sSet, setL, sDrop, sUnp, sPar, lNil, lCons, kF, putL, gN, gT, gAll, kC, kX, kD, kG, kS, scl, k1, k2, L.get, L.take, T.toD, aNil, aCons, kTup, kLst, bVal, bAnd, bOr, bNot, kAnd, kOr, kNot, kIf, boolOf, kCall, cNil, cV, cMv, cPass, lend, back, resL, outs, endOf, srcAt, kSGet, kSLen, kInt, SF.get, SF.put, bl, nm, if_true, if_false, Bool.false_eq_true, Bool.not_true, Bool.not_false, lfS, w0, w1, wd.xpi, wd.xpo, wd.xst, wd.xta, wd.xfd, tb_r, in_dcs, d1, szOk2, szOk3, ftE]
    · have d1 := decide_eq_false (show na ∉ nms (isW "stream") l from hb)
      rw [if_neg hb]
      simp only [run_mk, List.map_cons, List.map_nil, List.length_cons, List.length_nil, List.cons_append, List.nil_append, List.replicate_succ, List.replicate_zero, Nat.reduceAdd, Nat.reduceSub, List.getElem?_cons_zero, List.getElem?_cons_succ, List.set_cons_zero, List.set_cons_succ, R.bind_ok, sCons, sNil, sIf, sRet, retL, dropL, sSet, setL, sDrop, sUnp, sPar, lNil, lCons, kF, putL, gN, gT, gAll, kC, kX, kD, kG, kS, scl, k1, k2, L.get, L.take, T.toD, aNil, aCons, kTup, kLst, bVal, bAnd, bOr, bNot, kAnd, kOr, kNot, kIf, boolOf, kCall, cNil, cV, cMv, cPass, lend, back, resL, outs, endOf, srcAt, kSGet, kSLen, kInt, SF.get, SF.put, bl, nm, if_true, if_false, Bool.false_eq_true, Bool.not_true, Bool.not_false, lfS, w0, w1, wd.xpi, wd.xpo, wd.xst, wd.xta, wd.xfd, tb_r, in_dcs, d1, szOk1, szOk2, szOk3]
      rfl
  | _ => simp [It.isFd] at h
theorem lf_kp {l : List It} {x : It} (ox : OkI x) (h : x.isKp = true) : lfS (fs1 l x (some (.lst []))) = .ok (.rt (.val (ftE (if x.name ∈ nms (isW "promise") l then none else some (([1], ("promise" : Str)) : Ft)))), fs1 l x (some (.lst []))) := by
  cases x with
  | kept na =>
    have w0 := (enc0 (x := .kept na))
    have w1 := (enc1 (x := .kept na))
    have wd := ox.wd
    simp only [It.word, It.name, It.isPr, It.isKp, It.isFd, It.isPi, It.isPo, It.isSt, It.isTa, It.isOn] at wd w0 w1
    by_cases hb : (It.kept na).name ∈ nms (isW "promise") l
    · have d1 := decide_eq_true (show na ∈ nms (isW "promise") l from hb)
      rw [if_pos hb]
      simp only [run_mk, List.map_cons, List.map_nil, List.length_cons, List.length_nil, List.cons_append, List.nil_append, List.replicate_succ, List.replicate_zero, Nat.reduceAdd, Nat.reduceSub, List.getElem?_cons_zero, List.getElem?_cons_succ, List.set_cons_zero, List.set_cons_succ, R.bind_ok, sCons, sNil, sIf, sRet, retL, dropL, sSet, setL, sDrop, sUnp, sPar, lNil, lCons, kF, putL, gN, gT, gAll, kC, kX, kD, kG, kS, scl, k1, k2, L.get, L.take, T.toD, aNil, aCons, kTup, kLst, bVal, bAnd, bOr, bNot, kAnd, kOr, kNot, kIf, boolOf, kCall, cNil, cV, cMv, cPass, lend, back, resL, outs, endOf, srcAt, kSGet, kSLen, kInt, SF.get, SF.put, bl, nm, if_true, if_false, Bool.false_eq_true, Bool.not_true, Bool.not_false, lfS, w0, w1, wd.xpi, wd.xpo, wd.xst, wd.xta, wd.xfd, wd.xkp, tb_q, in_dcs, d1, szOk2, szOk3, ftE]
    · have d1 := decide_eq_false (show na ∉ nms (isW "promise") l from hb)
      rw [if_neg hb]
      simp only [run_mk, List.map_cons, List.map_nil, List.length_cons, List.length_nil, List.cons_append, List.nil_append, List.replicate_succ, List.replicate_zero, Nat.reduceAdd, Nat.reduceSub, List.getElem?_cons_zero, List.getElem?_cons_succ, List.set_cons_zero, List.set_cons_succ, R.bind_ok, sCons, sNil, sIf, sRet, retL, dropL, sSet, setL, sDrop, sUnp, sPar, lNil, lCons, kF, putL, gN, gT, gAll, kC, kX, kD, kG, kS, scl, k1, k2, L.get, L.take, T.toD, aNil, aCons, kTup, kLst, bVal, bAnd, bOr, bNot, kAnd, kOr, kNot, kIf, boolOf, kCall, cNil, cV, cMv, cPass, lend, back, resL, outs, endOf, srcAt, kSGet, kSLen, kInt, SF.get, SF.put, bl, nm, if_true, if_false, Bool.false_eq_true, Bool.not_true, Bool.not_false, lfS, w0, w1, wd.xpi, wd.xpo, wd.xst, wd.xta, wd.xfd, wd.xkp, tb_q, in_dcs, d1, szOk1, szOk2, szOk3]
      rfl
  | _ => simp [It.isKp] at h
theorem lfault_ok {l : List It} {x : It} (ox : OkI x) : D_u_law_fault.run [.val x.enc, .val (tabD (tb l))] = .ok (.val (ftE (fault l x)), []) := by
  rw [lf_eq]
  have i0 : lA0 ([T.val x.enc, T.val (tabD (tb l))].map some ++ List.replicate (8 - [T.val x.enc, T.val (tabD (tb l))].length) none) = .ok (.nx, fs1 l x none) := by
    simp only [run_mk, List.map_cons, List.map_nil, List.length_cons, List.length_nil, List.cons_append, List.nil_append, List.replicate_succ, List.replicate_zero, Nat.reduceAdd, Nat.reduceSub, List.getElem?_cons_zero, List.getElem?_cons_succ, List.set_cons_zero, List.set_cons_succ, R.bind_ok, sCons, sNil, sIf, sRet, retL, dropL, sSet, setL, sDrop, sUnp, sPar, lNil, lCons, kF, putL, gN, gT, gAll, kC, kX, kD, kG, kS, scl, k1, k2, L.get, L.take, T.toD, aNil, aCons, kTup, kLst, bVal, bAnd, bOr, bNot, kAnd, kOr, kNot, kIf, boolOf, kCall, cNil, cV, cMv, cPass, lend, back, resL, outs, endOf, srcAt, kSGet, kSLen, kInt, SF.get, SF.put, bl, nm, if_true, if_false, Bool.false_eq_true, Bool.not_true, Bool.not_false, lA0, tb_p]
  have i1 := a1_ok (l := l) ox
  have i2 := a2_ok (l := l) ox
  have i3 : lA3 (fs1 l x none) = .ok (.nx, fs1 l x (some (.lst []))) := by simp only [run_mk, List.map_cons, List.map_nil, List.length_cons, List.length_nil, List.cons_append, List.nil_append, List.replicate_succ, List.replicate_zero, Nat.reduceAdd, Nat.reduceSub, List.getElem?_cons_zero, List.getElem?_cons_succ, List.set_cons_zero, List.set_cons_succ, R.bind_ok, sCons, sNil, sIf, sRet, retL, dropL, sSet, setL, sDrop, sUnp, sPar, lNil, lCons, kF, putL, gN, gT, gAll, kC, kX, kD, kG, kS, scl, k1, k2, L.get, L.take, T.toD, aNil, aCons, kTup, kLst, bVal, bAnd, bOr, bNot, kAnd, kOr, kNot, kIf, boolOf, kCall, cNil, cV, cMv, cPass, lend, back, resL, outs, endOf, srcAt, kSGet, kSLen, kInt, SF.get, SF.put, bl, nm, if_true, if_false, Bool.false_eq_true, Bool.not_true, Bool.not_false, lA3, szOk0]
  have tw2 : twice l x = true → fault l x = some (([1], ("twice" : Str)) : Ft) := fun h => by simp [fault, h]
  by_cases h1 : x.isPP = true ∧ x.name ∈ nms It.isPP l
  · rw [if_pos h1] at i1
    rw [tw2 (by simp [twice, h1.1, h1.2])]
    exact run_rt ((sCons_nx i0).trans (sCons_rt i1)) rfl
  rw [if_neg h1] at i1
  by_cases h2 : x.isPS = true ∧ x.name ∈ nms (isW x.word) l
  · have hp : x.isPP = false := by
      have := h2.1
      cases x <;> simp_all [It.isPS, It.isPP]
    rw [if_pos h2] at i2
    rw [tw2 (by simp [twice, hp, h2.1, h2.2])]
    exact run_rt ((sCons_nx i0).trans ((sCons_nx i1).trans (sCons_rt i2))) rfl
  rw [if_neg h2] at i2
  have htw : twice l x = false := by
    unfold twice
    by_cases hp : x.isPP = true
    · rw [if_pos hp]
      exact decide_eq_false fun z => h1 ⟨hp, z⟩
    · rw [if_neg hp]
      cases hq : x.isPS with
      | false => rfl
      | true => exact decide_eq_false fun z => h2 ⟨hq, z⟩
  cases hf : x.isFd with
  | true =>
    rw [fault_fd htw hf]
    exact run_rt ((sCons_nx i0).trans ((sCons_nx i1).trans ((sCons_nx i2).trans ((sCons_nx i3).trans (sCons_rt (lf_fd ox hf)))))) rfl
  | false =>
    cases hk : x.isKp with
    | true =>
      rw [fault_kp htw hk]
      exact run_rt ((sCons_nx i0).trans ((sCons_nx i1).trans ((sCons_nx i2).trans ((sCons_nx i3).trans (sCons_rt (lf_kp ox hk)))))) rfl
    | false =>
      have ef : fault l x = lackFt l x := by
        cases hr : x.isPr with
        | true =>
          rw [fault_pr htw hr]
          cases x with
          | prog na b m => rfl
          | _ => simp [It.isPr] at hr
        | false => exact fault_el htw hr hf hk
      rw [ef]
      exact run_rt ((sCons_nx i0).trans ((sCons_nx i1).trans ((sCons_nx i2).trans ((sCons_nx i3).trans ((sCons_nx (lf_said ox hf hk)).trans tail_ok))))) rfl
end K06

set_option Elab.async false
set_option linter.all false
set_option maxRecDepth 100000
set_option maxHeartbeats 4000000
set_option pp.maxSteps 600
namespace K06
open PySem KV
/-! ### the first wrong item -/
def fwE : Option (Nat × Ft) → D
  | none => .none
  | some x => .tuple [.int (x.1 : Nat), plE x.2.1, .str x.2.2]
def fwF (l : List It) (i : Nat) : Option (Nat × Ft) := (l[i]?).bind fun x => (fault (l.take i) x).map fun y => (i, y)
def fw (l : List It) : Option (Nat × Ft) := findF (fwF l) 0 l.length
theorem witem_ok {w : D} {l : List It} (o : ∀ x ∈ l, OkI x) (hl : l.length ≤ 1000) : D_wrong_item.run [.val (sesE w l)] = .ok (.val (fwE (fw l)), []) := by
  have hb := for_find (g := gN 1) (b := (sCons (sSet 2 (kCall (D_item_fault).run (cV (kX 0) (cV (kX 1) cNil))))
    (sCons (sIf (bVal (k1 pNotN (kX 2))) (sCons (sRet (kTup (aCons (kX 1) (aStar (kX 2) aNil))))
    sNil) sNil)
    sNil))) (ds := intR 0 l.length) (s := [some (.val (sesE w l)), none, none])
    (fun i s => ∃ t1 t2, s = [some (.val (sesE w l)), t1, t2]) (fwF l) (fun x => .val (fwE (some x))) ⟨none, none, rfl⟩ (fun i d s hd ⟨t1, t2, e⟩ => by
      obtain ⟨il, rfl⟩ := intR_in hd
      obtain ⟨x, hx⟩ : ∃ x, l[i]? = some x := ⟨l[i], List.getElem?_eq_getElem il⟩
      have e1 := item_ok (w := w) o hl hx
      subst e
      have ef : fwF l i = (fault (l.take i) x).map fun y => (i, y) := by simp only [fwF, hx, Option.bind_some]
      rw [ef]
      cases hu : fault (l.take i) x with
      | some y =>
        rw [hu] at e1
        have e2 : seqOf (ftE (some y)) = .ok [plE y.1, .str y.2] := rfl
        simp only [run_mk, List.map_cons, List.map_nil, List.length_cons, List.length_nil, List.cons_append, List.nil_append, List.replicate_succ, List.replicate_zero, Nat.reduceAdd, Nat.reduceSub, List.getElem?_cons_zero, List.getElem?_cons_succ, List.set_cons_zero, List.set_cons_succ, R.bind_ok, sCons, sNil, sIf, sRet, retL, dropL, sSet, setL, sDrop, sUnp, sPar, lNil, lCons, kF, putL, gN, gT, gAll, kC, kX, kD, kG, kS, scl, k1, k2, L.get, L.take, T.toD, aNil, aCons, kTup, kLst, bVal, bAnd, bOr, bNot, kAnd, kOr, kNot, kIf, boolOf, kCall, cNil, cV, cMv, cPass, lend, back, resL, outs, endOf, srcAt, kSGet, kSLen, kInt, SF.get, SF.put, bl, nm, if_true, if_false, Bool.false_eq_true, Bool.not_true, Bool.not_false, e1, pNotN, e2, isN_ft, aStar, szOk3, Option.map_some, Turn, fwE, R.W_ok]
      | none =>
        rw [hu] at e1
        simp only [run_mk, List.map_cons, List.map_nil, List.length_cons, List.length_nil, List.cons_append, List.nil_append, List.replicate_succ, List.replicate_zero, Nat.reduceAdd, Nat.reduceSub, List.getElem?_cons_zero, List.getElem?_cons_succ, List.set_cons_zero, List.set_cons_succ, R.bind_ok, sCons, sNil, sIf, sRet, retL, dropL, sSet, setL, sDrop, sUnp, sPar, lNil, lCons, kF, putL, gN, gT, gAll, kC, kX, kD, kG, kS, scl, k1, k2, L.get, L.take, T.toD, aNil, aCons, kTup, kLst, bVal, bAnd, bOr, bNot, kAnd, kOr, kNot, kIf, boolOf, kCall, cNil, cV, cMv, cPass, lend, back, resL, outs, endOf, srcAt, kSGet, kSLen, kInt, SF.get, SF.put, bl, nm, if_true, if_false, Bool.false_eq_true, Bool.not_true, Bool.not_false, e1, pNotN, isN_ft0, Option.map_none, Turn, R.W_ok]
        exact ⟨.inl trivial, _, _, rfl⟩)
  rw [intR_len] at hb
  obtain ⟨⟨fl, s2⟩, e1, e2⟩ := R.W_get hb
  have zl : pLen (.tuple (l.map It.enc)) = .ok (.d (.int (l.length : Nat))) := pLenM
  have zn : (((l.length : Nat) : Int) ≤ 16000000 ∧ -16000000 ≤ ((l.length : Nat) : Int)) := ⟨by omega, by omega⟩
  have hfw : findF (fwF l) 0 l.length = fw l := rfl
  rw [hfw] at e2
  cases hu : fw l with
  | some x =>
    rw [hu] at e2
    simp only [Hit] at e2
    subst e2
    simp only [run_mk, List.map_cons, List.map_nil, List.length_cons, List.length_nil, List.cons_append, List.nil_append, List.replicate_succ, List.replicate_zero, Nat.reduceAdd, Nat.reduceSub, List.getElem?_cons_zero, List.getElem?_cons_succ, List.set_cons_zero, List.set_cons_succ, R.bind_ok, sCons, sNil, sIf, sRet, retL, dropL, sSet, setL, sDrop, sUnp, sPar, lNil, lCons, kF, putL, gN, gT, gAll, kC, kX, kD, kG, kS, scl, k1, k2, L.get, L.take, T.toD, aNil, aCons, kTup, kLst, bVal, bAnd, bOr, bNot, kAnd, kOr, kNot, kIf, boolOf, kCall, cNil, cV, cMv, cPass, lend, back, resL, outs, endOf, srcAt, kSGet, kSLen, kInt, SF.get, SF.put, bl, nm, if_true, if_false, Bool.false_eq_true, Bool.not_true, Bool.not_false, D_wrong_item, sFor, iRg1, ses1, zl, zn, and_self, Int.toNat_natCast, e1]
  | none =>
    rw [hu] at e2
    simp only [Hit] at e2
    obtain ⟨e2, _⟩ := e2
    subst e2
    simp only [run_mk, List.map_cons, List.map_nil, List.length_cons, List.length_nil, List.cons_append, List.nil_append, List.replicate_succ, List.replicate_zero, Nat.reduceAdd, Nat.reduceSub, List.getElem?_cons_zero, List.getElem?_cons_succ, List.set_cons_zero, List.set_cons_succ, R.bind_ok, sCons, sNil, sIf, sRet, retL, dropL, sSet, setL, sDrop, sUnp, sPar, lNil, lCons, kF, putL, gN, gT, gAll, kC, kX, kD, kG, kS, scl, k1, k2, L.get, L.take, T.toD, aNil, aCons, kTup, kLst, bVal, bAnd, bOr, bNot, kAnd, kOr, kNot, kIf, boolOf, kCall, cNil, cV, cMv, cPass, lend, back, resL, outs, endOf, srcAt, kSGet, kSLen, kInt, SF.get, SF.put, bl, nm, if_true, if_false, Bool.false_eq_true, Bool.not_true, Bool.not_false, D_wrong_item, sFor, iRg1, ses1, zl, zn, and_self, Int.toNat_natCast, e1, fwE]
/-! ### the law's table -/
theorem qix {e d : D} {xs : List D} {j : Nat} {i : Int} {s : Sl} (h : s[j]? = some (some (.val e))) (ht : e = .tuple xs) (hp : pIx e (.int i) = .ok (.d d)) : qIx j i s = .ok d := by
  subst ht
  unfold qIx
  rw [h]
  simp only [pIx] at hp
  cases hb : (ixD xs.length i).bind fun j => xs[j]? with
  | none => rw [hb] at hp; cases hp
  | some y => rw [hb] at hp; cases hp; simp only [hb]
theorem enc_tup {x : It} : ∃ xs, x.enc = .tuple xs := by cases x <;> exact ⟨_, rfl⟩
theorem bl_inj {a b : Bool} (h : bl a = bl b) : a = b := by
  cases h
  rfl
theorem OkI.po {x : It} (o : OkI x) : isW "promise" x = x.isPo := bl_inj (((pEq_sk o.wd.sk w_promise.sk).symm).trans o.wd.xpo)
theorem OkI.st {x : It} (o : OkI x) : isW "stream" x = x.isSt := bl_inj (((pEq_sk o.wd.sk w_stream.sk).symm).trans o.wd.xst)
theorem tb_snoc {l : List It} {x : It} (o : OkI x) : tb (l ++ [x]) = ⟨"programs", "promise", "stream", if x.isPP = true then putD (dcs It.isPP l) (.str x.name) x.enc else dcs It.isPP l, if x.isPo = true then putD (dcs (isW "promise") l) (.str x.name) x.enc else dcs (isW "promise") l, if x.isSt = true then putD (dcs (isW "stream") l) (.str x.name) x.enc else dcs (isW "stream") l⟩ := by
  unfold tb
  rw [dcs_snoc, dcs_snoc, dcs_snoc, o.po, o.st]
theorem put_p {l : List It} {k d : D} : (tb l).put "programs" k d = some ⟨"programs", "promise", "stream", putD (dcs It.isPP l) k d, dcs (isW "promise") l, dcs (isW "stream") l⟩ := by kernel_rfl
theorem put_q {l : List It} {k d : D} : (tb l).put "promise" k d = some ⟨"programs", "promise", "stream", dcs It.isPP l, putD (dcs (isW "promise") l) k d, dcs (isW "stream") l⟩ := by kernel_rfl
theorem put_r {l : List It} {k d : D} : (tb l).put "stream" k d = some ⟨"programs", "promise", "stream", dcs It.isPP l, dcs (isW "promise") l, putD (dcs (isW "stream") l) k d⟩ := by kernel_rfl
theorem key_str {x : Str} : (keyOf (.str x)).isSome = true := rfl
theorem lput_ok {l : List It} {x : It} (o : OkI x) (hl : l.length ≤ 1000) : D_u_law_put.run [.tab (tb l), .val x.enc] = .ok (.val .none, [.tab (tb (l ++ [x]))]) := by
  obtain ⟨xs, hxs⟩ := enc_tup (x := x)
  have q1 : qIx 1 1 [some (.tab (tb l)), some (.val x.enc)] = .ok (.str x.name) := qix rfl hxs enc1
  have q0 : qIx 1 0 [some (.tab (tb l)), some (.val x.enc)] = .ok (.str x.word) := qix rfl hxs enc0
  have z1 : szOk ((tb l).p.length + 1) = true := szOk_of (by have := dcs_len (f := It.isPP) (l := l); show (dcs _ _).length + 1 ≤ _; omega)
  have z2 : szOk ((tb l).q.length + 1) = true := szOk_of (by have := dcs_len (f := isW "promise") (l := l); show (dcs _ _).length + 1 ≤ _; omega)
  have z3 : szOk ((tb l).r.length + 1) = true := szOk_of (by have := dcs_len (f := isW "stream") (l := l); show (dcs _ _).length + 1 ≤ _; omega)
  have wd := o.wd
  rw [tb_snoc o]
  cases hp : x.isPP with
  | true =>
    have e1 := wd.xpp
    rw [hp] at e1
    have h1 : x.isPo = false := by cases x <;> simp_all [It.isPP, It.isPo]
    have h2 : x.isSt = false := by cases x <;> simp_all [It.isPP, It.isSt]
    simp only [run_mk, List.map_cons, List.map_nil, List.length_cons, List.length_nil, List.cons_append, List.nil_append, List.replicate_succ, List.replicate_zero, Nat.reduceAdd, Nat.reduceSub, List.getElem?_cons_zero, List.getElem?_cons_succ, List.set_cons_zero, List.set_cons_succ, R.bind_ok, sCons, sNil, sIf, sRet, retL, dropL, sSet, setL, sDrop, sUnp, sPar, lNil, lCons, kF, putL, gN, gT, gAll, kC, kX, kD, kG, kS, scl, k1, k2, L.get, L.take, T.toD, aNil, aCons, kTup, kLst, bVal, bAnd, bOr, bNot, kAnd, kOr, kNot, kIf, boolOf, kCall, cNil, cV, cMv, cPass, lend, back, resL, outs, endOf, srcAt, kSGet, kSLen, kInt, SF.get, SF.put, bl, nm, if_true, if_false, Bool.false_eq_true, Bool.not_true, Bool.not_false, D_u_law_put, enc0, szOk2, e1, sTabPut, qS, q1, z1, z2, z3, key_str, Bool.and_self, put_p, h1, h2]
  | false =>
    have e1 := wd.xpp
    rw [hp] at e1
    have e2 := wd.xps
    cases hq : x.isPS with
    | true =>
      rw [hq] at e2
      cases x with
      | prom na a b c =>
        simp only [It.isPP, It.isPo, It.isSt, It.word, It.name] at *
        simp only [run_mk, List.map_cons, List.map_nil, List.length_cons, List.length_nil, List.cons_append, List.nil_append, List.replicate_succ, List.replicate_zero, Nat.reduceAdd, Nat.reduceSub, List.getElem?_cons_zero, List.getElem?_cons_succ, List.set_cons_zero, List.set_cons_succ, R.bind_ok, sCons, sNil, sIf, sRet, retL, dropL, sSet, setL, sDrop, sUnp, sPar, lNil, lCons, kF, putL, gN, gT, gAll, kC, kX, kD, kG, kS, scl, k1, k2, L.get, L.take, T.toD, aNil, aCons, kTup, kLst, bVal, bAnd, bOr, bNot, kAnd, kOr, kNot, kIf, boolOf, kCall, cNil, cV, cMv, cPass, lend, back, resL, outs, endOf, srcAt, kSGet, kSLen, kInt, SF.get, SF.put, bl, nm, if_true, if_false, Bool.false_eq_true, Bool.not_true, Bool.not_false, D_u_law_put, enc0, szOk2, It.word, e1, e2, sTabPut, q0, q1, z1, z2, z3, key_str, Bool.and_self, put_q]
      | strm na a =>
        simp only [It.isPP, It.isPo, It.isSt, It.word, It.name] at *
        simp only [run_mk, List.map_cons, List.map_nil, List.length_cons, List.length_nil, List.cons_append, List.nil_append, List.replicate_succ, List.replicate_zero, Nat.reduceAdd, Nat.reduceSub, List.getElem?_cons_zero, List.getElem?_cons_succ, List.set_cons_zero, List.set_cons_succ, R.bind_ok, sCons, sNil, sIf, sRet, retL, dropL, sSet, setL, sDrop, sUnp, sPar, lNil, lCons, kF, putL, gN, gT, gAll, kC, kX, kD, kG, kS, scl, k1, k2, L.get, L.take, T.toD, aNil, aCons, kTup, kLst, bVal, bAnd, bOr, bNot, kAnd, kOr, kNot, kIf, boolOf, kCall, cNil, cV, cMv, cPass, lend, back, resL, outs, endOf, srcAt, kSGet, kSLen, kInt, SF.get, SF.put, bl, nm, if_true, if_false, Bool.false_eq_true, Bool.not_true, Bool.not_false, D_u_law_put, enc0, szOk2, It.word, e1, e2, sTabPut, q0, q1, z1, z2, z3, key_str, Bool.and_self, put_r]
      | _ => simp [It.isPS] at hq
    | false =>
      rw [hq] at e2
      have h1 : x.isPo = false := by cases x <;> simp_all [It.isPS, It.isPo]
      have h2 : x.isSt = false := by cases x <;> simp_all [It.isPS, It.isSt]
      simp only [run_mk, List.map_cons, List.map_nil, List.length_cons, List.length_nil, List.cons_append, List.nil_append, List.replicate_succ, List.replicate_zero, Nat.reduceAdd, Nat.reduceSub, List.getElem?_cons_zero, List.getElem?_cons_succ, List.set_cons_zero, List.set_cons_succ, R.bind_ok, sCons, sNil, sIf, sRet, retL, dropL, sSet, setL, sDrop, sUnp, sPar, lNil, lCons, kF, putL, gN, gT, gAll, kC, kX, kD, kG, kS, scl, k1, k2, L.get, L.take, T.toD, aNil, aCons, kTup, kLst, bVal, bAnd, bOr, bNot, kAnd, kOr, kNot, kIf, boolOf, kCall, cNil, cV, cMv, cPass, lend, back, resL, outs, endOf, srcAt, kSGet, kSLen, kInt, SF.get, SF.put, bl, nm, if_true, if_false, Bool.false_eq_true, Bool.not_true, Bool.not_false, D_u_law_put, enc0, szOk2, e1, e2, h1, h2]
      rfl
theorem nd_ints {l : List Nat} : PyData.hasDictAll (l.map fun i => PyData.int (i : Nat)) = false := by
  induction l with
  | nil => rfl
  | cons a l ih => rw [List.map_cons, PyData.hasDictAll, ih]; simp [PyData.hasDict]
theorem nd_ft {o : Option Ft} : (ftE o).hasDict = false := by
  cases o with
  | none => simp [ftE, PyData.hasDict]
  | some x => simp [ftE, plE, PyData.hasDict, PyData.hasDictAll, nd_ints]
abbrev fwB : SV := (sCons (sSet 4 (kCallR (D_u_law_fault).run (cV (kX 3) (cMv 1 cNil)))) (sCons (sIf (bVal (k1 pNotN (kX 4))) (sCons (sRet (k2 pAdd (kTup (aCons (kX 2) aNil)) (kX 4))) sNil) sNil) (sCons (sDrop (kCall (D_u_law_put).run (cMv 1 (cV (kX 3) cNil)))) sNil)))
theorem tab0 : kTab "programs" "promise" "stream" (kDisp dNil) (kDisp dNil) (kDisp dNil) = fun s => .ok (.t (.tab (tb [])), s) := by kernel_rfl
theorem lfirst_ok {l : List It} (o : ∀ x ∈ l, OkI x) (hl : l.length ≤ 1000) : D_u_law_first_wrong.run [.val (.list (l.map It.enc))] = .ok (.val (fwE (fw l)), []) := by
  have hb := for_find (g := gT [(gN 2), (gN 3)]) (b := fwB) (ds := enumD 0 (l.map It.enc)) (s := [some (.val (.list (l.map It.enc))), some (.tab (tb [])), none, none, none])
    (fun i s => ∃ t2 t3 t4, s = [some (.val (.list (l.map It.enc))), some (.tab (tb (l.take i))), t2, t3, t4]) (fwF l) (fun x => .val (fwE (some x))) ⟨none, none, none, rfl⟩ (fun i d s hd ⟨t2, t3, t4, e⟩ => by
      rw [enum_at, List.getElem?_map, Nat.zero_add] at hd
      obtain ⟨y, hy, rfl⟩ := Option.map_eq_some_iff.mp hd
      obtain ⟨x, hx, rfl⟩ := Option.map_eq_some_iff.mp hy
      have ox := o x (List.mem_of_getElem? hx)
      have il : i < l.length := (List.getElem?_eq_some_iff.mp hx).1
      have e1 := lfault_ok (l := l.take i) ox
      have ep := lput_ok (l := l.take i) ox (by rw [List.length_take]; omega)
      have et : l.take i ++ [x] = l.take (i + 1) := by rw [List.take_succ, hx]; rfl
      rw [et] at ep
      subst e
      have ef : fwF l i = (fault (l.take i) x).map fun y => (i, y) := by simp only [fwF, hx, Option.bind_some]
      rw [ef]
      cases hu : fault (l.take i) x with
      | some y =>
        rw [hu] at e1
        have nd := nd_ft (o := some y)
        have ad : pAdd (.tuple [.int (i : Nat)]) (ftE (some y)) = .ok (.d (fwE (some (i, y)))) := by kernel_rfl
        simp only [run_mk, List.map_cons, List.map_nil, List.length_cons, List.length_nil, List.cons_append, List.nil_append, List.replicate_succ, List.replicate_zero, Nat.reduceAdd, Nat.reduceSub, List.getElem?_cons_zero, List.getElem?_cons_succ, List.set_cons_zero, List.set_cons_succ, R.bind_ok, sCons, sNil, sIf, sRet, retL, dropL, sSet, setL, sDrop, sUnp, sPar, lNil, lCons, kF, putL, gN, gT, gAll, kC, kX, kD, kG, kS, scl, k1, k2, L.get, L.take, T.toD, aNil, aCons, kTup, kLst, bVal, bAnd, bOr, bNot, kAnd, kOr, kNot, kIf, boolOf, kCall, cNil, cV, cMv, cPass, lend, back, resL, outs, endOf, srcAt, kSGet, kSLen, kInt, SF.get, SF.put, bl, nm, if_true, if_false, Bool.false_eq_true, Bool.not_true, Bool.not_false, fwB, kCallR, e1, nd, pNotN, isN_ft, szOk1, ad, Option.map_some, Turn, R.W_ok]
      | none =>
        rw [hu] at e1
        have nd := nd_ft (o := none)
        simp only [run_mk, List.map_cons, List.map_nil, List.length_cons, List.length_nil, List.cons_append, List.nil_append, List.replicate_succ, List.replicate_zero, Nat.reduceAdd, Nat.reduceSub, List.getElem?_cons_zero, List.getElem?_cons_succ, List.set_cons_zero, List.set_cons_succ, R.bind_ok, sCons, sNil, sIf, sRet, retL, dropL, sSet, setL, sDrop, sUnp, sPar, lNil, lCons, kF, putL, gN, gT, gAll, kC, kX, kD, kG, kS, scl, k1, k2, L.get, L.take, T.toD, aNil, aCons, kTup, kLst, bVal, bAnd, bOr, bNot, kAnd, kOr, kNot, kIf, boolOf, kCall, cNil, cV, cMv, cPass, lend, back, resL, outs, endOf, srcAt, kSGet, kSLen, kInt, SF.get, SF.put, bl, nm, if_true, if_false, Bool.false_eq_true, Bool.not_true, Bool.not_false, fwB, kCallR, e1, nd, pNotN, isN_ft0, ep, Option.map_none, Turn, R.W_ok]
        exact ⟨.inl trivial, _, _, _, rfl⟩)
  rw [enum_len, List.length_map] at hb
  obtain ⟨⟨fl, s2⟩, e1, e2⟩ := R.W_get hb
  have hfw : findF (fwF l) 0 l.length = fw l := rfl
  rw [hfw] at e2
  cases hu : fw l with
  | some x =>
    rw [hu] at e2
    simp only [Hit] at e2
    subst e2
    simp only [run_mk, List.map_cons, List.map_nil, List.length_cons, List.length_nil, List.cons_append, List.nil_append, List.replicate_succ, List.replicate_zero, Nat.reduceAdd, Nat.reduceSub, List.getElem?_cons_zero, List.getElem?_cons_succ, List.set_cons_zero, List.set_cons_succ, R.bind_ok, sCons, sNil, sIf, sRet, retL, dropL, sSet, setL, sDrop, sUnp, sPar, lNil, lCons, kF, putL, gN, gT, gAll, kC, kX, kD, kG, kS, scl, k1, k2, L.get, L.take, T.toD, aNil, aCons, kTup, kLst, bVal, bAnd, bOr, bNot, kAnd, kOr, kNot, kIf, boolOf, kCall, cNil, cV, cMv, cPass, lend, back, resL, outs, endOf, srcAt, kSGet, kSLen, kInt, SF.get, SF.put, bl, nm, if_true, if_false, Bool.false_eq_true, Bool.not_true, Bool.not_false, D_u_law_first_wrong, tab0, sFor, iEnum, iSeq, seq_l, e1]
  | none =>
    rw [hu] at e2
    simp only [Hit] at e2
    obtain ⟨e2, _⟩ := e2
    subst e2
    simp only [run_mk, List.map_cons, List.map_nil, List.length_cons, List.length_nil, List.cons_append, List.nil_append, List.replicate_succ, List.replicate_zero, Nat.reduceAdd, Nat.reduceSub, List.getElem?_cons_zero, List.getElem?_cons_succ, List.set_cons_zero, List.set_cons_succ, R.bind_ok, sCons, sNil, sIf, sRet, retL, dropL, sSet, setL, sDrop, sUnp, sPar, lNil, lCons, kF, putL, gN, gT, gAll, kC, kX, kD, kG, kS, scl, k1, k2, L.get, L.take, T.toD, aNil, aCons, kTup, kLst, bVal, bAnd, bOr, bNot, kAnd, kOr, kNot, kIf, boolOf, kCall, cNil, cV, cMv, cPass, lend, back, resL, outs, endOf, srcAt, kSGet, kSLen, kInt, SF.get, SF.put, bl, nm, if_true, if_false, Bool.false_eq_true, Bool.not_true, Bool.not_false, D_u_law_first_wrong, tab0, sFor, iEnum, iSeq, seq_l, e1, fwE]
end K06

set_option Elab.async false
set_option linter.all false
set_option maxRecDepth 100000
set_option maxHeartbeats 4000000
set_option pp.maxSteps 600
namespace K06
open PySem KV
/-! ### right lists of items -/
theorem findF_all {α : Type} {F : Nat → Option α} : ∀ {n k : Nat}, findF F k n = none → ∀ i, k ≤ i → i < k + n → F i = none
  | 0, _, _, i, h1, h2 => by omega
  | n + 1, k, h, i, h1, h2 => by
    unfold findF at h
    cases hF : F k with
    | some a => rw [hF] at h; cases h
    | none =>
      rw [hF] at h
      by_cases e : i = k
      · rw [e]; exact hF
      · exact findF_all h i (by omega) (by omega)
structure Right (l : List It) : Prop where
  o : ∀ x ∈ l, OkI x
  f : fw l = none
theorem Right.at {l : List It} (r : Right l) {L1 L2 : List It} {x : It} (h : l = L1 ++ x :: L2) : fault L1 x = none := by
  have hi : l[L1.length]? = some x := by rw [h]; simp
  have := findF_all r.f L1.length (Nat.zero_le _) (by rw [h]; simp)
  have ht : l.take L1.length = L1 := by rw [h]; simp
  simp only [fwF, hi, Option.bind_some, ht, Option.map_eq_none_iff] at this
  exact this
/-- programs and pipes in sequence, each one's parts ahead -/
def WK (ks : List It) : Prop := ∀ P x S, ks = P ++ x :: S → x.isPP = true ∧ OkI x ∧ x.name ∉ P.map It.name ∧ ∀ y ∈ x.said, y.2 ∈ P.map It.name
theorem Right.wk {l : List It} (r : Right l) : WK (l.filter It.isPP) := fun P x S h => by
  obtain ⟨l1, l2, h1, h2, h3⟩ := List.filter_eq_append_iff.mp h
  obtain ⟨m1, m2, h4, h5, h6, h7⟩ := List.filter_eq_cons_iff.mp h3
  have hl : l = (l1 ++ m1) ++ x :: m2 := by rw [h1, h4, List.append_assoc]
  have hm : m1.filter It.isPP = [] := List.filter_eq_nil_iff.mpr h5
  have hn : nms It.isPP (l1 ++ m1) = P.map It.name := by
    unfold nms
    rw [List.filter_append, hm, List.append_nil, h2]
  have hf := r.at hl
  have ox : OkI x := r.o x (by rw [hl]; simp)
  have htw : twice (l1 ++ m1) x = false := by
    cases ht : twice (l1 ++ m1) x with
    | false => rfl
    | true => simp [fault, ht] at hf
  have hnm : x.name ∉ P.map It.name := by
    rw [← hn]
    intro m
    simp [twice, h6, m] at htw
  refine ⟨h6, ox, hnm, fun y hy => ?_⟩
  cases hr : x.isPr with
  | true => cases x <;> simp_all [It.isPr, It.said]
  | false =>
    have h8 : x.isFd = false := by cases x <;> simp_all [It.isPP, It.isFd]
    have h9 : x.isKp = false := by cases x <;> simp_all [It.isPP, It.isKp]
    rw [fault_el htw hr h8 h9] at hf
    unfold lackFt at hf
    have := List.find?_eq_none.mp (Option.map_eq_none_iff.mp hf) y hy
    simp only [lacks, hn] at this
    simpa using this
/-! ### dicts of them -/
def pk (ks : List It) : List (D × D) := ks.map fun x => (.str x.name, x.enc)
theorem has_pk {y : Str} : ∀ {ks : List It}, hasB (pk ks) (.str y) = decide (y ∈ ks.map It.name)
  | [] => by simp [hasB, pk]
  | x :: ks => by
    have ih := has_pk (y := y) (ks := ks)
    simp only [hasB, pk, List.map_cons, List.any_cons, eqv_str] at ih ⊢
    rw [ih]
    by_cases z : x.name = y
    · subst z; simp
    · have z2 : ¬ y = x.name := fun q => z q.symm
      simp [z, z2]
theorem merge_pk : ∀ {S P : List It}, WK (P ++ S) → mergeD (pk P) (pk S) = pk (P ++ S)
  | [], P, _ => by rw [List.append_nil]; rfl
  | x :: S, P, h => by
    have hn := (h P x S rfl).2.2.1
    have e1 : putD (pk P) (.str x.name) x.enc = pk (P ++ [x]) := by
      unfold putD
      rw [has_pk, decide_eq_false hn]
      simp [pk]
    show mergeD (putD (pk P) (.str x.name) x.enc) (pk S) = _
    have e2 : P ++ x :: S = (P ++ [x]) ++ S := by simp
    rw [e1, e2]
    exact merge_pk (by rw [← e2]; exact h)
theorem Right.dcs {l : List It} (r : Right l) : dcs It.isPP l = pk (l.filter It.isPP) := by
  have := merge_pk (S := l.filter It.isPP) (P := []) r.wk
  have e : kvE (prs It.isPP l) = pk (l.filter It.isPP) := by
    unfold kvE prs pk
    rw [List.map_map]
    rfl
  unfold K06.dcs
  rw [e]
  exact this
theorem look_pk : ∀ {P S : List It} {x : It}, x.name ∉ P.map It.name → lookD (pk (P ++ x :: S)) (.str x.name) = some x.enc
  | [], S, x, _ => by simp [lookD, pk, eqv_str_self]
  | y :: P, S, x, h => by
    have h1 : y.name ≠ x.name := fun z => h (by rw [List.map_cons]; exact List.mem_cons.mpr (.inl z.symm))
    have h2 : x.name ∉ P.map It.name := fun z => h (by rw [List.map_cons]; exact List.mem_cons_of_mem _ z)
    have := look_pk (S := S) h2
    simp only [lookD, pk, List.cons_append, List.map_cons, List.find?_cons, eqv_str, h1, decide_false] at this ⊢
    exact this
theorem ix_pk {ks P S : List It} {x : It} (w : WK ks) (h : ks = P ++ x :: S) : pIx (.dict (pk ks)) (.str x.name) = .ok (.d x.enc) := by
  have := look_pk (S := S) (w P x S h).2.2.1
  rw [← h] at this
  simp only [pIx, key_str, if_true, this, optD]
theorem parts_ok {x : It} (h : x.isPP = true) : D_u_law_parts.run [.val x.enc] = .ok (.lst (x.said.map fun y => .str y.2), []) := by
  cases x with
  | prog na b m => kernel_rfl
  | pipe1 na w a => kernel_rfl
  | pipe2 na w a b => kernel_rfl
  | _ => simp [It.isPP] at h
/-! ### what is wanted -/
def wnE (W : List Str) : List (D × D) := W.map fun y => (.str y, .bool true)
def addAll : List Str → List Str → List Str
  | W, [] => W
  | W, y :: ys => addAll (if y ∈ W then W else W ++ [y]) ys
theorem mem_addAll : ∀ {ys W : List Str} {z : Str}, z ∈ addAll W ys ↔ z ∈ W ∨ z ∈ ys
  | [], W, z => by simp [addAll]
  | y :: ys, W, z => by
    unfold addAll
    rw [mem_addAll]
    by_cases h : y ∈ W
    · rw [if_pos h, List.mem_cons]
      constructor
      · rintro (q | q)
        · exact .inl q
        · exact .inr (.inr q)
      · rintro (q | q | q)
        · exact .inl q
        · exact .inl (q ▸ h)
        · exact .inr q
    · rw [if_neg h, List.mem_cons, List.mem_append, List.mem_singleton, or_assoc]
theorem has_wnE {y : Str} : ∀ {W : List Str}, hasB (wnE W) (.str y) = decide (y ∈ W)
  | [] => by simp [hasB, wnE]
  | x :: W => by
    have ih := has_wnE (y := y) (W := W)
    simp only [hasB, wnE, List.map_cons, List.any_cons, eqv_str] at ih ⊢
    rw [ih]
    by_cases z : x = y
    · subst z; simp
    · have z2 : ¬ y = x := fun q => z q.symm
      simp [z, z2]
theorem put_wnE {W : List Str} {y : Str} : putD (wnE W) (.str y) (.bool true) = wnE (if y ∈ W then W else W ++ [y]) := by
  unfold putD
  rw [has_wnE]
  by_cases h : y ∈ W
  · rw [if_pos h, if_pos (decide_eq_true h)]
    unfold wnE
    rw [List.map_map]
    apply List.map_congr_left
    intro z _
    simp only [Function.comp_apply]
    split <;> rfl
  · rw [if_neg h, if_neg (by simp [h])]
    simp [wnE]
theorem merge_wnE : ∀ {ys W : List Str}, mergeD (wnE W) (wnE ys) = wnE (addAll W ys)
  | [], W => rfl
  | y :: ys, W => by
    show mergeD (putD (wnE W) (.str y) (.bool true)) (wnE ys) = _
    rw [put_wnE, merge_wnE]
    rfl
theorem addAll_len : ∀ {ys W : List Str}, (addAll W ys).length ≤ W.length + ys.length
  | [], W => Nat.le_refl _
  | y :: ys, W => by
    unfold addAll
    have h1 := addAll_len (ys := ys) (W := if y ∈ W then W else W ++ [y])
    have h2 : (if y ∈ W then W else W ++ [y]).length ≤ W.length + 1 := by
      split
      · omega
      · rw [List.length_append, List.length_singleton]; exact Nat.le_refl _
    rw [List.length_cons]
    omega
theorem pDict_w {ys : List Str} : pDict (.list (ys.map fun y => .tuple [.str y, .bool true])) = .ok (.t (.dct (wnE (addAll [] ys)))) := by
  have := pDict_kv (l := ys.map fun y => (y, PyData.bool true))
  rw [List.map_map] at this
  have e : kvE (ys.map fun y => (y, PyData.bool true)) = wnE ys := by unfold kvE wnE; rw [List.map_map]; rfl
  rw [e] at this
  have e2 : mergeD [] (wnE ys) = wnE (addAll [] ys) := merge_wnE (W := [])
  rw [e2] at this
  exact this
def Closed (ks : List It) (C : Str → Prop) : Prop := ∀ x ∈ ks, C x.name → ∀ y ∈ x.said, C y.2
structure Want (ks : List It) (na : Str) (S : List It) (W : List Str) : Prop where
  h0 : na ∈ W
  cl : ∀ x ∈ S, x.name ∈ W → ∀ y ∈ x.said, y.2 ∈ W
  lt : ∀ C, Closed ks C → C na → ∀ y ∈ W, C y
abbrev pB1 : SV := (sCons (sIf (bVal (k2 pIn (kX 4) (kX 2))) (sCons (sDrop (kUpd 2 (k1 pDict (kComp (iSeq (kCall (D_u_law_parts).run (cV (k2 pIx (kX 0) (kX 4)) cNil))) (gN 6) none (kTup (aCons (kX 6) (aCons (kC (.bool true)) aNil))) [6])))) sNil) sNil) sNil)
abbrev pB2 : SV := (sCons (sSet 5 (kCall (D_u_law_parts).run (cV (k2 pIx (kX 0) (kX 4)) cNil))) (sCons (sPt 3 (kX 4) (kIf (bVal (k2 pNe (kX 5) (kLst aNil))) (k1 pSum (kComp (iSeq (kX 5)) (gN 6) none (k2 pIx (kX 3) (kX 6)) [6])) (kC (.int 1)))) sNil))
def pS (ks : List It) (na : Str) (W : List Str) (v3 v4 v5 v6 : Option T) : Sl := [some (.val (.dict (pk ks))), some (.val (.str na)), some (.dct (wnE W)), v3, v4, v5, v6]
theorem said_le {x : It} : x.said.length ≤ 3 := said_len
theorem comp_true {ks : List It} {na : Str} {W : List Str} {v3 v4 v5 : Option T} {ys : List Str} : compD (gN 6) none (kTup (aCons (kX 6) (aCons (kC (.bool true)) aNil))) [6] (ys.map PyData.str) (pS ks na W v3 v4 v5 none) = .ok (ys.map fun y => .tuple [.str y, .bool true], pS ks na W v3 v4 v5 none) := by
  have hc := comp_map (g := gN 6) (c := none) (f := kTup (aCons (kX 6) (aCons (kC (.bool true)) aNil))) (own := [6]) (s := pS ks na W v3 v4 v5 none) PyData.str (fun y => pS ks na W v3 v4 v5 (some (.val (.str y)))) (fun _ => true) (fun y => .tuple [.str y, .bool true]) rfl (xs := ys)
    (fun x hx => ⟨rfl, rfl, rfl, fun _ => by simp only [run_mk, List.map_cons, List.map_nil, List.length_cons, List.length_nil, List.cons_append, List.nil_append, List.replicate_succ, List.replicate_zero, Nat.reduceAdd, Nat.reduceSub, List.getElem?_cons_zero, List.getElem?_cons_succ, List.set_cons_zero, List.set_cons_succ, R.bind_ok, sCons, sNil, sIf, sRet, retL, dropL, sSet, setL, sDrop, sUnp, sPar, lNil, lCons, kF, putL, gN, gT, gAll, kC, kX, kD, kG, kS, scl, k1, k2, L.get, L.take, T.toD, aNil, aCons, kTup, kLst, bVal, bAnd, bOr, bNot, kAnd, kOr, kNot, kIf, boolOf, kCall, cNil, cV, cMv, cPass, lend, back, resL, outs, endOf, srcAt, kSGet, kSLen, kInt, SF.get, SF.put, bl, nm, if_true, if_false, Bool.false_eq_true, Bool.not_true, Bool.not_false, pS, szOk2]⟩)
  rw [hc, List.filter_eq_self.mpr (fun _ _ => rfl)]
theorem pw_loop {ks : List It} {na : Str} (w : WK ks) {v3 v5 : Option T} : ∀ (Q S : List It) (W : List Str) (v4 : Option T), ks = Q.reverse ++ S → Want ks na S W → W.length + 3 * Q.length ≤ 1000 →
    (forD (gN 4) pB1 (Q.map fun x => .str x.name) (pS ks na W v3 v4 v5 none)).W fun r => r.1 = .nx ∧ ∃ W' v4', r.2 = pS ks na W' v3 v4' v5 none ∧ Want ks na ks W'
  | [], S, W, v4, h, c, _ => by
    have : ks = S := h
    subst this
    exact ⟨rfl, W, v4, rfl, c⟩
  | x :: Q, S, W, v4, h, c, hl => by
    rw [List.length_cons] at hl
    have hk : ks = Q.reverse ++ x :: S := by rw [h]; simp
    obtain ⟨px, ox, nx, sx⟩ := w _ x S hk
    have ix := ix_pk w hk
    have po := parts_ok px
    have later : ∀ z ∈ S, z.name ∉ Q.reverse.map It.name := fun z hz m => by
      obtain ⟨S1, S2, rfl⟩ := List.append_of_mem hz
      have := (w (Q.reverse ++ x :: S1) z S2 (by rw [hk]; simp)).2.2.1
      apply this
      rw [List.map_append]
      exact List.mem_append_left _ m
    by_cases hx : x.name ∈ W
    · have d1 := decide_eq_true hx
      have hz : szOk (x.said.map fun y => PyData.tuple [.str y.2, .bool true]).length = true := szOk_of (by rw [List.length_map]; have := said_len (x := x); omega)
      have c1 : compD (gN 6) none (kTup (aCons (kX 6) (aCons (kC (.bool true)) aNil))) [6] (x.said.map fun y => PyData.str y.2) (pS ks na W v3 (some (.val (.str x.name))) v5 none) = .ok (x.said.map fun y => .tuple [.str y.2, .bool true], pS ks na W v3 (some (.val (.str x.name))) v5 none) := by
        have := comp_true (ks := ks) (na := na) (W := W) (v3 := v3) (v4 := some (.val (.str x.name))) (v5 := v5) (ys := x.said.map (·.2))
        rw [List.map_map, List.map_map] at this
        exact this
      have pd : pDict (.list (x.said.map fun y => .tuple [.str y.2, .bool true])) = .ok (.t (.dct (wnE (addAll [] (x.said.map (·.2)))))) := by
        have := pDict_w (ys := x.said.map (·.2))
        rw [List.map_map] at this
        exact this
      have wl : (wnE W).length = W.length := by unfold wnE; rw [List.length_map]
      have al := addAll_len (ys := x.said.map (·.2)) (W := [])
      have al2 := addAll_len (ys := addAll [] (x.said.map (·.2))) (W := W)
      rw [List.length_map, List.length_nil] at al
      have sl := said_len (x := x)
      have hz2 : szOk ((wnE W).length + (wnE (addAll [] (x.said.map (·.2)))).length) = true := szOk_of (by
        rw [wl]
        unfold wnE
        rw [List.length_map]
        omega)
      have step : pB1 (pS ks na W v3 (some (.val (.str x.name))) v5 none) = .ok (.nx, pS ks na (addAll W (addAll [] (x.said.map (·.2)))) v3 (some (.val (.str x.name))) v5 none) := by
        simp only [pS] at c1 ⊢
        simp only [run_mk, List.map_cons, List.map_nil, List.length_cons, List.length_nil, List.cons_append, List.nil_append, List.replicate_succ, List.replicate_zero, Nat.reduceAdd, Nat.reduceSub, List.getElem?_cons_zero, List.getElem?_cons_succ, List.set_cons_zero, List.set_cons_succ, R.bind_ok, sCons, sNil, sIf, sRet, retL, dropL, sSet, setL, sDrop, sUnp, sPar, lNil, lCons, kF, putL, gN, gT, gAll, kC, kX, kD, kG, kS, scl, k1, k2, L.get, L.take, T.toD, aNil, aCons, kTup, kLst, bVal, bAnd, bOr, bNot, kAnd, kOr, kNot, kIf, boolOf, kCall, cNil, cV, cMv, cPass, lend, back, resL, outs, endOf, srcAt, kSGet, kSLen, kInt, SF.get, SF.put, bl, nm, if_true, if_false, Bool.false_eq_true, Bool.not_true, Bool.not_false, pB1, in_dict, has_wnE, d1, ix, po, kComp, iSeq, seq_l, c1, hz, pd, kUpd, hz2, merge_wnE]
      have hS : ks = Q.reverse ++ x :: S := hk
      have nw : ∀ z, z ∈ addAll W (addAll [] (x.said.map (·.2))) ↔ z ∈ W ∨ z ∈ x.said.map (·.2) := fun z => by
        rw [mem_addAll, mem_addAll]
        simp
      rw [List.map_cons, forD_nx (s1 := pS ks na W v3 (some (.val (.str x.name))) v5 none) (s := pS ks na W v3 v4 v5 none) rfl step (.inl rfl)]
      refine (pw_loop w Q (x :: S) _ _ hk ⟨(nw na).mpr (.inl c.h0), fun z hz hn y hy => ?_, fun C hC hna y hy => ?_⟩ (by omega))
      · rw [nw] at hn ⊢
        rcases List.mem_cons.mp hz with rfl | hz
        · exact .inr (List.mem_map.mpr ⟨y, hy, rfl⟩)
        · rcases hn with hn | hn
          · exact .inl (c.cl z hz hn y hy)
          · obtain ⟨y', hy', e⟩ := List.mem_map.mp hn
            exact (later z hz (e ▸ sx y' hy')).elim
      · rcases (nw y).mp hy with hy | hy
        · exact c.lt C hC hna y hy
        · obtain ⟨y', hy', rfl⟩ := List.mem_map.mp hy
          exact hC x (by rw [hk]; simp) (c.lt C hC hna x.name hx) y' hy'
    · have d1 := decide_eq_false hx
      have step : pB1 (pS ks na W v3 (some (.val (.str x.name))) v5 none) = .ok (.nx, pS ks na W v3 (some (.val (.str x.name))) v5 none) := by
        simp only [pS]
        simp only [run_mk, List.map_cons, List.map_nil, List.length_cons, List.length_nil, List.cons_append, List.nil_append, List.replicate_succ, List.replicate_zero, Nat.reduceAdd, Nat.reduceSub, List.getElem?_cons_zero, List.getElem?_cons_succ, List.set_cons_zero, List.set_cons_succ, R.bind_ok, sCons, sNil, sIf, sRet, retL, dropL, sSet, setL, sDrop, sUnp, sPar, lNil, lCons, kF, putL, gN, gT, gAll, kC, kX, kD, kG, kS, scl, k1, k2, L.get, L.take, T.toD, aNil, aCons, kTup, kLst, bVal, bAnd, bOr, bNot, kAnd, kOr, kNot, kIf, boolOf, kCall, cNil, cV, cMv, cPass, lend, back, resL, outs, endOf, srcAt, kSGet, kSLen, kInt, SF.get, SF.put, bl, nm, if_true, if_false, Bool.false_eq_true, Bool.not_true, Bool.not_false, pB1, in_dict, has_wnE, d1]
      rw [List.map_cons, forD_nx (s1 := pS ks na W v3 (some (.val (.str x.name))) v5 none) (s := pS ks na W v3 v4 v5 none) rfl step (.inl rfl)]
      refine (pw_loop w Q (x :: S) W _ hk ⟨c.h0, fun z hz hn y hy => ?_, c.lt⟩ (by omega))
      rcases List.mem_cons.mp hz with rfl | hz
      · exact (hx hn).elim
      · exact c.cl z hz hn y hy
end K06

set_option Elab.async false
set_option linter.all false
set_option maxRecDepth 100000
set_option maxHeartbeats 4000000
set_option pp.maxSteps 600
namespace K06
open PySem KV
/-! ### how many are read through -/
def lk (M : List (Str × Int)) (y : Str) : Int := ((M.find? fun p => decide (p.1 = y)).map (·.2)).getD 0
def mnE (M : List (Str × Int)) : List (D × D) := M.map fun p => (.str p.1, .int p.2)
def cv (M : List (Str × Int)) (x : It) : Int := if x.said = [] then 1 else (x.said.map fun y => lk M y.2).sum
def tabF : List (Str × Int) → List It → List (Str × Int)
  | M, [] => M
  | M, x :: S => tabF (M ++ [(x.name, cv M x)]) S
theorem tab_names : ∀ {S : List It} {M : List (Str × Int)}, (tabF M S).map (·.1) = M.map (·.1) ++ S.map It.name
  | [], M => by simp [tabF]
  | x :: S, M => by
    unfold tabF
    rw [tab_names]
    simp
theorem ix_mnE : ∀ {M : List (Str × Int)} {y : Str}, y ∈ M.map (·.1) → lookD (mnE M) (.str y) = some (.int (lk M y))
  | [], y, h => by simp at h
  | p :: M, y, h => by
    by_cases z : p.1 = y
    · simp [lookD, mnE, lk, eqv_str, z]
    · have h2 : y ∈ M.map (·.1) := by
        rcases List.mem_cons.mp h with q | q
        · exact (z q.symm).elim
        · exact q
      have ih := ix_mnE h2
      simp only [lookD, mnE, lk, List.map_cons, List.find?_cons, eqv_str, z, decide_false] at ih ⊢
      exact ih
theorem pIx_mnE {M : List (Str × Int)} {y : Str} (h : y ∈ M.map (·.1)) : pIx (.dict (mnE M)) (.str y) = .ok (.d (.int (lk M y))) := by
  simp only [pIx, key_str, if_true, ix_mnE h, optD]
theorem has_mnE {y : Str} : ∀ {M : List (Str × Int)}, hasB (mnE M) (.str y) = decide (y ∈ M.map (·.1))
  | [] => by simp [hasB, mnE]
  | p :: M => by
    have ih := has_mnE (y := y) (M := M)
    simp only [hasB, mnE, List.map_cons, List.any_cons, eqv_str] at ih ⊢
    rw [ih]
    by_cases z : p.1 = y
    · subst z; simp
    · have z2 : ¬ y = p.1 := fun q => z q.symm
      simp [z, z2]
theorem put_mnE {M : List (Str × Int)} {n : Str} {v : Int} (h : n ∉ M.map (·.1)) : putD (mnE M) (.str n) (.int v) = mnE (M ++ [(n, v)]) := by
  unfold putD
  rw [has_mnE, if_neg (by simpa using h)]
  simp [mnE]
theorem ints_of : ∀ {l : List Int}, intsOf (l.map PyData.int) = some l
  | [] => rfl
  | a :: l => by
    rw [List.map_cons, intsOf, ints_of]
    rfl
theorem pSum_ok {l : List Int} : pSum (.list (l.map PyData.int)) = .ok (.d (.int l.sum)) := by
  simp only [pSum, ints_of]
  rfl
theorem said_ne {x : It} (ox : OkI x) : pNe (.list (x.said.map fun y => PyData.str y.2)) (.list []) = bl (!x.said.isEmpty) := by
  have := pNe_nil (xs := (x.said.map (·.2)).map PyData.str) ((fit_lst (fit_strs fun z hz => by
    obtain ⟨y, hy, rfl⟩ := List.mem_map.mp hz
    exact ox.sd y hy) (Nat.le_refl _)).eqOk (by decide))
  rw [List.map_map, List.isEmpty_map] at this
  exact this
theorem cv_nil {M : List (Str × Int)} {x : It} (h : x.said.isEmpty = true) : cv M x = 1 := by
  unfold cv
  rw [if_pos (List.isEmpty_iff.mp h)]
theorem cv_cons {M : List (Str × Int)} {x : It} (h : x.said.isEmpty = false) : cv M x = (x.said.map fun y => lk M y.2).sum := by
  unfold cv
  rw [if_neg fun z => by rw [z] at h; cases h]
def pS2 (ks : List It) (na : Str) (W : List Str) (M : List (Str × Int)) (v4 v5 : Option T) : Sl := pS ks na W (some (.dct (mnE M))) v4 v5 none
theorem pm_loop {ks : List It} {na : Str} {W : List Str} (w : WK ks) (hl : ks.length ≤ 1000) : ∀ (S P : List It) (M : List (Str × Int)) (v4 v5 : Option T), ks = P ++ S → M.map (·.1) = P.map It.name →
    (forD (gN 4) pB2 (S.map fun x => .str x.name) (pS2 ks na W M v4 v5)).W fun r => r.1 = .nx ∧ ∃ v4' v5', r.2 = pS2 ks na W (tabF M S) v4' v5'
  | [], P, M, v4, v5, h, hM => ⟨rfl, v4, v5, rfl⟩
  | x :: S, P, M, v4, v5, h, hM => by
    obtain ⟨px, ox, nx, sx⟩ := w P x S h
    have ix := ix_pk w h
    have po := parts_ok px
    have ne := said_ne ox
    have hlen : M.length ≤ 1000 := by
      have := congrArg List.length hM
      rw [List.length_map, List.length_map] at this
      have h2 := congrArg List.length h
      rw [List.length_append] at h2
      omega
    have hz : szOk ((mnE M).length + 1) = true := szOk_of (by unfold mnE; rw [List.length_map]; omega)
    have pt := put_mnE (M := M) (n := x.name) (v := cv M x) (by rw [hM]; exact nx)
    have fin : ∀ v5', (forD (gN 4) pB2 (S.map fun x => .str x.name) (pS2 ks na W (M ++ [(x.name, cv M x)]) (some (.val (.str x.name))) v5')).W fun r => r.1 = .nx ∧ ∃ v4' v5', r.2 = pS2 ks na W (tabF M (x :: S)) v4' v5' := fun v5' =>
      pm_loop w hl S (P ++ [x]) _ _ _ (by rw [h]; simp) (by rw [List.map_append, List.map_append, hM]; rfl)
    rw [List.map_cons]
    cases he : x.said.isEmpty with
    | true =>
      rw [he] at ne
      rw [cv_nil he] at pt
      have step : pB2 (pS2 ks na W M (some (.val (.str x.name))) v5) = .ok (.nx, pS2 ks na W (M ++ [(x.name, cv M x)]) (some (.val (.str x.name))) (some (.lst (x.said.map fun y => .str y.2)))) := by
        rw [cv_nil he]
        simp only [pS2, pS]
        simp only [run_mk, List.map_cons, List.map_nil, List.length_cons, List.length_nil, List.cons_append, List.nil_append, List.replicate_succ, List.replicate_zero, Nat.reduceAdd, Nat.reduceSub, List.getElem?_cons_zero, List.getElem?_cons_succ, List.set_cons_zero, List.set_cons_succ, R.bind_ok, sCons, sNil, sIf, sRet, retL, dropL, sSet, setL, sDrop, sUnp, sPar, lNil, lCons, kF, putL, gN, gT, gAll, kC, kX, kD, kG, kS, scl, k1, k2, L.get, L.take, T.toD, aNil, aCons, kTup, kLst, bVal, bAnd, bOr, bNot, kAnd, kOr, kNot, kIf, boolOf, kCall, cNil, cV, cMv, cPass, lend, back, resL, outs, endOf, srcAt, kSGet, kSLen, kInt, SF.get, SF.put, bl, nm, if_true, if_false, Bool.false_eq_true, Bool.not_true, Bool.not_false, pB2, ix, po, ne, szOk0, sPt, key_str, hz, Bool.and_self, pt]
      rw [forD_nx (s1 := pS2 ks na W M (some (.val (.str x.name))) v5) (s := pS2 ks na W M v4 v5) rfl step (.inl rfl)]
      exact fin _
    | false =>
      rw [he] at ne
      rw [cv_cons he] at pt
      have hc := comp_map (g := gN 6) (c := none) (f := k2 pIx (kX 3) (kX 6)) (own := [6]) (s := pS2 ks na W M (some (.val (.str x.name))) (some (.val (.list (x.said.map fun y => .str y.2)))))
        (fun y : List Nat × Str => .str y.2) (fun y => pS ks na W (some (.dct (mnE M))) (some (.val (.str x.name))) (some (.val (.list (x.said.map fun y => .str y.2)))) (some (.val (.str y.2)))) (fun _ => true) (fun y => .int (lk M y.2)) rfl (xs := x.said) (fun y hy => by
          have e := pIx_mnE (M := M) (y := y.2) (by rw [hM]; exact sx y hy)
          refine ⟨rfl, rfl, rfl, fun _ => ?_⟩
          simp only [run_mk, List.map_cons, List.map_nil, List.length_cons, List.length_nil, List.cons_append, List.nil_append, List.replicate_succ, List.replicate_zero, Nat.reduceAdd, Nat.reduceSub, List.getElem?_cons_zero, List.getElem?_cons_succ, List.set_cons_zero, List.set_cons_succ, R.bind_ok, sCons, sNil, sIf, sRet, retL, dropL, sSet, setL, sDrop, sUnp, sPar, lNil, lCons, kF, putL, gN, gT, gAll, kC, kX, kD, kG, kS, scl, k1, k2, L.get, L.take, T.toD, aNil, aCons, kTup, kLst, bVal, bAnd, bOr, bNot, kAnd, kOr, kNot, kIf, boolOf, kCall, cNil, cV, cMv, cPass, lend, back, resL, outs, endOf, srcAt, kSGet, kSLen, kInt, SF.get, SF.put, bl, nm, if_true, if_false, Bool.false_eq_true, Bool.not_true, Bool.not_false, pS, e])
      rw [List.filter_eq_self.mpr (fun _ _ => rfl)] at hc
      have hz2 : szOk (x.said.map fun y => PyData.int (lk M y.2)).length = true := szOk_of (by rw [List.length_map]; have := said_len (x := x); omega)
      have sm := pSum_ok (l := x.said.map fun y => lk M y.2)
      rw [List.map_map] at sm
      have sm : pSum (.list (x.said.map fun y => PyData.int (lk M y.2))) = _ := sm
      have step : pB2 (pS2 ks na W M (some (.val (.str x.name))) v5) = .ok (.nx, pS2 ks na W (M ++ [(x.name, cv M x)]) (some (.val (.str x.name))) (some (.val (.list (x.said.map fun y => .str y.2))))) := by
        rw [cv_cons he]
        simp only [pS2, pS] at hc ⊢
        simp only [run_mk, List.map_cons, List.map_nil, List.length_cons, List.length_nil, List.cons_append, List.nil_append, List.replicate_succ, List.replicate_zero, Nat.reduceAdd, Nat.reduceSub, List.getElem?_cons_zero, List.getElem?_cons_succ, List.set_cons_zero, List.set_cons_succ, R.bind_ok, sCons, sNil, sIf, sRet, retL, dropL, sSet, setL, sDrop, sUnp, sPar, lNil, lCons, kF, putL, gN, gT, gAll, kC, kX, kD, kG, kS, scl, k1, k2, L.get, L.take, T.toD, aNil, aCons, kTup, kLst, bVal, bAnd, bOr, bNot, kAnd, kOr, kNot, kIf, boolOf, kCall, cNil, cV, cMv, cPass, lend, back, resL, outs, endOf, srcAt, kSGet, kSLen, kInt, SF.get, SF.put, bl, nm, if_true, if_false, Bool.false_eq_true, Bool.not_true, Bool.not_false, pB2, ix, po, ne, szOk0, kComp, iSeq, seq_l, hc, hz2, sm, sPt, key_str, hz, Bool.and_self, pt]
      rw [forD_nx (s1 := pS2 ks na W M (some (.val (.str x.name))) v5) (s := pS2 ks na W M v4 v5) rfl step (.inl rfl)]
      exact fin _
theorem pk_keys {ks : List It} : (pk ks).map (·.1) = ks.map fun x => .str x.name := by
  unfold pk
  rw [List.map_map]
  rfl
theorem lpieces_ok {ks : List It} {na : Str} (w : WK ks) (hn : na ∈ ks.map It.name) (hl : ks.length ≤ 100) : ∃ W, Want ks na ks W ∧
    D_u_law_pieces.run [.val (.dict (pk ks)), .val (.str na)] = .ok (.val (.tuple [.tuple ((ks.filter fun x => decide (x.name ∈ W)).map fun x => .str x.name), .int (lk (tabF [] ks) na)]), []) := by
  obtain ⟨⟨f1, s1⟩, a1, a2, W, v4, a3, wt⟩ := R.W_get (pw_loop (na := na) w (v3 := some (.dct [])) (v5 := none) ks.reverse [] [na] none (by simp) ⟨by simp, fun _ h => (nomatch h), fun C _ h y hy => by simp at hy; exact hy ▸ h⟩ (by rw [List.length_reverse, List.length_singleton]; omega))
  simp only at a2 a3
  subst a2 a3
  obtain ⟨⟨f2, s2⟩, b1, b2, v4', v5', b3⟩ := R.W_get (pm_loop (na := na) (W := W) w (by omega) ks [] [] v4 none rfl rfl)
  simp only at b2 b3
  subst b2 b3
  refine ⟨W, wt, ?_⟩
  have hc := comp_map (g := gN 4) (c := some (bVal (k2 pIn (kX 4) (kX 2)))) (f := kX 4) (own := [4]) (s := pS2 ks na W (tabF [] ks) none v5')
    (fun x : It => .str x.name) (fun x => pS2 ks na W (tabF [] ks) (some (.val (.str x.name))) v5') (fun x => decide (x.name ∈ W)) (fun x => .str x.name) rfl (xs := ks) (fun x hx => by
      refine ⟨rfl, rfl, ?_, fun _ => ?_⟩
      · simp only [bOf, run_mk, List.map_cons, List.map_nil, List.length_cons, List.length_nil, List.cons_append, List.nil_append, List.replicate_succ, List.replicate_zero, Nat.reduceAdd, Nat.reduceSub, List.getElem?_cons_zero, List.getElem?_cons_succ, List.set_cons_zero, List.set_cons_succ, R.bind_ok, sCons, sNil, sIf, sRet, retL, dropL, sSet, setL, sDrop, sUnp, sPar, lNil, lCons, kF, putL, gN, gT, gAll, kC, kX, kD, kG, kS, scl, k1, k2, L.get, L.take, T.toD, aNil, aCons, kTup, kLst, bVal, bAnd, bOr, bNot, kAnd, kOr, kNot, kIf, boolOf, kCall, cNil, cV, cMv, cPass, lend, back, resL, outs, endOf, srcAt, kSGet, kSLen, kInt, SF.get, SF.put, bl, nm, if_true, if_false, Bool.false_eq_true, Bool.not_true, Bool.not_false, pS2, pS, in_dict, has_wnE]
      · simp only [run_mk, List.map_cons, List.map_nil, List.length_cons, List.length_nil, List.cons_append, List.nil_append, List.replicate_succ, List.replicate_zero, Nat.reduceAdd, Nat.reduceSub, List.getElem?_cons_zero, List.getElem?_cons_succ, List.set_cons_zero, List.set_cons_succ, R.bind_ok, sCons, sNil, sIf, sRet, retL, dropL, sSet, setL, sDrop, sUnp, sPar, lNil, lCons, kF, putL, gN, gT, gAll, kC, kX, kD, kG, kS, scl, k1, k2, L.get, L.take, T.toD, aNil, aCons, kTup, kLst, bVal, bAnd, bOr, bNot, kAnd, kOr, kNot, kIf, boolOf, kCall, cNil, cV, cMv, cPass, lend, back, resL, outs, endOf, srcAt, kSGet, kSLen, kInt, SF.get, SF.put, bl, nm, if_true, if_false, Bool.false_eq_true, Bool.not_true, Bool.not_false, pS2, pS])
  have hw : compD (gN 4) (some (bVal (k2 pIn (kX 4) (kX 2)))) (kX 4) [4] (ks.map fun x => .str x.name) (pS2 ks na W (tabF [] ks) v4' v5') = .ok ((ks.filter fun x => decide (x.name ∈ W)).map fun x => .str x.name, pS2 ks na W (tabF [] ks) none v5') := by
    cases ks with
    | nil => simp at hn
    | cons x S =>
      refine Eq.trans ?_ hc
      rfl
  have hz : szOk ((ks.filter fun x => decide (x.name ∈ W)).map fun x => PyData.str x.name).length = true := szOk_of (by
    rw [List.length_map]
    have := List.length_filter_le (fun x => decide (It.name x ∈ W)) ks
    omega)
  have im := pIx_mnE (M := tabF [] ks) (y := na) (by rw [tab_names]; simpa using hn)
  have r0 : mergeD [] [(.str na, .bool true)] = wnE [na] := rfl
  have r1 : pRev (.list (ks.map fun x => .str x.name)) = .ok (.t (.lst (ks.reverse.map fun x => .str x.name))) := by
    show R.ok (L.t (T.lst (List.reverse _))) = _
    rw [List.map_reverse]
  have r2 : pList (.dict (pk ks)) = .ok (.t (.lst (ks.map fun x => .str x.name))) := by
    show R.ok (L.t (T.lst ((pk ks).map (·.1)))) = _
    rw [pk_keys]
  have m0 : mnE [] = [] := rfl
  have rm : mergeD [] ([] : List (D × D)) = [] := rfl
  simp only [pS2, pS, m0] at a1 b1 hw
  simp only [run_mk, List.map_cons, List.map_nil, List.length_cons, List.length_nil, List.cons_append, List.nil_append, List.replicate_succ, List.replicate_zero, Nat.reduceAdd, Nat.reduceSub, List.getElem?_cons_zero, List.getElem?_cons_succ, List.set_cons_zero, List.set_cons_succ, R.bind_ok, sCons, sNil, sIf, sRet, retL, dropL, sSet, setL, sDrop, sUnp, sPar, lNil, lCons, kF, putL, gN, gT, gAll, kC, kX, kD, kG, kS, scl, k1, k2, L.get, L.take, T.toD, aNil, aCons, kTup, kLst, bVal, bAnd, bOr, bNot, kAnd, kOr, kNot, kIf, boolOf, kCall, cNil, cV, cMv, cPass, lend, back, resL, outs, endOf, srcAt, kSGet, kSLen, kInt, SF.get, SF.put, bl, nm, if_true, if_false, Bool.false_eq_true, Bool.not_true, Bool.not_false, D_u_law_pieces, kDisp, dCons, dNil, r0, sFor, iSeq, r2, r1, seq_l, a1, iK, pk_keys, b1, kComp, hw, hz, pTuple, im, szOk2, Nat.reduceLeDiff, rm, Nat.zero_le, Nat.le_refl]
end K06

set_option Elab.async false
set_option linter.all false
set_option maxRecDepth 100000
set_option maxHeartbeats 4000000
set_option pp.maxSteps 600
namespace K06
open PySem KV
/-! ### the pieces, by the program -/
abbrev qC : BV := (bVal (k2 pNe (kX 3) (kLst aNil)))
abbrev qB : SV := (sCons (sSet 5 (kPopL 3)) (sCons (sIf (bVal (k2 pNotIn (kX 5) (kX 4))) (sCons (sPt 4 (kX 5) (kC (.bool true))) (sCons (sDrop (kExt 3 (kComp (iSeq (kCall (D_programs_said).run (cV (k2 pIx (kX 2) (kX 5)) cNil))) (gT [(gN 7), (gN 6)]) none (kX 6) [7, 6]))) sNil)) sNil) sNil))
def unf (ns f : List Str) : Nat := (ns.filter fun y => !decide (y ∈ f)).length
theorem unf_le {f : List Str} {h : Str} : ∀ {ns : List Str}, unf ns (f ++ [h]) ≤ unf ns f
  | [] => Nat.le_refl _
  | a :: ns => by
    have ih := unf_le (f := f) (h := h) (ns := ns)
    unfold unf at ih ⊢
    rw [List.filter_cons, List.filter_cons]
    by_cases h1 : a ∈ f
    · have h2 : a ∈ f ++ [h] := List.mem_append_left _ h1
      simp only [h1, h2, decide_true, Bool.not_true, Bool.false_eq_true, if_false]
      exact ih
    · by_cases h2 : a ∈ f ++ [h]
      · simp only [h1, h2, decide_true, decide_false, Bool.not_true, Bool.not_false, Bool.false_eq_true, if_false, if_true, List.length_cons]
        omega
      · simp only [h1, h2, decide_false, Bool.not_false, if_true, List.length_cons]
        omega
theorem unf_lt {f : List Str} {h : Str} (hf : h ∉ f) : ∀ {ns : List Str}, h ∈ ns → unf ns (f ++ [h]) + 1 ≤ unf ns f
  | [], m => nomatch m
  | a :: ns, m => by
    have le := unf_le (f := f) (h := h) (ns := ns)
    by_cases e : a = h
    · subst e
      unfold unf at le ⊢
      rw [List.filter_cons, List.filter_cons]
      have h2 : a ∈ f ++ [a] := by simp
      simp only [hf, h2, decide_true, decide_false, Bool.not_true, Bool.not_false, Bool.false_eq_true, if_false, if_true, List.length_cons]
      omega
    · have m2 : h ∈ ns := by
        rcases List.mem_cons.mp m with q | q
        · exact (e q.symm).elim
        · exact q
      have ih := unf_lt hf m2
      unfold unf at ih ⊢
      rw [List.filter_cons, List.filter_cons]
      have hiff : a ∈ f ++ [h] ↔ a ∈ f := by simp [e]
      by_cases h1 : a ∈ f
      · have h2 := hiff.mpr h1
        simp only [h1, h2, decide_true, Bool.not_true, Bool.false_eq_true, if_false]
        exact ih
      · have h2 : a ∉ f ++ [h] := fun z => h1 (hiff.mp z)
        simp only [h1, h2, decide_false, Bool.not_false, if_true, List.length_cons]
        omega
theorem said_pp {x : It} (h : x.isPP = true) : x.said.length ≤ 2 := by cases x <;> simp_all [It.isPP, It.said]
def qS' (ses : D) (na : Str) (ks : List It) (line found : List Str) (v5 : Option T) : Sl := [some (.val ses), some (.val (.str na)), some (.dct (pk ks)), some (.lst (line.map .str)), some (.dct (wnE found)), v5, none, none]
structure Dfs (ks : List It) (na : Str) (line found : List Str) : Prop where
  ln : ∀ y ∈ line, y ∈ ks.map It.name
  st : na ∈ found ∨ na ∈ line
  cl : ∀ x ∈ ks, x.name ∈ found → ∀ y ∈ x.said, y.2 ∈ found ∨ y.2 ∈ line
  lt : ∀ C, Closed ks C → C na → (∀ y ∈ line, C y) ∧ ∀ y ∈ found, C y
  fl : found.length + unf (ks.map It.name) found ≤ ks.length
theorem ks_name {ks : List It} {y : Str} (h : y ∈ ks.map It.name) : ∃ P x S, ks = P ++ x :: S ∧ x.name = y := by
  obtain ⟨x, hx, rfl⟩ := List.mem_map.mp h
  obtain ⟨P, S, e⟩ := List.append_of_mem hx
  exact ⟨P, x, S, e, rfl⟩
theorem WK.sk {ks : List It} (w : WK ks) {y : Str} (h : y ∈ ks.map It.name) : Sk y := by
  obtain ⟨P, x, S, e, rfl⟩ := ks_name h
  exact (w P x S e).2.1.nk
theorem saidE_names {x : It} {ses : D} {na : Str} {ks : List It} {line found : List Str} {v5 : Option T} : compD (gT [(gN 7), (gN 6)]) none (kX 6) [7, 6] (x.said.map saidE) (qS' ses na ks line found v5) = .ok (x.said.map fun y => .str y.2, qS' ses na ks line found v5) := by
  have hc := comp_map (g := gT [(gN 7), (gN 6)]) (c := none) (f := kX 6) (own := [7, 6]) (s := qS' ses na ks line found v5) saidE (fun y => [some (.val ses), some (.val (.str na)), some (.dct (pk ks)), some (.lst (line.map .str)), some (.dct (wnE found)), v5, some (.val (.str y.2)), some (.val (plE y.1))]) (fun _ => true) (fun y => .str y.2) rfl (xs := x.said)
    (fun x hx => ⟨rfl, rfl, rfl, fun _ => rfl⟩)
  rw [hc, List.filter_eq_self.mpr (fun _ _ => rfl)]
theorem dfs {ks : List It} {na : Str} {ses : D} (w : WK ks) (hl : ks.length ≤ 100) : ∀ (m : Nat) (s : Sl), (∃ line found v5, s = qS' ses na ks line found v5 ∧ line.length + 3 * unf (ks.map It.name) found = m ∧ m ≤ 1 + 3 * ks.length ∧ Dfs ks na line found) →
    (qC s).W fun r => if r.1 = true then (qB r.2).W fun q => (q.1 = .nx ∨ q.1 = .ct) ∧ ∃ m', m' < m ∧ ∃ line found v5, q.2 = qS' ses na ks line found v5 ∧ line.length + 3 * unf (ks.map It.name) found = m' ∧ m' ≤ 1 + 3 * ks.length ∧ Dfs ks na line found
      else ∃ found v5, r.2 = qS' ses na ks [] found v5 ∧ Want ks na ks found := by
  rintro m s ⟨line, found, v5, rfl, hm, hb, d⟩
  have ne : pNe (.list (line.map PyData.str)) (.list []) = bl (!line.isEmpty) := by
    have := pNe_nil (xs := line.map PyData.str) ((fit_lst (fit_strs fun z hz => w.sk (d.ln z hz)) (Nat.le_refl _)).eqOk (by decide))
    rw [List.isEmpty_map] at this
    exact this
  rcases List.eq_nil_or_concat line with rfl | ⟨init, h, rfl⟩
  · have c0 : qC (qS' ses na ks [] found v5) = .ok (false, qS' ses na ks [] found v5) := by
      simp only [qS'] at ne ⊢
      simp only [List.map_nil, List.isEmpty_nil] at ne
      simp only [run_mk, List.map_cons, List.map_nil, List.length_cons, List.length_nil, List.cons_append, List.nil_append, List.replicate_succ, List.replicate_zero, Nat.reduceAdd, Nat.reduceSub, List.getElem?_cons_zero, List.getElem?_cons_succ, List.set_cons_zero, List.set_cons_succ, R.bind_ok, sCons, sNil, sIf, sRet, retL, dropL, sSet, setL, sDrop, sUnp, sPar, lNil, lCons, kF, putL, gN, gT, gAll, kC, kX, kD, kG, kS, scl, k1, k2, L.get, L.take, T.toD, aNil, aCons, kTup, kLst, bVal, bAnd, bOr, bNot, kAnd, kOr, kNot, kIf, boolOf, kCall, cNil, cV, cMv, cPass, lend, back, resL, outs, endOf, srcAt, kSGet, kSLen, kInt, SF.get, SF.put, bl, nm, if_true, if_false, Bool.false_eq_true, Bool.not_true, Bool.not_false, qC, szOk0, ne]
    refine R.W_of c0 ?_
    rw [if_neg (by simp)]
    exact ⟨found, v5, rfl, ⟨d.st.resolve_right (by simp), fun x hx hn y hy => (d.cl x hx hn y hy).resolve_right (by simp), fun C hC hna => (d.lt C hC hna).2⟩⟩
  · rw [List.concat_eq_append] at *
    have ne1 : pNe (.list ((init ++ [h]).map PyData.str)) (.list []) = bl true := by
      rw [ne]
      cases init <;> rfl
    have c0 : qC (qS' ses na ks (init ++ [h]) found v5) = .ok (true, qS' ses na ks (init ++ [h]) found v5) := by
      simp only [qS']
      simp only [run_mk, List.map_cons, List.map_nil, List.length_cons, List.length_nil, List.cons_append, List.nil_append, List.replicate_succ, List.replicate_zero, Nat.reduceAdd, Nat.reduceSub, List.getElem?_cons_zero, List.getElem?_cons_succ, List.set_cons_zero, List.set_cons_succ, R.bind_ok, sCons, sNil, sIf, sRet, retL, dropL, sSet, setL, sDrop, sUnp, sPar, lNil, lCons, kF, putL, gN, gT, gAll, kC, kX, kD, kG, kS, scl, k1, k2, L.get, L.take, T.toD, aNil, aCons, kTup, kLst, bVal, bAnd, bOr, bNot, kAnd, kOr, kNot, kIf, boolOf, kCall, cNil, cV, cMv, cPass, lend, back, resL, outs, endOf, srcAt, kSGet, kSLen, kInt, SF.get, SF.put, bl, nm, if_true, if_false, Bool.false_eq_true, Bool.not_true, Bool.not_false, qC, szOk0, ne1]
    refine R.W_of c0 ?_
    rw [if_pos rfl]
    have em : (init ++ [h]).map PyData.str = init.map PyData.str ++ [.str h] := by simp
    have la : (init.map PyData.str ++ [PyData.str h])[(init.map PyData.str ++ [PyData.str h]).length - 1]? = some (.str h) := last_app
    have ll : init.length ≤ 400 := by rw [List.length_append, List.length_singleton] at hm; omega
    rw [List.length_append, List.length_singleton] at hm
    have hin := d.ln h (by simp)
    by_cases hf : h ∈ found
    · have d1 := decide_eq_true hf
      have step : qB (qS' ses na ks (init ++ [h]) found v5) = .ok (.nx, qS' ses na ks init found (some (.val (.str h)))) := by
        simp only [qS', em]
        simp only [run_mk, List.map_cons, List.map_nil, List.length_cons, List.length_nil, List.cons_append, List.nil_append, List.replicate_succ, List.replicate_zero, Nat.reduceAdd, Nat.reduceSub, List.getElem?_cons_zero, List.getElem?_cons_succ, List.set_cons_zero, List.set_cons_succ, R.bind_ok, sCons, sNil, sIf, sRet, retL, dropL, sSet, setL, sDrop, sUnp, sPar, lNil, lCons, kF, putL, gN, gT, gAll, kC, kX, kD, kG, kS, scl, k1, k2, L.get, L.take, T.toD, aNil, aCons, kTup, kLst, bVal, bAnd, bOr, bNot, kAnd, kOr, kNot, kIf, boolOf, kCall, cNil, cV, cMv, cPass, lend, back, resL, outs, endOf, srcAt, kSGet, kSLen, kInt, SF.get, SF.put, bl, nm, if_true, if_false, Bool.false_eq_true, Bool.not_true, Bool.not_false, qB, kPopL, la, List.dropLast_concat, notIn_dict, has_wnE, d1]
      refine R.W_of step ⟨.inl rfl, _, ?_, init, found, _, rfl, rfl, ?_, ⟨fun y hy => d.ln y (List.mem_append_left _ hy), ?_, fun x hx hn y hy => ?_, fun C hC hna => ⟨fun y hy => (d.lt C hC hna).1 y (List.mem_append_left _ hy), (d.lt C hC hna).2⟩, d.fl⟩⟩
      · omega
      · omega
      · rcases d.st with q | q
        · exact .inl q
        · rcases List.mem_append.mp q with q | q
          · exact .inr q
          · simp at q; exact .inl (q ▸ hf)
      · rcases d.cl x hx hn y hy with q | q
        · exact .inl q
        · rcases List.mem_append.mp q with q | q
          · exact .inr q
          · simp at q; exact .inl (q ▸ hf)
    · have d1 := decide_eq_false hf
      obtain ⟨P, x, S, hk, hx⟩ := ks_name hin
      subst hx
      obtain ⟨px, ox, nx, sx⟩ := w P x S hk
      have ix := ix_pk w hk
      have so := said_ok ox
      have sp := said_pp px
      have lt := unf_lt hf hin
      have fl := d.fl
      have hz1 : szOk ((wnE found).length + 1) = true := szOk_of (by unfold wnE; rw [List.length_map]; omega)
      have hz2 : szOk (x.said.map fun y => PyData.str y.2).length = true := szOk_of (by rw [List.length_map]; omega)
      have hz3 : szOk ((init.map PyData.str).length + (x.said.map fun y => PyData.str y.2).length) = true := szOk_of (by rw [List.length_map, List.length_map]; omega)
      have pt : putD (wnE found) (.str x.name) (.bool true) = wnE (found ++ [x.name]) := by rw [put_wnE, if_neg hf]
      have hc := saidE_names (x := x) (ses := ses) (na := na) (ks := ks) (line := init) (found := found ++ [x.name]) (v5 := some (.val (.str x.name)))
      have step : qB (qS' ses na ks (init ++ [x.name]) found v5) = .ok (.nx, qS' ses na ks (init ++ x.said.map (·.2)) (found ++ [x.name]) (some (.val (.str x.name)))) := by
        have em2 : (init ++ x.said.map (·.2)).map PyData.str = init.map PyData.str ++ x.said.map fun y => PyData.str y.2 := by rw [List.map_append, List.map_map]; rfl
        simp only [qS', em, em2] at hc ⊢
        simp only [run_mk, List.map_cons, List.map_nil, List.length_cons, List.length_nil, List.cons_append, List.nil_append, List.replicate_succ, List.replicate_zero, Nat.reduceAdd, Nat.reduceSub, List.getElem?_cons_zero, List.getElem?_cons_succ, List.set_cons_zero, List.set_cons_succ, R.bind_ok, sCons, sNil, sIf, sRet, retL, dropL, sSet, setL, sDrop, sUnp, sPar, lNil, lCons, kF, putL, gN, gT, gAll, kC, kX, kD, kG, kS, scl, k1, k2, L.get, L.take, T.toD, aNil, aCons, kTup, kLst, bVal, bAnd, bOr, bNot, kAnd, kOr, kNot, kIf, boolOf, kCall, cNil, cV, cMv, cPass, lend, back, resL, outs, endOf, srcAt, kSGet, kSLen, kInt, SF.get, SF.put, bl, nm, if_true, if_false, Bool.false_eq_true, Bool.not_true, Bool.not_false, qB, kPopL, la, List.dropLast_concat, notIn_dict, has_wnE, d1, sPt, key_str, hz1, Bool.and_self, pt, ix, so, kComp, iSeq, seq_l, hc, hz2, kExt, hz3]
      refine R.W_of step ⟨.inl rfl, _, ?_, _, _, _, rfl, rfl, ?_, ⟨fun y hy => ?_, ?_, fun z hz hn y hy => ?_, fun C hC hna => ⟨fun y hy => ?_, fun y hy => ?_⟩, ?_⟩⟩
      · rw [List.length_append, List.length_map]; omega
      · rw [List.length_append, List.length_map]; omega
      · rcases List.mem_append.mp hy with q | q
        · exact d.ln y (List.mem_append_left _ q)
        · obtain ⟨y', hy', rfl⟩ := List.mem_map.mp q
          have := sx y' hy'
          rw [hk, List.map_append]
          exact List.mem_append_left _ this
      · rcases d.st with q | q
        · exact .inl (List.mem_append_left _ q)
        · rcases List.mem_append.mp q with q | q
          · exact .inr (List.mem_append_left _ q)
          · exact .inl (List.mem_append_right _ q)
      · rcases List.mem_append.mp hn with q | q
        · rcases d.cl z hz q y hy with q | q
          · exact .inl (List.mem_append_left _ q)
          · rcases List.mem_append.mp q with q | q
            · exact .inr (List.mem_append_left _ q)
            · exact .inl (List.mem_append_right _ q)
        · rw [List.mem_singleton] at q
          have : z = x := by
            obtain ⟨P', S', hk'⟩ := List.append_of_mem hz
            have ixz := ix_pk w hk'
            rw [q, ix] at ixz
            have ee : x.enc = z.enc := by injection ixz with e; injection e
            by_cases hzx : z = x
            · exact hzx
            · exfalso
              rw [hk] at hz
              rcases List.mem_append.mp hz with m | m
              · exact nx (q ▸ List.mem_map.mpr ⟨z, m, rfl⟩)
              · rcases List.mem_cons.mp m with m | m
                · exact hzx m
                · obtain ⟨S1, S2, rfl⟩ := List.append_of_mem m
                  exact (w (P ++ x :: S1) z S2 (by rw [hk]; simp)).2.2.1 (by rw [q]; simp)
          subst this
          exact .inr (List.mem_append_right _ (List.mem_map.mpr ⟨y, hy, rfl⟩))
      · rcases List.mem_append.mp hy with q | q
        · exact (d.lt C hC hna).1 y (List.mem_append_left _ q)
        · obtain ⟨y', hy', rfl⟩ := List.mem_map.mp q
          exact hC x (by rw [hk]; simp) ((d.lt C hC hna).1 x.name (by simp)) y' hy'
      · rcases List.mem_append.mp hy with q | q
        · exact (d.lt C hC hna).2 y q
        · rw [List.mem_singleton] at q
          exact q ▸ (d.lt C hC hna).1 x.name (by simp)
      · rw [List.length_append, List.length_singleton]
        omega
theorem unf_nil {ns : List Str} : unf ns [] = ns.length := by
  unfold unf
  rw [List.filter_eq_self.mpr (fun _ _ => by simp)]
theorem pieces_ok {w0 : D} {l : List It} {na : Str} (r : Right l) (hl : l.length ≤ 100) (hn : na ∈ (l.filter It.isPP).map It.name) : ∃ W, Want (l.filter It.isPP) na (l.filter It.isPP) W ∧
    D_pieces_of.run [.val (sesE w0 l), .val (.str na)] = .ok (.val (.tuple (((l.filter It.isPP).filter fun x => decide (x.name ∈ W)).map fun x => .str x.name)), []) := by
  have w := r.wk
  have kl : (l.filter It.isPP).length ≤ 100 := Nat.le_trans (List.length_filter_le ..) hl
  have t1 := told_ok (w := w0) (i := l.length) r.o (by omega)
  rw [List.take_length, r.dcs] at t1
  generalize hks : l.filter It.isPP = ks at w kl t1 hn
  have hw := while_inv (c := qC) (b := qB) (fun m s => ∃ line found v5, s = qS' (sesE w0 l) na ks line found v5 ∧ line.length + 3 * unf (ks.map It.name) found = m ∧ m ≤ 1 + 3 * ks.length ∧ Dfs ks na line found)
    (fun s => ∃ found v5, s = qS' (sesE w0 l) na ks [] found v5 ∧ Want ks na ks found) (dfs w kl) (n := fuel) (m := 1 + 3 * ks.length) (s := qS' (sesE w0 l) na ks [na] [] none)
    ⟨[na], [], none, rfl, by rw [unf_nil, List.length_map]; rfl, Nat.le_refl _, ⟨fun y hy => by simp at hy; exact hy ▸ hn, .inr (by simp), fun _ _ h => (nomatch h), fun C _ h => ⟨fun y hy => by simp at hy; exact hy ▸ h, fun _ h => (nomatch h)⟩, by rw [unf_nil, List.length_map]; simp⟩⟩ (by show _ < 1000000; omega)
  obtain ⟨⟨fl, s1⟩, e1, e2, W, v5, e3, wt⟩ := R.W_get hw
  simp only at e2 e3
  subst e2 e3
  refine ⟨W, wt, ?_⟩
  have hc := comp_map (g := gN 6) (c := some (bVal (k2 pIn (kX 6) (kX 4)))) (f := kX 6) (own := [6]) (s := [some (.val (sesE w0 l)), some (.val (.str na)), some (.val (.dict (pk ks))), some (.lst []), some (.dct (wnE W)), v5, none, none])
    (fun x : It => .str x.name) (fun x => [some (.val (sesE w0 l)), some (.val (.str na)), some (.val (.dict (pk ks))), some (.lst []), some (.dct (wnE W)), v5, some (.val (.str x.name)), none]) (fun x => decide (x.name ∈ W)) (fun x => .str x.name) rfl (xs := ks) (fun x hx => by
      refine ⟨rfl, rfl, ?_, fun _ => ?_⟩
      · simp only [bOf, run_mk, List.map_cons, List.map_nil, List.length_cons, List.length_nil, List.cons_append, List.nil_append, List.replicate_succ, List.replicate_zero, Nat.reduceAdd, Nat.reduceSub, List.getElem?_cons_zero, List.getElem?_cons_succ, List.set_cons_zero, List.set_cons_succ, R.bind_ok, sCons, sNil, sIf, sRet, retL, dropL, sSet, setL, sDrop, sUnp, sPar, lNil, lCons, kF, putL, gN, gT, gAll, kC, kX, kD, kG, kS, scl, k1, k2, L.get, L.take, T.toD, aNil, aCons, kTup, kLst, bVal, bAnd, bOr, bNot, kAnd, kOr, kNot, kIf, boolOf, kCall, cNil, cV, cMv, cPass, lend, back, resL, outs, endOf, srcAt, kSGet, kSLen, kInt, SF.get, SF.put, bl, nm, if_true, if_false, Bool.false_eq_true, Bool.not_true, Bool.not_false, in_dict, has_wnE]
      · simp only [run_mk, List.map_cons, List.map_nil, List.length_cons, List.length_nil, List.cons_append, List.nil_append, List.replicate_succ, List.replicate_zero, Nat.reduceAdd, Nat.reduceSub, List.getElem?_cons_zero, List.getElem?_cons_succ, List.set_cons_zero, List.set_cons_succ, R.bind_ok, sCons, sNil, sIf, sRet, retL, dropL, sSet, setL, sDrop, sUnp, sPar, lNil, lCons, kF, putL, gN, gT, gAll, kC, kX, kD, kG, kS, scl, k1, k2, L.get, L.take, T.toD, aNil, aCons, kTup, kLst, bVal, bAnd, bOr, bNot, kAnd, kOr, kNot, kIf, boolOf, kCall, cNil, cV, cMv, cPass, lend, back, resL, outs, endOf, srcAt, kSGet, kSLen, kInt, SF.get, SF.put, bl, nm, if_true, if_false, Bool.false_eq_true, Bool.not_true, Bool.not_false])
  have hz : szOk ((ks.filter fun x => decide (x.name ∈ W)).map fun x => PyData.str x.name).length = true := szOk_of (by
    rw [List.length_map]
    have := List.length_filter_le (fun x => decide (It.name x ∈ W)) ks
    omega)
  have zl : pLen (.tuple (l.map It.enc)) = .ok (.d (.int (l.length : Nat))) := pLenM
  have rm : mergeD [] ([] : List (D × D)) = wnE [] := rfl
  simp only [qS', List.map_cons, List.map_nil] at e1
  simp only [run_mk, List.map_cons, List.map_nil, List.length_cons, List.length_nil, List.cons_append, List.nil_append, List.replicate_succ, List.replicate_zero, Nat.reduceAdd, Nat.reduceSub, List.getElem?_cons_zero, List.getElem?_cons_succ, List.set_cons_zero, List.set_cons_succ, R.bind_ok, sCons, sNil, sIf, sRet, retL, dropL, sSet, setL, sDrop, sUnp, sPar, lNil, lCons, kF, putL, gN, gT, gAll, kC, kX, kD, kG, kS, scl, k1, k2, L.get, L.take, T.toD, aNil, aCons, kTup, kLst, bVal, bAnd, bOr, bNot, kAnd, kOr, kNot, kIf, boolOf, kCall, cNil, cV, cMv, cPass, lend, back, resL, outs, endOf, srcAt, kSGet, kSLen, kInt, SF.get, SF.put, bl, nm, if_true, if_false, Bool.false_eq_true, Bool.not_true, Bool.not_false, D_pieces_of, ses1, zl, t1, szOk1, kDisp, dNil, rm, Nat.zero_le, List.length_nil, sWhile, e1, kComp, iK, pk_keys, hc, hz, pTuple]
end K06

set_option Elab.async false
set_option linter.all false
set_option maxRecDepth 100000
set_option maxHeartbeats 4000000
set_option pp.maxSteps 600
namespace K06
open PySem KV
/-! ### programs_read -/
abbrev rB : SV := (sCons (sSet 5 (kComp (iSeq (kCall (D_programs_said).run (cV (k2 pIx (kX 2) (kX 4)) cNil))) (gT [(gN 6), (gN 7)]) none (kX 7) [6, 7])) (sCons (sPt 3 (kX 4) (kIf (bVal (k2 pNe (kX 5) (kLst aNil))) (k1 pSum (kComp (iSeq (kX 5)) (gN 7) none (k2 pIx (kX 3) (kX 7)) [7])) (kC (.int 1)))) sNil))
theorem lk_no : ∀ {M : List (Str × Int)} {y : Str}, y ∉ M.map (·.1) → lk M y = 0
  | [], y, _ => rfl
  | p :: M, y, h => by
    have h1 : ¬ p.1 = y := fun z => h (by rw [List.map_cons]; exact List.mem_cons.mpr (.inl z.symm))
    have h2 : y ∉ M.map (·.1) := fun z => h (by rw [List.map_cons]; exact List.mem_cons_of_mem _ z)
    have ih := lk_no h2
    simp only [lk, List.find?_cons, h1, decide_false] at ih ⊢
    exact ih
theorem lk_app : ∀ {M : List (Str × Int)} {n y : Str} {v : Int}, lk (M ++ [(n, v)]) y = if y ∈ M.map (·.1) then lk M y else if n = y then v else 0
  | [], n, y, v => by
    by_cases h : n = y
    · simp [lk, h]
    · simp [lk, h]
  | p :: M, n, y, v => by
    have ih := lk_app (M := M) (n := n) (y := y) (v := v)
    by_cases h : p.1 = y
    · have hm : y ∈ (p :: M).map (·.1) := by rw [List.map_cons]; exact List.mem_cons.mpr (.inl h.symm)
      rw [if_pos hm]
      simp [lk, h]
    · have e1 : lk (p :: M ++ [(n, v)]) y = lk (M ++ [(n, v)]) y := by simp [lk, h]
      have e2 : lk (p :: M) y = lk M y := by simp [lk, h]
      rw [e1, e2, ih]
      have hiff : (y ∈ (p :: M).map (·.1)) ↔ y ∈ M.map (·.1) := by
        rw [List.map_cons, List.mem_cons]
        exact ⟨fun z => z.resolve_left fun q => h q.symm, .inr⟩
      by_cases hm : y ∈ M.map (·.1)
      · rw [if_pos hm, if_pos (hiff.mpr hm)]
      · rw [if_neg hm, if_neg fun z => hm (hiff.mp z)]
structure Ag (W : List Str) (M' M : List (Str × Int)) : Prop where
  nm : M'.map (·.1) = (M.map (·.1)).filter fun y => decide (y ∈ W)
  lk : ∀ y ∈ W, lk M' y = lk M y
theorem Ag.mem {W : List Str} {M' M : List (Str × Int)} (a : Ag W M' M) {y : Str} (h : y ∈ W) : y ∈ M'.map (·.1) ↔ y ∈ M.map (·.1) := by
  rw [a.nm, List.mem_filter]
  exact ⟨fun z => z.1, fun z => ⟨z, decide_eq_true h⟩⟩
theorem Ag.cv {W : List Str} {M' M : List (Str × Int)} (a : Ag W M' M) {x : It} (h : ∀ y ∈ x.said, y.2 ∈ W) : cv M' x = cv M x := by
  unfold K06.cv
  have : x.said.map (fun y => K06.lk M' y.2) = x.said.map fun y => K06.lk M y.2 := List.map_congr_left fun y hy => a.lk y.2 (h y hy)
  rw [this]
theorem Ag.inn {W : List Str} {M' M : List (Str × Int)} (a : Ag W M' M) {n : Str} {v : Int} (h : n ∈ W) : Ag W (M' ++ [(n, v)]) (M ++ [(n, v)]) := by
  refine ⟨?_, fun y hy => ?_⟩
  · rw [List.map_append, List.map_append, List.filter_append, a.nm]
    simp [h]
  · rw [lk_app, lk_app, a.lk y hy]
    by_cases hm : y ∈ M.map (·.1)
    · rw [if_pos hm, if_pos ((a.mem hy).mpr hm)]
    · rw [if_neg hm, if_neg fun z => hm ((a.mem hy).mp z)]
theorem Ag.out {W : List Str} {M' M : List (Str × Int)} (a : Ag W M' M) {n : Str} {v : Int} (h : n ∉ W) : Ag W M' (M ++ [(n, v)]) := by
  refine ⟨?_, fun y hy => ?_⟩
  · rw [List.map_append, List.filter_append, a.nm]
    simp [h]
  · rw [lk_app, a.lk y hy]
    by_cases hm : y ∈ M.map (·.1)
    · rw [if_pos hm]
    · rw [if_neg hm, lk_no hm, if_neg (fun (z : n = y) => h (by rw [z]; exact hy))]
def rS (ses : D) (na : Str) (ks : List It) (M : List (Str × Int)) (v4 v5 : Option T) : Sl := [some (.val ses), some (.val (.str na)), some (.dct (pk ks)), some (.dct (mnE M)), v4, v5, none, none]
theorem read_loop {ks : List It} {na : Str} {ses : D} {W : List Str} (w : WK ks) (hl : ks.length ≤ 1000) (cl : ∀ x ∈ ks, x.name ∈ W → ∀ y ∈ x.said, y.2 ∈ W) : ∀ (S P : List It) (M M' : List (Str × Int)) (v4 v5 : Option T), ks = P ++ S → M.map (·.1) = P.map It.name → Ag W M' M →
    (forD (gN 4) rB ((S.filter fun x => decide (x.name ∈ W)).map fun x => .str x.name) (rS ses na ks M' v4 v5)).W fun r => r.1 = .nx ∧ ∃ M'' v4' v5', r.2 = rS ses na ks M'' v4' v5' ∧ Ag W M'' (tabF M S)
  | [], P, M, M', v4, v5, h, hM, ag => ⟨rfl, M', v4, v5, rfl, ag⟩
  | x :: S, P, M, M', v4, v5, h, hM, ag => by
    obtain ⟨px, ox, nx, sx⟩ := w P x S h
    have hin : x ∈ ks := by rw [h]; simp
    have nextM : (M ++ [(x.name, cv M x)]).map (·.1) = (P ++ [x]).map It.name := by rw [List.map_append, List.map_append, hM]; rfl
    by_cases hx : x.name ∈ W
    · have sW := cl x hin hx
      have ecv := ag.cv sW
      have ag2 : Ag W (M' ++ [(x.name, cv M' x)]) (M ++ [(x.name, cv M x)]) := by rw [ecv]; exact ag.inn hx
      have hn' : x.name ∉ M'.map (·.1) := fun z => nx (by rw [← hM]; exact (ag.mem hx).mp z)
      have inM : ∀ y ∈ x.said, y.2 ∈ M'.map (·.1) := fun y hy => (ag.mem (sW y hy)).mpr (by rw [hM]; exact sx y hy)
      have ix := ix_pk w h
      have so := said_ok ox
      have ne := said_ne ox
      have sp := said_pp px
      have hlen : M'.length ≤ 1000 := by
        have h1 := congrArg List.length ag.nm
        have h2 := List.length_filter_le (fun y => decide (y ∈ W)) (M.map (·.1))
        have h3 := congrArg List.length hM
        have h4 := congrArg List.length h
        rw [List.length_map] at h1
        rw [List.length_map, List.length_map] at h3
        rw [List.length_map] at h2
        rw [List.length_append] at h4
        omega
      have hz : szOk ((mnE M').length + 1) = true := szOk_of (by unfold mnE; rw [List.length_map]; omega)
      have hz1 : szOk (x.said.map fun y => PyData.str y.2).length = true := szOk_of (by rw [List.length_map]; omega)
      have pt := put_mnE (M := M') (n := x.name) (v := cv M' x) hn'
      have c1 := comp_map (g := gT [(gN 6), (gN 7)]) (c := none) (f := kX 7) (own := [6, 7]) (s := rS ses na ks M' (some (.val (.str x.name))) v5) saidE (fun y => [some (.val ses), some (.val (.str na)), some (.dct (pk ks)), some (.dct (mnE M')), some (.val (.str x.name)), v5, some (.val (plE y.1)), some (.val (.str y.2))]) (fun _ => true) (fun y => .str y.2) rfl (xs := x.said)
        (fun x hx => ⟨rfl, rfl, rfl, fun _ => rfl⟩)
      rw [List.filter_eq_self.mpr (fun _ _ => rfl)] at c1
      have fin : ∀ v5', (forD (gN 4) rB ((S.filter fun x => decide (x.name ∈ W)).map fun x => .str x.name) (rS ses na ks (M' ++ [(x.name, cv M' x)]) (some (.val (.str x.name))) v5')).W fun r => r.1 = .nx ∧ ∃ M'' v4' v5', r.2 = rS ses na ks M'' v4' v5' ∧ Ag W M'' (tabF M (x :: S)) := fun v5' =>
        read_loop w hl cl S (P ++ [x]) _ _ _ _ (by rw [h]; simp) nextM ag2
      have ef : ((x :: S).filter fun x => decide (x.name ∈ W)) = x :: S.filter fun x => decide (x.name ∈ W) := List.filter_cons_of_pos (decide_eq_true hx)
      rw [ef, List.map_cons]
      cases he : x.said.isEmpty with
      | true =>
        rw [he] at ne
        rw [cv_nil he] at pt
        have step : rB (rS ses na ks M' (some (.val (.str x.name))) v5) = .ok (.nx, rS ses na ks (M' ++ [(x.name, cv M' x)]) (some (.val (.str x.name))) (some (.lst (x.said.map fun y => .str y.2)))) := by
          rw [cv_nil he]
          simp only [rS] at c1 ⊢
          simp only [run_mk, List.map_cons, List.map_nil, List.length_cons, List.length_nil, List.cons_append, List.nil_append, List.replicate_succ, List.replicate_zero, Nat.reduceAdd, Nat.reduceSub, List.getElem?_cons_zero, List.getElem?_cons_succ, List.set_cons_zero, List.set_cons_succ, R.bind_ok, sCons, sNil, sIf, sRet, retL, dropL, sSet, setL, sDrop, sUnp, sPar, lNil, lCons, kF, putL, gN, gT, gAll, kC, kX, kD, kG, kS, scl, k1, k2, L.get, L.take, T.toD, aNil, aCons, kTup, kLst, bVal, bAnd, bOr, bNot, kAnd, kOr, kNot, kIf, boolOf, kCall, cNil, cV, cMv, cPass, lend, back, resL, outs, endOf, srcAt, kSGet, kSLen, kInt, SF.get, SF.put, bl, nm, if_true, if_false, Bool.false_eq_true, Bool.not_true, Bool.not_false, rB, ix, so, kComp, iSeq, seq_l, c1, hz1, ne, szOk0, sPt, key_str, hz, Bool.and_self, pt]
        rw [forD_nx (s1 := rS ses na ks M' (some (.val (.str x.name))) v5) (s := rS ses na ks M' v4 v5) rfl step (.inl rfl)]
        exact fin _
      | false =>
        rw [he] at ne
        rw [cv_cons he] at pt
        have hc := comp_map (g := gN 7) (c := none) (f := k2 pIx (kX 3) (kX 7)) (own := [7]) (s := rS ses na ks M' (some (.val (.str x.name))) (some (.val (.list (x.said.map fun y => .str y.2)))))
          (fun y : List Nat × Str => .str y.2) (fun y => [some (.val ses), some (.val (.str na)), some (.dct (pk ks)), some (.dct (mnE M')), some (.val (.str x.name)), some (.val (.list (x.said.map fun y => .str y.2))), none, some (.val (.str y.2))]) (fun _ => true) (fun y => .int (lk M' y.2)) rfl (xs := x.said) (fun y hy => by
            have e := pIx_mnE (M := M') (y := y.2) (inM y hy)
            refine ⟨rfl, rfl, rfl, fun _ => ?_⟩
            simp only [run_mk, List.map_cons, List.map_nil, List.length_cons, List.length_nil, List.cons_append, List.nil_append, List.replicate_succ, List.replicate_zero, Nat.reduceAdd, Nat.reduceSub, List.getElem?_cons_zero, List.getElem?_cons_succ, List.set_cons_zero, List.set_cons_succ, R.bind_ok, sCons, sNil, sIf, sRet, retL, dropL, sSet, setL, sDrop, sUnp, sPar, lNil, lCons, kF, putL, gN, gT, gAll, kC, kX, kD, kG, kS, scl, k1, k2, L.get, L.take, T.toD, aNil, aCons, kTup, kLst, bVal, bAnd, bOr, bNot, kAnd, kOr, kNot, kIf, boolOf, kCall, cNil, cV, cMv, cPass, lend, back, resL, outs, endOf, srcAt, kSGet, kSLen, kInt, SF.get, SF.put, bl, nm, if_true, if_false, Bool.false_eq_true, Bool.not_true, Bool.not_false, e])
        rw [List.filter_eq_self.mpr (fun _ _ => rfl)] at hc
        have hz2 : szOk (x.said.map fun y => PyData.int (lk M' y.2)).length = true := szOk_of (by rw [List.length_map]; omega)
        have sm := pSum_ok (l := x.said.map fun y => lk M' y.2)
        rw [List.map_map] at sm
        have sm : pSum (.list (x.said.map fun y => PyData.int (lk M' y.2))) = _ := sm
        have step : rB (rS ses na ks M' (some (.val (.str x.name))) v5) = .ok (.nx, rS ses na ks (M' ++ [(x.name, cv M' x)]) (some (.val (.str x.name))) (some (.val (.list (x.said.map fun y => .str y.2))))) := by
          rw [cv_cons he]
          simp only [rS] at c1 hc ⊢
          simp only [run_mk, List.map_cons, List.map_nil, List.length_cons, List.length_nil, List.cons_append, List.nil_append, List.replicate_succ, List.replicate_zero, Nat.reduceAdd, Nat.reduceSub, List.getElem?_cons_zero, List.getElem?_cons_succ, List.set_cons_zero, List.set_cons_succ, R.bind_ok, sCons, sNil, sIf, sRet, retL, dropL, sSet, setL, sDrop, sUnp, sPar, lNil, lCons, kF, putL, gN, gT, gAll, kC, kX, kD, kG, kS, scl, k1, k2, L.get, L.take, T.toD, aNil, aCons, kTup, kLst, bVal, bAnd, bOr, bNot, kAnd, kOr, kNot, kIf, boolOf, kCall, cNil, cV, cMv, cPass, lend, back, resL, outs, endOf, srcAt, kSGet, kSLen, kInt, SF.get, SF.put, bl, nm, if_true, if_false, Bool.false_eq_true, Bool.not_true, Bool.not_false, rB, ix, so, kComp, iSeq, seq_l, c1, hz1, ne, szOk0, hc, hz2, sm, sPt, key_str, hz, Bool.and_self, pt]
        rw [forD_nx (s1 := rS ses na ks M' (some (.val (.str x.name))) v5) (s := rS ses na ks M' v4 v5) rfl step (.inl rfl)]
        exact fin _
    · have ef : ((x :: S).filter fun x => decide (x.name ∈ W)) = S.filter fun x => decide (x.name ∈ W) := List.filter_cons_of_neg (by simp [hx])
      rw [ef]
      exact read_loop w hl cl S (P ++ [x]) (M ++ [(x.name, cv M x)]) M' v4 v5 (by rw [h]; simp) nextM (ag.out hx)
theorem read_ok {w0 : D} {l : List It} {na : Str} (r : Right l) (hl : l.length ≤ 100) (hn : na ∈ (l.filter It.isPP).map It.name) :
    D_programs_read.run [.val (sesE w0 l), .val (.str na)] = .ok (.val (.int (lk (tabF [] (l.filter It.isPP)) na)), []) := by
  obtain ⟨W, wt, ep⟩ := pieces_ok (w0 := w0) r hl hn
  have w := r.wk
  have kl : (l.filter It.isPP).length ≤ 100 := Nat.le_trans (List.length_filter_le ..) hl
  have t1 := told_ok (w := w0) (i := l.length) r.o (by omega)
  rw [List.take_length, r.dcs] at t1
  generalize hks : l.filter It.isPP = ks at w kl t1 hn wt ep
  obtain ⟨⟨fl, s1⟩, e1, e2, M', v4, v5, e3, ag⟩ := R.W_get (read_loop (na := na) (ses := sesE w0 l) (W := W) w (by omega) wt.cl ks [] [] [] none none rfl rfl ⟨rfl, fun _ _ => rfl⟩)
  simp only at e2 e3
  subst e2 e3
  have im := pIx_mnE (M := M') (y := na) ((ag.mem wt.h0).mpr (by rw [tab_names]; simpa using hn))
  rw [ag.lk na wt.h0] at im
  have zl : pLen (.tuple (l.map It.enc)) = .ok (.d (.int (l.length : Nat))) := pLenM
  have rm : mergeD [] ([] : List (D × D)) = mnE [] := rfl
  simp only [rS] at e1
  simp only [run_mk, List.map_cons, List.map_nil, List.length_cons, List.length_nil, List.cons_append, List.nil_append, List.replicate_succ, List.replicate_zero, Nat.reduceAdd, Nat.reduceSub, List.getElem?_cons_zero, List.getElem?_cons_succ, List.set_cons_zero, List.set_cons_succ, R.bind_ok, sCons, sNil, sIf, sRet, retL, dropL, sSet, setL, sDrop, sUnp, sPar, lNil, lCons, kF, putL, gN, gT, gAll, kC, kX, kD, kG, kS, scl, k1, k2, L.get, L.take, T.toD, aNil, aCons, kTup, kLst, bVal, bAnd, bOr, bNot, kAnd, kOr, kNot, kIf, boolOf, kCall, cNil, cV, cMv, cPass, lend, back, resL, outs, endOf, srcAt, kSGet, kSLen, kInt, SF.get, SF.put, bl, nm, if_true, if_false, Bool.false_eq_true, Bool.not_true, Bool.not_false, D_programs_read, ses1, zl, t1, kDisp, dNil, rm, Nat.zero_le, List.length_nil, sFor, iSeq, ep, seq_t, e1, im]
theorem Want.same {ks : List It} {na : Str} {W W' : List Str} (a : Want ks na ks W) (b : Want ks na ks W') : (ks.filter fun x => decide (x.name ∈ W)) = ks.filter fun x => decide (x.name ∈ W') := by
  apply List.filter_congr
  intro x hx
  exact decide_eq_decide.mpr ⟨fun z => a.lt (· ∈ W') b.cl b.h0 _ z, fun z => b.lt (· ∈ W) a.cl a.h0 _ z⟩
theorem both_ok {w0 : D} {l : List It} {na : Str} (r : Right l) (hl : l.length ≤ 100) (hn : na ∈ (l.filter It.isPP).map It.name) : ∃ (ps : List Str) (n : Int),
    D_u_law_pieces.run [.val (.dict (pk (l.filter It.isPP))), .val (.str na)] = .ok (.val (.tuple [.tuple (ps.map .str), .int n]), []) ∧
    D_pieces_of.run [.val (sesE w0 l), .val (.str na)] = .ok (.val (.tuple (ps.map .str)), []) ∧
    D_programs_read.run [.val (sesE w0 l), .val (.str na)] = .ok (.val (.int n), []) ∧ ps.length ≤ 100 ∧ ∀ y ∈ ps, Sk y := by
  have kl : (l.filter It.isPP).length ≤ 100 := Nat.le_trans (List.length_filter_le ..) hl
  obtain ⟨W, wt, e1⟩ := lpieces_ok r.wk hn kl
  obtain ⟨W', wt', e2⟩ := pieces_ok (w0 := w0) r hl hn
  rw [wt'.same wt] at e2
  refine ⟨((l.filter It.isPP).filter fun x => decide (x.name ∈ W)).map It.name, lk (tabF [] (l.filter It.isPP)) na, ?_, ?_, read_ok r hl hn, ?_, fun y hy => ?_⟩
  · rw [e1, List.map_map]; rfl
  · rw [e2, List.map_map]; rfl
  · rw [List.length_map]
    exact Nat.le_trans (List.length_filter_le ..) kl
  · obtain ⟨x, hx, rfl⟩ := List.mem_map.mp hy
    exact r.wk.sk (List.mem_map.mpr ⟨x, (List.mem_filter.mp hx).1, rfl⟩)
end K06

set_option Elab.async false
set_option linter.all false
set_option maxRecDepth 100000
set_option maxHeartbeats 4000000
set_option pp.maxSteps 600
namespace K06
open PySem KV
/-! ### drawn items -/
def actsD (i : Nat) : D := match i with
  | 0 => .tuple [.tuple [.str "put", .tuple [.str "it"], .str "x"]]
  | 1 => .tuple [.tuple [.str "tell", .tuple [.str "box", .str "x"]], .tuple [.str "go", .str "m"]]
  | 2 => .tuple [.tuple [.str "drop", .str "x"]]
  | _ => .tuple []
def modeD (i : Nat) (b : Bool) : D := .tuple [.tuple [.str "m", .bool b, .tuple [.tuple [.tuple [.str "any"], actsD i]]]]
theorem modeD_fit {i : Nat} {b : Bool} (h : i < 4) : fit 10 300 (modeD i b) := by
  have : i = 0 ∨ i = 1 ∨ i = 2 ∨ i = 3 := by omega
  rcases this with rfl | rfl | rfl | rfl <;> cases b <;> exact ⟨by kernel_rfl, Nat.le_of_ble_eq_true (by kernel_rfl), Nat.le_of_ble_eq_true (by kernel_rfl), by kernel_rfl, by kernel_rfl⟩
theorem modeD_tup {i : Nat} {b : Bool} (h : i < 4) : tupOnly (modeD i b) = true := by
  have : i = 0 ∨ i = 1 ∨ i = 2 ∨ i = 3 := by omega
  rcases this with rfl | rfl | rfl | rfl <;> cases b <;> kernel_rfl
theorem modeD_use {i : Nat} {b : Bool} (h : i < 4) (na : Str) (w : D) : D_wrong_use.run [.val w, .val (.tuple [.str na, .tuple [.str "x"], modeD i b])] = .ok (.val .none, []) := by
  have : i = 0 ∨ i = 1 ∨ i = 2 ∨ i = 3 := by omega
  rcases this with rfl | rfl | rfl | rfl <;> kernel_rfl
theorem sk_x : Sk "x" := ⟨by kernel_rfl, Nat.le_of_ble_eq_true (by kernel_rfl)⟩
theorem tup_cons {d : D} {ds : List D} (h1 : tupOnly d = true) (h2 : tupOnly (.tuple ds) = true) : tupOnly (.tuple (d :: ds)) = true := by
  rw [tupOnly] at h2 ⊢
  rw [tupAll, h1, h2]
  rfl
theorem tup_nil : tupOnly (.tuple []) = true := by kernel_rfl
theorem tup_str {x : Str} : tupOnly (.str x) = true := by rw [tupOnly]
theorem ok_prog {i : Nat} {b : Bool} {na : Str} (h : i < 4) (hn : Sk na) : OkI (.prog na (.tuple [.str "x"]) (modeD i b)) := by
  refine ⟨hn, fun _ h => (nomatch h), ?_, ?_, fun na' b' m' e w => ?_, fun _ _ _ e => (nomatch e), fun _ _ _ e => (nomatch e), fun _ _ _ e => (nomatch e)⟩
  · exact fit_cons (n := 10) (fit_sk w_program.sk) (fit_cons (fit_sk hn) (fit_cons (fit_cons (n := 9) (fit_sk sk_x) fit_t0 (Nat.le_refl _)) (fit_cons (modeD_fit h) fit_t0 (Nat.le_refl _)) (Nat.le_refl _)) (Nat.le_refl _)) (by omega)
  · exact tup_cons tup_str (tup_cons tup_str (tup_cons (tup_cons tup_str tup_nil) (tup_cons (modeD_tup h) tup_nil)))
  · cases e
    exact modeD_use h na w
theorem lprog_ok {S : Src} {na : Str} (hS : Sok S) (hn : Sk na) : ∃ (x : It) (S' : Src), D_u_law_program.run [.src S, .val (.str na)] = .ok (.val x.enc, [.src S']) ∧ (OkI x ∧ x.isFd = false) ∧ Sok S' := by
  obtain ⟨d, S1, o1, ⟨i, hi, rfl⟩, hS1⟩ := of2 S [.tuple [.tuple [.str "put", .tuple [.str "it"], .str "x"]], .tuple [.tuple [.str "tell", .tuple [.str "box", .str "x"]], .tuple [.str "go", .str "m"]], .tuple [.tuple [.str "drop", .str "x"]], .tuple []] (P := fun d => ∃ i, i < 4 ∧ d = actsD i) hS (by simp) (by simp) (fun d hd => by
    simp only [List.mem_cons, List.not_mem_nil, or_false] at hd
    rcases hd with rfl | rfl | rfl | rfl
    · exact ⟨0, by omega, rfl⟩
    · exact ⟨1, by omega, rfl⟩
    · exact ⟨2, by omega, rfl⟩
    · exact ⟨3, by omega, rfl⟩)
  obtain ⟨r, S2, p1, hr, hS2⟩ := pickI (n := 2) 2 S1 rfl hS1 (by decide) (by decide)
  refine ⟨.prog na (.tuple [.str "x"]) (modeD i (decide ((r : Int) = 0))), S2, ?_, ⟨ok_prog hi hn, rfl⟩, hS2⟩
  simp only [run_mk, List.map_cons, List.map_nil, List.length_cons, List.length_nil, List.cons_append, List.nil_append, List.replicate_succ, List.replicate_zero, Nat.reduceAdd, Nat.reduceSub, List.getElem?_cons_zero, List.getElem?_cons_succ, List.set_cons_zero, List.set_cons_succ, R.bind_ok, sCons, sNil, sIf, sRet, retL, dropL, sSet, setL, sDrop, sUnp, sPar, lNil, lCons, kF, putL, gN, gT, gAll, kC, kX, kD, kG, kS, scl, k1, k2, L.get, L.take, T.toD, aNil, aCons, kTup, kLst, bVal, bAnd, bOr, bNot, kAnd, kOr, kNot, kIf, boolOf, kCall, cNil, cV, cMv, cPass, lend, back, resL, outs, endOf, srcAt, kSGet, kSLen, kInt, SF.get, SF.put, bl, nm, if_true, if_false, Bool.false_eq_true, Bool.not_true, Bool.not_false, D_u_law_program, szOk0, szOk1, szOk2, szOk3, szOk4, o1, p1, pEq_int, It.enc, modeD]
theorem of_str (S : Src) (ns : List Str) (hS : Sok S) (hn : ns ≠ []) (hl : ns.length ≤ 1000) (hk : ∀ x ∈ ns, Sk x) : ∃ (y : Str) (S' : Src), D_u_law_of.run [.src S, .val (.list (ns.map .str))] = .ok (.val (.str y), [.src S']) ∧ y ∈ ns ∧ Sok S' := by
  obtain ⟨d, S', h1, ⟨y, hy, rfl⟩, h3⟩ := of2 S (ns.map .str) (P := fun d => ∃ y, y ∈ ns ∧ d = .str y) hS (by rw [List.length_map]; exact List.length_pos_iff.mpr hn) (by rw [List.length_map]; omega) (fun d hd => by
    obtain ⟨y, hy, rfl⟩ := List.mem_map.mp hd
    exact ⟨y, hy, rfl⟩)
  exact ⟨y, S', h1, hy, h3⟩
/-- plain items of words and names -/
theorem fit2s {w a : Str} {k : Nat} (hw : Sk w) (ha : Sk a) {r : List D} (hr : fit 11 k (.tuple r)) (hk : k ≤ 500) : fit 11 600 (.tuple (.str w :: .str a :: r)) := fit_cons (n := 10) (fit_sk hw) (fit_cons (n := 10) (fit_sk ha) hr (Nat.le_refl _)) (by omega)
theorem f1 {a : Str} (ha : Sk a) : fit 11 21 (.tuple [.str a]) := fit_cons (n := 10) (fit_sk ha) fit_t0 (Nat.le_refl _)
theorem f2 {a b : Str} (ha : Sk a) (hb : Sk b) : fit 11 42 (.tuple [.str a, .str b]) := fit_cons (n := 10) (fit_sk ha) (f1 hb) (Nat.le_refl _)
theorem f3 {a b c : Str} (ha : Sk a) (hb : Sk b) (hc : Sk c) : fit 11 63 (.tuple [.str a, .str b, .str c]) := fit_cons (n := 10) (fit_sk ha) (f2 hb hc) (Nat.le_refl _)
theorem ok_pipe1 {na w a : Str} (h1 : Sk na) (h2 : Sk w) (h3 : Sk a) : OkI (.pipe1 na w a) :=
  ⟨h1, fun y hy => by simp [It.said] at hy; subst hy; exact h3, fit2s w_pipe.sk h1 (fit_cons (n := 10) (fit_cons (n := 9) (fit_sk h2) (fit_cons (n := 9) (fit_sk h3) fit_t0 (Nat.le_refl _)) (Nat.le_refl _)) fit_t0 (Nat.le_refl _)) (by omega), tup_cons tup_str (tup_cons tup_str (tup_cons (tup_cons tup_str (tup_cons tup_str tup_nil)) tup_nil)), fun _ _ _ e => (nomatch e), fun _ _ _ e => (nomatch e), fun _ _ _ e => (nomatch e), fun _ _ _ e => (nomatch e)⟩
theorem ok_pipe2 {na w a b : Str} (h1 : Sk na) (h2 : Sk w) (h3 : Sk a) (h4 : Sk b) : OkI (.pipe2 na w a b) :=
  ⟨h1, fun y hy => by simp [It.said] at hy; rcases hy with rfl | rfl <;> assumption, fit2s w_pipe.sk h1 (fit_cons (n := 10) (fit_cons (n := 9) (fit_sk h2) (fit_cons (n := 9) (fit_sk h3) (fit_cons (n := 9) (fit_sk h4) fit_t0 (Nat.le_refl _)) (Nat.le_refl _)) (Nat.le_refl _)) fit_t0 (Nat.le_refl _)) (by omega), tup_cons tup_str (tup_cons tup_str (tup_cons (tup_cons tup_str (tup_cons tup_str (tup_cons tup_str tup_nil))) tup_nil)), fun _ _ _ e => (nomatch e), fun _ _ _ e => (nomatch e), fun _ _ _ e => (nomatch e), fun _ _ _ e => (nomatch e)⟩
theorem ok_prom {na a b c : Str} (h1 : Sk na) (h2 : Sk a) (h3 : Sk b) (h4 : Sk c) : OkI (.prom na a b c) :=
  ⟨h1, fun y hy => by simp [It.said] at hy; rcases hy with rfl | rfl | rfl <;> assumption, fit2s w_promise.sk h1 (f3 h2 h3 h4) (by omega), tup_cons tup_str (tup_cons tup_str (tup_cons tup_str (tup_cons tup_str (tup_cons tup_str tup_nil)))), fun _ _ _ e => (nomatch e), fun _ _ _ e => (nomatch e), fun _ _ _ e => (nomatch e), fun _ _ _ e => (nomatch e)⟩
theorem ok_strm {na a : Str} (h1 : Sk na) (h2 : Sk a) : OkI (.strm na a) :=
  ⟨h1, fun y hy => by simp [It.said] at hy; subst hy; exact h2, fit2s w_stream.sk h1 (f1 h2) (by omega), tup_cons tup_str (tup_cons tup_str (tup_cons tup_str tup_nil)), fun _ _ _ e => (nomatch e), fun _ _ _ e => (nomatch e), fun _ _ _ e => (nomatch e), fun _ _ _ e => (nomatch e)⟩
theorem ok_kept {na : Str} (h1 : Sk na) : OkI (.kept na) :=
  ⟨h1, fun _ h => (nomatch h), fit2s w_kept.sk h1 (k := 0) fit_t0 (by omega), tup_cons tup_str (tup_cons tup_str tup_nil), fun _ _ _ e => (nomatch e), fun _ _ _ e => (nomatch e), fun _ _ _ e => (nomatch e), fun _ _ _ e => (nomatch e)⟩
theorem ok_feed {w na : Str} {r : List D} (hw : w = "feed" ∨ w = "back" ∨ w = "at") (hk : Sk w) (h1 : Sk na) (fr : fit 11 100 (.tuple r)) (tr : tupOnly (.tuple r) = true) : OkI (.feed w na r) :=
  ⟨h1, fun _ h => (nomatch h), fit2s hk h1 fr (by omega), tup_cons tup_str (tup_cons tup_str tr), fun _ _ _ e => (nomatch e), fun _ _ _ e => by cases e; exact hw, fun _ _ _ e => (nomatch e), fun _ _ _ e => (nomatch e)⟩
theorem ok_one {w na : Str} {r : List D} (hw : w = "run" ∨ w = "yes" ∨ w = "keeps" ∨ w = "ever" ∨ w = "always" ∨ w = "many" ∨ w = "size" ∨ w = "again" ∨ w = "learn") (hk : Sk w) (h1 : Sk na) (fr : fit 11 100 (.tuple r)) (tr : tupOnly (.tuple r) = true) : OkI (.one w na r) :=
  ⟨h1, fun y hy => by simp [It.said] at hy; subst hy; exact h1, fit2s hk h1 fr (by omega), tup_cons tup_str (tup_cons tup_str tr), fun _ _ _ e => (nomatch e), fun _ _ _ e => (nomatch e), fun _ _ _ e => by cases e; exact hw, fun _ _ _ e => (nomatch e)⟩
theorem ok_two {w na b : Str} (hw : w = "within" ∨ w = "alike") (hk : Sk w) (h1 : Sk na) (h2 : Sk b) : OkI (.two w na b) :=
  ⟨h1, fun y hy => by simp [It.said] at hy; rcases hy with rfl | rfl <;> assumption, fit2s hk h1 (f1 h2) (by omega), tup_cons tup_str (tup_cons tup_str (tup_cons tup_str tup_nil)), fun _ _ _ e => (nomatch e), fun _ _ _ e => (nomatch e), fun _ _ _ e => (nomatch e), fun _ _ _ e => by cases e; exact hw⟩
theorem sk_a : Sk "a" := ⟨by kernel_rfl, Nat.le_of_ble_eq_true (by kernel_rfl)⟩
theorem fA : fit 11 100 (.tuple [.tuple [.str "a"]]) := ⟨by kernel_rfl, Nat.le_of_ble_eq_true (by kernel_rfl), Nat.le_of_ble_eq_true (by kernel_rfl), by kernel_rfl, by kernel_rfl⟩
theorem tA : tupOnly (.tuple [.tuple [.str "a"]]) = true := by kernel_rfl
theorem rf_program : pEq (.str "program") (.str "feed") = bl false ∧ pIn (.str "program") (.tuple [.str "back", .str "at"]) = bl false := ⟨by kernel_rfl, by kernel_rfl⟩
theorem rf_pipe : pEq (.str "pipe") (.str "feed") = bl false ∧ pIn (.str "pipe") (.tuple [.str "back", .str "at"]) = bl false := ⟨by kernel_rfl, by kernel_rfl⟩
theorem rf_promise : pEq (.str "promise") (.str "feed") = bl false ∧ pIn (.str "promise") (.tuple [.str "back", .str "at"]) = bl false := ⟨by kernel_rfl, by kernel_rfl⟩
theorem rf_stream : pEq (.str "stream") (.str "feed") = bl false ∧ pIn (.str "stream") (.tuple [.str "back", .str "at"]) = bl false := ⟨by kernel_rfl, by kernel_rfl⟩
theorem rf_kept : pEq (.str "kept") (.str "feed") = bl false ∧ pIn (.str "kept") (.tuple [.str "back", .str "at"]) = bl false := ⟨by kernel_rfl, by kernel_rfl⟩
theorem rf_feed : pEq (.str "feed") (.str "feed") = bl true ∧ pIn (.str "feed") (.tuple [.str "back", .str "at"]) = bl false := ⟨by kernel_rfl, by kernel_rfl⟩
theorem rf_back : pEq (.str "back") (.str "feed") = bl false ∧ pIn (.str "back") (.tuple [.str "back", .str "at"]) = bl true := ⟨by kernel_rfl, by kernel_rfl⟩
theorem rf_at : pEq (.str "at") (.str "feed") = bl false ∧ pIn (.str "at") (.tuple [.str "back", .str "at"]) = bl true := ⟨by kernel_rfl, by kernel_rfl⟩
theorem rf_run : pEq (.str "run") (.str "feed") = bl false ∧ pIn (.str "run") (.tuple [.str "back", .str "at"]) = bl false := ⟨by kernel_rfl, by kernel_rfl⟩
theorem rf_yes : pEq (.str "yes") (.str "feed") = bl false ∧ pIn (.str "yes") (.tuple [.str "back", .str "at"]) = bl false := ⟨by kernel_rfl, by kernel_rfl⟩
theorem rf_keeps : pEq (.str "keeps") (.str "feed") = bl false ∧ pIn (.str "keeps") (.tuple [.str "back", .str "at"]) = bl false := ⟨by kernel_rfl, by kernel_rfl⟩
theorem rf_ever : pEq (.str "ever") (.str "feed") = bl false ∧ pIn (.str "ever") (.tuple [.str "back", .str "at"]) = bl false := ⟨by kernel_rfl, by kernel_rfl⟩
theorem rf_always : pEq (.str "always") (.str "feed") = bl false ∧ pIn (.str "always") (.tuple [.str "back", .str "at"]) = bl false := ⟨by kernel_rfl, by kernel_rfl⟩
theorem rf_many : pEq (.str "many") (.str "feed") = bl false ∧ pIn (.str "many") (.tuple [.str "back", .str "at"]) = bl false := ⟨by kernel_rfl, by kernel_rfl⟩
theorem rf_size : pEq (.str "size") (.str "feed") = bl false ∧ pIn (.str "size") (.tuple [.str "back", .str "at"]) = bl false := ⟨by kernel_rfl, by kernel_rfl⟩
theorem rf_again : pEq (.str "again") (.str "feed") = bl false ∧ pIn (.str "again") (.tuple [.str "back", .str "at"]) = bl false := ⟨by kernel_rfl, by kernel_rfl⟩
theorem rf_learn : pEq (.str "learn") (.str "feed") = bl false ∧ pIn (.str "learn") (.tuple [.str "back", .str "at"]) = bl false := ⟨by kernel_rfl, by kernel_rfl⟩
theorem rf_within : pEq (.str "within") (.str "feed") = bl false ∧ pIn (.str "within") (.tuple [.str "back", .str "at"]) = bl false := ⟨by kernel_rfl, by kernel_rfl⟩
theorem rf_alike : pEq (.str "alike") (.str "feed") = bl false ∧ pIn (.str "alike") (.tuple [.str "back", .str "at"]) = bl false := ⟨by kernel_rfl, by kernel_rfl⟩
theorem rf_other {x : It} (o : OkI x) (h : x.isFd = false) : pEq (.str x.word) (.str "feed") = bl false ∧ pIn (.str x.word) (.tuple [.str "back", .str "at"]) = bl false := by
  cases x with
  | prog na b m => exact rf_program
  | pipe1 na w a => exact rf_pipe
  | pipe2 na w a b => exact rf_pipe
  | prom na a b c => exact rf_promise
  | strm na a => exact rf_stream
  | kept na => exact rf_kept
  | feed w na r => simp [It.isFd] at h
  | one w na r => rcases o.on w na r rfl with z | z | z | z | z | z | z | z | z <;> subst z <;> first | exact rf_run | exact rf_yes | exact rf_keeps | exact rf_ever | exact rf_always | exact rf_many | exact rf_size | exact rf_again | exact rf_learn
  | two w na b => rcases o.ta w na b rfl with z | z <;> subst z <;> first | exact rf_within | exact rf_alike
theorem form_ok {x : It} (o : OkI x) (hf : ∀ w na r, x = .feed w na r → r = []) : ∃ x', D_u_law_right_form.run [.val x.enc] = .ok (.val x'.enc, []) ∧ OkI x' := by
  cases hx : x.isFd with
  | false =>
    obtain ⟨e1, e2⟩ := rf_other o hx
    refine ⟨x, ?_, o⟩
    simp only [run_mk, List.map_cons, List.map_nil, List.length_cons, List.length_nil, List.cons_append, List.nil_append, List.replicate_succ, List.replicate_zero, Nat.reduceAdd, Nat.reduceSub, List.getElem?_cons_zero, List.getElem?_cons_succ, List.set_cons_zero, List.set_cons_succ, R.bind_ok, sCons, sNil, sIf, sRet, retL, dropL, sSet, setL, sDrop, sUnp, sPar, lNil, lCons, kF, putL, gN, gT, gAll, kC, kX, kD, kG, kS, scl, k1, k2, L.get, L.take, T.toD, aNil, aCons, kTup, kLst, bVal, bAnd, bOr, bNot, kAnd, kOr, kNot, kIf, boolOf, kCall, cNil, cV, cMv, cPass, lend, back, resL, outs, endOf, srcAt, kSGet, kSLen, kInt, SF.get, SF.put, bl, nm, if_true, if_false, Bool.false_eq_true, Bool.not_true, Bool.not_false, D_u_law_right_form, enc0, e1, e2, szOk2]
  | true =>
    cases x with
    | feed w na r =>
      have := hf w na r rfl
      subst this
      rcases o.fd w na [] rfl with z | z | z <;> subst z
      · exact ⟨.feed "feed" na [.tuple [.str "a"]], by kernel_rfl, ok_feed (.inl rfl) w_feed.sk o.nk fA tA⟩
      · exact ⟨.feed "back" na [], by kernel_rfl, o⟩
      · exact ⟨.feed "at" na [], by kernel_rfl, o⟩
    | _ => simp [It.isFd] at hx
end K06

set_option Elab.async false
set_option linter.all false
set_option maxRecDepth 100000
set_option maxHeartbeats 4000000
set_option pp.maxSteps 600
namespace K06
open PySem KV
/-! ### a drawn item -/
theorem sl_then : Sk "then" := ⟨by kernel_rfl, Nat.le_of_ble_eq_true (by kernel_rfl)⟩
theorem sl_and : Sk "and" := ⟨by kernel_rfl, Nat.le_of_ble_eq_true (by kernel_rfl)⟩
theorem sl_or : Sk "or" := ⟨by kernel_rfl, Nat.le_of_ble_eq_true (by kernel_rfl)⟩
theorem sl_not : Sk "not" := ⟨by kernel_rfl, Nat.le_of_ble_eq_true (by kernel_rfl)⟩
theorem sl_s : Sk "s" := ⟨by kernel_rfl, Nat.le_of_ble_eq_true (by kernel_rfl)⟩
theorem sl_t : Sk "t" := ⟨by kernel_rfl, Nat.le_of_ble_eq_true (by kernel_rfl)⟩
theorem sl_p : Sk "p" := ⟨by kernel_rfl, Nat.le_of_ble_eq_true (by kernel_rfl)⟩
theorem sl_q : Sk "q" := ⟨by kernel_rfl, Nat.le_of_ble_eq_true (by kernel_rfl)⟩
theorem sl_r : Sk "r" := ⟨by kernel_rfl, Nat.le_of_ble_eq_true (by kernel_rfl)⟩
theorem sl_b : Sk "b" := ⟨by kernel_rfl, Nat.le_of_ble_eq_true (by kernel_rfl)⟩
theorem sl_c : Sk "c" := ⟨by kernel_rfl, Nat.le_of_ble_eq_true (by kernel_rfl)⟩
theorem sl_d : Sk "d" := ⟨by kernel_rfl, Nat.le_of_ble_eq_true (by kernel_rfl)⟩
theorem sl_e : Sk "e" := ⟨by kernel_rfl, Nat.le_of_ble_eq_true (by kernel_rfl)⟩
theorem sl_go : Sk "go" := ⟨by kernel_rfl, Nat.le_of_ble_eq_true (by kernel_rfl)⟩
theorem la65 {a b c d e f g h i j k : D} : pAdd (.list [a, b, c, d, e, f]) (.list [g, h, i, j, k]) = .ok (.t (.lst [a, b, c, d, e, f, g, h, i, j, k])) := by kernel_rfl
theorem eqn_then : pEq (.str "then") (.str "not") = bl false := by kernel_rfl
theorem eqn_and : pEq (.str "and") (.str "not") = bl false := by kernel_rfl
theorem eqn_or : pEq (.str "or") (.str "not") = bl false := by kernel_rfl
theorem eqn_not : pEq (.str "not") (.str "not") = bl true := by kernel_rfl
theorem intR3 : intR 0 (Int.toNat 3) = [.int 0, .int 1, .int 2] := by kernel_rfl
theorem litem_ok {ns : List Str} (hn : ns ≠ []) (hl : ns.length ≤ 1000) (hk : ∀ x ∈ ns, Sk x) (S : Src) (hS : Sok S) : ∃ (x : It) (S' : Src), D_u_law_item.run [.src S, .val (.list (ns.map .str))] = .ok (.val x.enc, [.src S']) ∧ OkI x ∧ (∀ w na r, x = .feed w na r → r = []) ∧ Sok S' := by
  obtain ⟨p, S1, o1, ph, hS1⟩ := of_str S ns hS hn hl hk
  obtain ⟨q, S2, o2, qh, hS2⟩ := of_str S1 ns hS1 hn hl hk
  obtain ⟨r, S3, o3, rh, hS3⟩ := of_str S2 ns hS2 hn hl hk
  obtain ⟨v, S4, p1, hv, hS4⟩ := pickI (n := 8) 8 S3 rfl hS3 (by decide) (by decide)
  have kp := hk p ph
  have kq := hk q qh
  have kr := hk r rh
  have zn : ((3 : Int) ≤ 16000000 ∧ -16000000 ≤ (3 : Int)) := by decide
  have z0 : szOk 0 = true := szOk0
  by_cases c2 : v < 2
  · have d2 : decide ((v : Int) < 2) = true := decide_eq_true (by omega)
    obtain ⟨x, S5, e1, ⟨e2, e3⟩, hS5⟩ := lprog_ok hS4 kp
    refine ⟨x, S5, ?_, e2, fun w na r h => by rw [h] at e3; simp [It.isFd] at e3, hS5⟩
    simp only [run_mk, List.map_cons, List.map_nil, List.length_cons, List.length_nil, List.cons_append, List.nil_append, List.replicate_succ, List.replicate_zero, Nat.reduceAdd, Nat.reduceSub, List.getElem?_cons_zero, List.getElem?_cons_succ, List.set_cons_zero, List.set_cons_succ, R.bind_ok, sCons, sNil, sIf, sRet, retL, dropL, sSet, setL, sDrop, sUnp, sPar, lNil, lCons, kF, putL, gN, gT, gAll, kC, kX, kD, kG, kS, scl, k1, k2, L.get, L.take, T.toD, aNil, aCons, kTup, kLst, bVal, bAnd, bOr, bNot, kAnd, kOr, kNot, kIf, boolOf, kCall, cNil, cV, cMv, cPass, lend, back, resL, outs, endOf, srcAt, kSGet, kSLen, kInt, SF.get, SF.put, bl, nm, if_true, if_false, Bool.false_eq_true, Bool.not_true, Bool.not_false, D_u_law_item, kComp, iRg1, zn, and_self, intR3, compD, wipeD, o1, o2, o3, szOk3, gTL, p1, pLt, d2, e1]
  have d2 : decide ((v : Int) < 2) = false := decide_eq_false (by omega)
  by_cases c4 : v < 4
  · have d4 : decide ((v : Int) < 4) = true := decide_eq_true (by omega)
    obtain ⟨u, S5, u1, uh, hS5⟩ : ∃ (y : Str) (S' : Src), D_u_law_of.run [.src S4, .val (.list [.str "then", .str "and", .str "or", .str "not"])] = .ok (.val (.str y), [.src S']) ∧ (y = "then" ∨ y = "and" ∨ y = "or" ∨ y = "not") ∧ Sok S' := by
      obtain ⟨d, S', h1, ⟨y, rfl, h2⟩, h3⟩ := of2 S4 [.str "then", .str "and", .str "or", .str "not"] (P := fun d => ∃ y : Str, d = .str y ∧ (y = "then" ∨ y = "and" ∨ y = "or" ∨ y = "not")) hS4 (by simp) (by simp) (fun d hd => by
        simp only [List.mem_cons, List.not_mem_nil, or_false] at hd
        rcases hd with rfl | rfl | rfl | rfl <;> exact ⟨_, rfl, by simp⟩)
      exact ⟨y, S', h1, h2, h3⟩
    rcases uh with rfl | rfl | rfl | rfl
    · refine ⟨.pipe2 p "then" q r, S5, ?_, ok_pipe2 kp sl_then kq kr, fun _ _ _ h => (nomatch h), hS5⟩
      simp only [run_mk, List.map_cons, List.map_nil, List.length_cons, List.length_nil, List.cons_append, List.nil_append, List.replicate_succ, List.replicate_zero, Nat.reduceAdd, Nat.reduceSub, List.getElem?_cons_zero, List.getElem?_cons_succ, List.set_cons_zero, List.set_cons_succ, R.bind_ok, sCons, sNil, sIf, sRet, retL, dropL, sSet, setL, sDrop, sUnp, sPar, lNil, lCons, kF, putL, gN, gT, gAll, kC, kX, kD, kG, kS, scl, k1, k2, L.get, L.take, T.toD, aNil, aCons, kTup, kLst, bVal, bAnd, bOr, bNot, kAnd, kOr, kNot, kIf, boolOf, kCall, cNil, cV, cMv, cPass, lend, back, resL, outs, endOf, srcAt, kSGet, kSLen, kInt, SF.get, SF.put, bl, nm, if_true, if_false, Bool.false_eq_true, Bool.not_true, Bool.not_false, D_u_law_item, kComp, iRg1, zn, and_self, intR3, compD, wipeD, o1, o2, o3, szOk2, szOk3, szOk4, gTL, p1, pLt, d2, d4, u1, eqn_then, It.enc]
    · refine ⟨.pipe2 p "and" q r, S5, ?_, ok_pipe2 kp sl_and kq kr, fun _ _ _ h => (nomatch h), hS5⟩
      simp only [run_mk, List.map_cons, List.map_nil, List.length_cons, List.length_nil, List.cons_append, List.nil_append, List.replicate_succ, List.replicate_zero, Nat.reduceAdd, Nat.reduceSub, List.getElem?_cons_zero, List.getElem?_cons_succ, List.set_cons_zero, List.set_cons_succ, R.bind_ok, sCons, sNil, sIf, sRet, retL, dropL, sSet, setL, sDrop, sUnp, sPar, lNil, lCons, kF, putL, gN, gT, gAll, kC, kX, kD, kG, kS, scl, k1, k2, L.get, L.take, T.toD, aNil, aCons, kTup, kLst, bVal, bAnd, bOr, bNot, kAnd, kOr, kNot, kIf, boolOf, kCall, cNil, cV, cMv, cPass, lend, back, resL, outs, endOf, srcAt, kSGet, kSLen, kInt, SF.get, SF.put, bl, nm, if_true, if_false, Bool.false_eq_true, Bool.not_true, Bool.not_false, D_u_law_item, kComp, iRg1, zn, and_self, intR3, compD, wipeD, o1, o2, o3, szOk2, szOk3, szOk4, gTL, p1, pLt, d2, d4, u1, eqn_and, It.enc]
    · refine ⟨.pipe2 p "or" q r, S5, ?_, ok_pipe2 kp sl_or kq kr, fun _ _ _ h => (nomatch h), hS5⟩
      simp only [run_mk, List.map_cons, List.map_nil, List.length_cons, List.length_nil, List.cons_append, List.nil_append, List.replicate_succ, List.replicate_zero, Nat.reduceAdd, Nat.reduceSub, List.getElem?_cons_zero, List.getElem?_cons_succ, List.set_cons_zero, List.set_cons_succ, R.bind_ok, sCons, sNil, sIf, sRet, retL, dropL, sSet, setL, sDrop, sUnp, sPar, lNil, lCons, kF, putL, gN, gT, gAll, kC, kX, kD, kG, kS, scl, k1, k2, L.get, L.take, T.toD, aNil, aCons, kTup, kLst, bVal, bAnd, bOr, bNot, kAnd, kOr, kNot, kIf, boolOf, kCall, cNil, cV, cMv, cPass, lend, back, resL, outs, endOf, srcAt, kSGet, kSLen, kInt, SF.get, SF.put, bl, nm, if_true, if_false, Bool.false_eq_true, Bool.not_true, Bool.not_false, D_u_law_item, kComp, iRg1, zn, and_self, intR3, compD, wipeD, o1, o2, o3, szOk2, szOk3, szOk4, gTL, p1, pLt, d2, d4, u1, eqn_or, It.enc]
    · refine ⟨.pipe1 p "not" q, S5, ?_, ok_pipe1 kp sl_not kq, fun _ _ _ h => (nomatch h), hS5⟩
      simp only [run_mk, List.map_cons, List.map_nil, List.length_cons, List.length_nil, List.cons_append, List.nil_append, List.replicate_succ, List.replicate_zero, Nat.reduceAdd, Nat.reduceSub, List.getElem?_cons_zero, List.getElem?_cons_succ, List.set_cons_zero, List.set_cons_succ, R.bind_ok, sCons, sNil, sIf, sRet, retL, dropL, sSet, setL, sDrop, sUnp, sPar, lNil, lCons, kF, putL, gN, gT, gAll, kC, kX, kD, kG, kS, scl, k1, k2, L.get, L.take, T.toD, aNil, aCons, kTup, kLst, bVal, bAnd, bOr, bNot, kAnd, kOr, kNot, kIf, boolOf, kCall, cNil, cV, cMv, cPass, lend, back, resL, outs, endOf, srcAt, kSGet, kSLen, kInt, SF.get, SF.put, bl, nm, if_true, if_false, Bool.false_eq_true, Bool.not_true, Bool.not_false, D_u_law_item, kComp, iRg1, zn, and_self, intR3, compD, wipeD, o1, o2, o3, szOk2, szOk3, szOk4, gTL, p1, pLt, d2, d4, u1, eqn_not, It.enc]
  have d4 : decide ((v : Int) < 4) = false := decide_eq_false (by omega)
  by_cases c5 : v = 4
  · have e4 : decide ((v : Int) = 4) = true := decide_eq_true (by omega)
    obtain ⟨u, S5, u1, uh, hS5⟩ : ∃ (y : Str) (S' : Src), D_u_law_of.run [.src S4, .val (.list [.str "s", .str "t", .str "p"])] = .ok (.val (.str y), [.src S']) ∧ (y = "s" ∨ y = "t" ∨ y = "p") ∧ Sok S' := by
      obtain ⟨d, S', h1, ⟨y, rfl, h2⟩, h3⟩ := of2 S4 [.str "s", .str "t", .str "p"] (P := fun d => ∃ y : Str, d = .str y ∧ (y = "s" ∨ y = "t" ∨ y = "p")) hS4 (by simp) (by simp) (fun d hd => by
        simp only [List.mem_cons, List.not_mem_nil, or_false] at hd
        rcases hd with rfl | rfl | rfl <;> exact ⟨_, rfl, by simp⟩)
      exact ⟨y, S', h1, h2, h3⟩
    have ku : Sk u := by rcases uh with rfl | rfl | rfl <;> first | exact sl_s | exact sl_t | exact sl_p
    refine ⟨.prom u p q r, S5, ?_, ok_prom ku kp kq kr, fun _ _ _ h => (nomatch h), hS5⟩
    simp only [run_mk, List.map_cons, List.map_nil, List.length_cons, List.length_nil, List.cons_append, List.nil_append, List.replicate_succ, List.replicate_zero, Nat.reduceAdd, Nat.reduceSub, List.getElem?_cons_zero, List.getElem?_cons_succ, List.set_cons_zero, List.set_cons_succ, R.bind_ok, sCons, sNil, sIf, sRet, retL, dropL, sSet, setL, sDrop, sUnp, sPar, lNil, lCons, kF, putL, gN, gT, gAll, kC, kX, kD, kG, kS, scl, k1, k2, L.get, L.take, T.toD, aNil, aCons, kTup, kLst, bVal, bAnd, bOr, bNot, kAnd, kOr, kNot, kIf, boolOf, kCall, cNil, cV, cMv, cPass, lend, back, resL, outs, endOf, srcAt, kSGet, kSLen, kInt, SF.get, SF.put, bl, nm, if_true, if_false, Bool.false_eq_true, Bool.not_true, Bool.not_false, D_u_law_item, kComp, iRg1, zn, and_self, intR3, compD, wipeD, o1, o2, o3, szOk3, szOk5, gTL, p1, pLt, d2, d4, pEq_int, e4, u1, It.enc]
  have e4 : decide ((v : Int) = 4) = false := decide_eq_false (by omega)
  by_cases c6 : v = 5
  · have e5 : decide ((v : Int) = 5) = true := decide_eq_true (by omega)
    obtain ⟨u, S5, u1, uh, hS5⟩ : ∃ (y : Str) (S' : Src), D_u_law_of.run [.src S4, .val (.list [.str "d", .str "e"])] = .ok (.val (.str y), [.src S']) ∧ (y = "d" ∨ y = "e") ∧ Sok S' := by
      obtain ⟨d, S', h1, ⟨y, rfl, h2⟩, h3⟩ := of2 S4 [.str "d", .str "e"] (P := fun d => ∃ y : Str, d = .str y ∧ (y = "d" ∨ y = "e")) hS4 (by simp) (by simp) (fun d hd => by
        simp only [List.mem_cons, List.not_mem_nil, or_false] at hd
        rcases hd with rfl | rfl <;> exact ⟨_, rfl, by simp⟩)
      exact ⟨y, S', h1, h2, h3⟩
    obtain ⟨t, S6, t1, th, hS6⟩ : ∃ (y : Str) (S' : Src), D_u_law_of.run [.src S5, .val (.list [.str "s", .str "t"])] = .ok (.val (.str y), [.src S']) ∧ (y = "s" ∨ y = "t") ∧ Sok S' := by
      obtain ⟨d, S', h1, ⟨y, rfl, h2⟩, h3⟩ := of2 S5 [.str "s", .str "t"] (P := fun d => ∃ y : Str, d = .str y ∧ (y = "s" ∨ y = "t")) hS5 (by simp) (by simp) (fun d hd => by
        simp only [List.mem_cons, List.not_mem_nil, or_false] at hd
        rcases hd with rfl | rfl <;> exact ⟨_, rfl, by simp⟩)
      exact ⟨y, S', h1, h2, h3⟩
    have ku : Sk u := by rcases uh with rfl | rfl <;> first | exact sl_d | exact sl_e
    have kt : Sk t := by rcases th with rfl | rfl <;> first | exact sl_s | exact sl_t
    obtain ⟨d, S7, g1, ⟨x, rfl, g2, g3⟩, hS7⟩ := of2 S6 [.tuple [.str "stream", .str u, .str p], .tuple [.str "kept", .str t]] (P := fun d => ∃ x : It, d = x.enc ∧ OkI x ∧ x.isFd = false) hS6 (by simp) (by simp) (fun d hd => by
      simp only [List.mem_cons, List.not_mem_nil, or_false] at hd
      rcases hd with rfl | rfl
      · exact ⟨.strm u p, rfl, ok_strm ku kp, rfl⟩
      · exact ⟨.kept t, rfl, ok_kept kt, rfl⟩)
    refine ⟨x, S7, ?_, g2, fun w na r h => by rw [h] at g3; simp [It.isFd] at g3, hS7⟩
    simp only [run_mk, List.map_cons, List.map_nil, List.length_cons, List.length_nil, List.cons_append, List.nil_append, List.replicate_succ, List.replicate_zero, Nat.reduceAdd, Nat.reduceSub, List.getElem?_cons_zero, List.getElem?_cons_succ, List.set_cons_zero, List.set_cons_succ, R.bind_ok, sCons, sNil, sIf, sRet, retL, dropL, sSet, setL, sDrop, sUnp, sPar, lNil, lCons, kF, putL, gN, gT, gAll, kC, kX, kD, kG, kS, scl, k1, k2, L.get, L.take, T.toD, aNil, aCons, kTup, kLst, bVal, bAnd, bOr, bNot, kAnd, kOr, kNot, kIf, boolOf, kCall, cNil, cV, cMv, cPass, lend, back, resL, outs, endOf, srcAt, kSGet, kSLen, kInt, SF.get, SF.put, bl, nm, if_true, if_false, Bool.false_eq_true, Bool.not_true, Bool.not_false, D_u_law_item, kComp, iRg1, zn, and_self, intR3, compD, wipeD, o1, o2, o3, szOk2, szOk3, gTL, p1, pLt, d2, d4, pEq_int, e4, e5, u1, t1, g1]
  have e5 : decide ((v : Int) = 5) = false := decide_eq_false (by omega)
  by_cases c7 : v = 6
  · have e6 : decide ((v : Int) = 6) = true := decide_eq_true (by omega)
    obtain ⟨u, S5, u1, uh, hS5⟩ : ∃ (y : Str) (S' : Src), D_u_law_of.run [.src S4, .val (.list [.str "feed", .str "back", .str "at"])] = .ok (.val (.str y), [.src S']) ∧ (y = "feed" ∨ y = "back" ∨ y = "at") ∧ Sok S' := by
      obtain ⟨d, S', h1, ⟨y, rfl, h2⟩, h3⟩ := of2 S4 [.str "feed", .str "back", .str "at"] (P := fun d => ∃ y : Str, d = .str y ∧ (y = "feed" ∨ y = "back" ∨ y = "at")) hS4 (by simp) (by simp) (fun d hd => by
        simp only [List.mem_cons, List.not_mem_nil, or_false] at hd
        rcases hd with rfl | rfl | rfl <;> exact ⟨_, rfl, by simp⟩)
      exact ⟨y, S', h1, h2, h3⟩
    obtain ⟨t, S6, t1, th, hS6⟩ : ∃ (y : Str) (S' : Src), D_u_law_of.run [.src S5, .val (.list [.str "d", .str "e"])] = .ok (.val (.str y), [.src S']) ∧ (y = "d" ∨ y = "e") ∧ Sok S' := by
      obtain ⟨d, S', h1, ⟨y, rfl, h2⟩, h3⟩ := of2 S5 [.str "d", .str "e"] (P := fun d => ∃ y : Str, d = .str y ∧ (y = "d" ∨ y = "e")) hS5 (by simp) (by simp) (fun d hd => by
        simp only [List.mem_cons, List.not_mem_nil, or_false] at hd
        rcases hd with rfl | rfl <;> exact ⟨_, rfl, by simp⟩)
      exact ⟨y, S', h1, h2, h3⟩
    have ku : Sk u := by rcases uh with rfl | rfl | rfl <;> first | exact w_feed.sk | exact w_back.sk | exact w_at.sk
    have kt : Sk t := by rcases th with rfl | rfl <;> first | exact sl_d | exact sl_e
    refine ⟨.feed u t [], S6, ?_, ok_feed uh ku kt (fit_t0.mono (Nat.le_refl _) (by omega)) tup_nil, fun _ _ _ h => by cases h; rfl, hS6⟩
    simp only [run_mk, List.map_cons, List.map_nil, List.length_cons, List.length_nil, List.cons_append, List.nil_append, List.replicate_succ, List.replicate_zero, Nat.reduceAdd, Nat.reduceSub, List.getElem?_cons_zero, List.getElem?_cons_succ, List.set_cons_zero, List.set_cons_succ, R.bind_ok, sCons, sNil, sIf, sRet, retL, dropL, sSet, setL, sDrop, sUnp, sPar, lNil, lCons, kF, putL, gN, gT, gAll, kC, kX, kD, kG, kS, scl, k1, k2, L.get, L.take, T.toD, aNil, aCons, kTup, kLst, bVal, bAnd, bOr, bNot, kAnd, kOr, kNot, kIf, boolOf, kCall, cNil, cV, cMv, cPass, lend, back, resL, outs, endOf, srcAt, kSGet, kSLen, kInt, SF.get, SF.put, bl, nm, if_true, if_false, Bool.false_eq_true, Bool.not_true, Bool.not_false, D_u_law_item, kComp, iRg1, zn, and_self, intR3, compD, wipeD, o1, o2, o3, szOk2, szOk3, gTL, p1, pLt, d2, d4, pEq_int, e4, e5, e6, u1, t1, It.enc]
  have e6 : decide ((v : Int) = 6) = false := decide_eq_false (by omega)
  obtain ⟨d, S5, g1, ⟨x, rfl, g2, g3⟩, hS5⟩ := of2 S4 [.tuple [.str "run", .str p, .tuple [.str "a"]], .tuple [.str "yes", .str p, .tuple []], .tuple [.str "keeps", .str p, .tuple [.str "a", .str "a"]], .tuple [.str "ever", .str p], .tuple [.str "always", .str p], .tuple [.str "within", .str p, .str q], .tuple [.str "alike", .str p, .str q], .tuple [.str "many", .str p, .int 3], .tuple [.str "size", .str p], .tuple [.str "again", .str p], .tuple [.str "learn", .str p]] (P := fun d => ∃ x : It, d = x.enc ∧ OkI x ∧ x.isFd = false) hS4 (by simp) (by simp) (fun d hd => by
    have fe : fit 11 100 (.tuple []) := fit_t0.mono (Nat.le_refl _) (by omega)
    have fAA : fit 11 100 (.tuple [.tuple [.str "a", .str "a"]]) := ⟨by kernel_rfl, Nat.le_of_ble_eq_true (by kernel_rfl), Nat.le_of_ble_eq_true (by kernel_rfl), by kernel_rfl, by kernel_rfl⟩
    have fE0 : fit 11 100 (.tuple [.tuple []]) := ⟨by kernel_rfl, Nat.le_of_ble_eq_true (by kernel_rfl), Nat.le_of_ble_eq_true (by kernel_rfl), by kernel_rfl, by kernel_rfl⟩
    have f30 : fit 11 100 (.tuple [.int 3]) := ⟨by kernel_rfl, Nat.le_of_ble_eq_true (by kernel_rfl), Nat.le_of_ble_eq_true (by kernel_rfl), by kernel_rfl, by kernel_rfl⟩
    simp only [List.mem_cons, List.not_mem_nil, or_false] at hd
    rcases hd with rfl | rfl | rfl | rfl | rfl | rfl | rfl | rfl | rfl | rfl | rfl
    · exact ⟨.one "run" p [.tuple [.str "a"]], rfl, ok_one (by simp) w_run.sk kp fA tA, rfl⟩
    · exact ⟨.one "yes" p [.tuple []], rfl, ok_one (by simp) w_yes.sk kp fE0 (by kernel_rfl), rfl⟩
    · exact ⟨.one "keeps" p [.tuple [.str "a", .str "a"]], rfl, ok_one (by simp) w_keeps.sk kp fAA (by kernel_rfl), rfl⟩
    · exact ⟨.one "ever" p [], rfl, ok_one (by simp) w_ever.sk kp fe tup_nil, rfl⟩
    · exact ⟨.one "always" p [], rfl, ok_one (by simp) w_always.sk kp fe tup_nil, rfl⟩
    · exact ⟨.two "within" p q, rfl, ok_two (by simp) w_within.sk kp kq, rfl⟩
    · exact ⟨.two "alike" p q, rfl, ok_two (by simp) w_alike.sk kp kq, rfl⟩
    · exact ⟨.one "many" p [.int 3], rfl, ok_one (by simp) w_many.sk kp f30 (by kernel_rfl), rfl⟩
    · exact ⟨.one "size" p [], rfl, ok_one (by simp) w_size.sk kp fe tup_nil, rfl⟩
    · exact ⟨.one "again" p [], rfl, ok_one (by simp) w_again.sk kp fe tup_nil, rfl⟩
    · exact ⟨.one "learn" p [], rfl, ok_one (by simp) w_learn.sk kp fe tup_nil, rfl⟩)
  refine ⟨x, S5, ?_, g2, fun w na r h => by rw [h] at g3; simp [It.isFd] at g3, hS5⟩
  simp only [run_mk, List.map_cons, List.map_nil, List.length_cons, List.length_nil, List.cons_append, List.nil_append, List.replicate_succ, List.replicate_zero, Nat.reduceAdd, Nat.reduceSub, List.getElem?_cons_zero, List.getElem?_cons_succ, List.set_cons_zero, List.set_cons_succ, R.bind_ok, sCons, sNil, sIf, sRet, retL, dropL, sSet, setL, sDrop, sUnp, sPar, lNil, lCons, kF, putL, gN, gT, gAll, kC, kX, kD, kG, kS, scl, k1, k2, L.get, L.take, T.toD, aNil, aCons, kTup, kLst, bVal, bAnd, bOr, bNot, kAnd, kOr, kNot, kIf, boolOf, kCall, cNil, cV, cMv, cPass, lend, back, resL, outs, endOf, srcAt, kSGet, kSLen, kInt, SF.get, SF.put, bl, nm, if_true, if_false, Bool.false_eq_true, Bool.not_true, Bool.not_false, D_u_law_item, kComp, iRg1, zn, and_self, intR3, compD, wipeD, o1, o2, o3, z0, szOk1, szOk2, szOk3, szOk5, szOk6, gTL, p1, pLt, d2, d4, pEq_int, e4, e5, e6, la65, g1]
/-- a drawn item in its right form -/
theorem item_draw {ns : List Str} (hn : ns ≠ []) (hl : ns.length ≤ 1000) (hk : ∀ x ∈ ns, Sk x) (S : Src) (hS : Sok S) : ∃ (d : D) (x : It) (S' : Src), D_u_law_item.run [.src S, .val (.list (ns.map .str))] = .ok (.val d, [.src S']) ∧ D_u_law_right_form.run [.val d] = .ok (.val x.enc, []) ∧ OkI x ∧ Sok S' := by
  obtain ⟨y, S', e1, e2, e3, hS'⟩ := litem_ok hn hl hk S hS
  obtain ⟨x, e4, e5⟩ := form_ok e2 e3
  exact ⟨y.enc, x, S', e1, e4, e5, hS'⟩
end K06

set_option Elab.async false
set_option linter.all false
set_option maxRecDepth 100000
set_option maxHeartbeats 4000000
set_option pp.maxSteps 600
namespace K06
open PySem KV
theorem pop_perm {l : List Str} {j : Nat} {x : Str} (h : l[j]? = some x) : (x :: l.eraseIdx j).Perm l := by
  induction l generalizing j with
  | nil => simp at h
  | cons y l ih =>
    cases j with
    | zero => simp at h; subst h; exact List.Perm.refl _
    | succ j =>
      have := ih (j := j) (by simpa using h)
      rw [List.eraseIdx_cons_succ]
      exact (List.Perm.swap y x _).trans (this.cons y)
theorem map_eraseIdx {l : List Str} {j : Nat} : (l.map PyData.str).eraseIdx j = (l.eraseIdx j).map PyData.str := by
  induction l generalizing j with
  | nil => rfl
  | cons y l ih =>
    cases j with
    | zero => rfl
    | succ j => rw [List.map_cons, List.eraseIdx_cons_succ, List.eraseIdx_cons_succ, List.map_cons, ih]
theorem lmixed_ok {l : List Str} (hl : l.length ≤ 1000) (S : Src) (hS : Sok S) : ∃ (l' : List Str) (S' : Src), D_u_law_mixed.run [.src S, .val (.list (l.map PyData.str))] = .ok (.lst (l'.map PyData.str), [.src S']) ∧ l'.Perm l ∧ Sok S' := by
  have hlen : (intR 0 l.length).length = l.length := by simp [intR]
  have h := comp_inv0 (g := gN 3) (f := kPopJ 2 (kCall (D_u_law_pick).run (cMv 0 (cV (k1 pLen (kX 2)) cNil)))) (own := [3]) (ds := intR 0 l.length) (s := [some (.src S), some (.val (.list (l.map PyData.str))), some (.lst (l.map PyData.str)), none])
    (fun i acc s => ∃ (la lr : List Str) (S' : Src), acc = la.map PyData.str ∧ s = [some (.src S'), some (.val (.list (l.map PyData.str))), some (.lst (lr.map PyData.str)), none] ∧ (la ++ lr).Perm l ∧ lr.length + i = l.length ∧ Sok S')
    ⟨[], l, S, rfl, rfl, List.Perm.refl _, rfl, hS⟩ (fun i x acc s hx ⟨la, lr, S1, a1, a2, a3, a4, a5⟩ => by
      have hi : i < l.length := by
        have := (List.getElem?_eq_some_iff.mp hx).1
        omega
      obtain ⟨j, S2, p1, p2, hS2⟩ := pickI (n := lr.length) (((lr.map PyData.str).length : Nat) : Int) S1 (by rw [List.length_map]) a5 (by omega) (by omega)
      obtain ⟨y, hy⟩ : ∃ y, lr[j]? = some y := ⟨lr[j], List.getElem?_eq_getElem p2⟩
      have hy2 : (lr.map PyData.str)[j]? = some (PyData.str y) := by rw [List.getElem?_map, hy]; rfl
      have hz : szOk (lr.map PyData.str).length = true := szOk_of (by rw [List.length_map]; omega)
      have hj : (0 : Int) ≤ (j : Int) := Int.natCast_nonneg _
      have pl : pLen (.list (lr.map PyData.str)) = .ok (.d (.int (((lr.map PyData.str).length : Nat) : Int))) := rfl
      subst a1 a2
      simp only [run_mk, List.map_cons, List.map_nil, List.length_cons, List.length_nil, List.cons_append, List.nil_append, List.replicate_succ, List.replicate_zero, Nat.reduceAdd, Nat.reduceSub, List.getElem?_cons_zero, List.getElem?_cons_succ, List.set_cons_zero, List.set_cons_succ, R.bind_ok, sCons, sNil, sIf, sRet, retL, dropL, sSet, setL, sDrop, sUnp, sPar, lNil, lCons, kF, putL, gN, gT, gAll, kC, kX, kD, kG, kS, scl, k1, k2, L.get, L.take, T.toD, aNil, aCons, kTup, kLst, bVal, bAnd, bOr, bNot, kAnd, kOr, kNot, kIf, boolOf, kCall, cNil, cV, cMv, cPass, lend, back, resL, outs, endOf, srcAt, kSGet, kSLen, kInt, SF.get, SF.put, bl, nm, if_true, if_false, Bool.false_eq_true, Bool.not_true, Bool.not_false, wipeD, kPopJ, pl, p1, hj, hz, and_self, Int.toNat_natCast, hy2, map_eraseIdx, R.W_ok]
      refine ⟨la ++ [y], lr.eraseIdx j, S2, by rw [List.map_append]; rfl, rfl, ?_, ?_, hS2⟩
      · rw [List.append_assoc]
        exact (List.Perm.append_left la (pop_perm hy)).trans a3
      · rw [List.length_eraseIdx, if_pos p2]
        omega)
  rw [hlen] at h
  obtain ⟨⟨acc, s2⟩, e1, la, lr, S2, e2, e3, e4, e5, hS2⟩ := R.W_get h
  simp only at e2 e3
  subst e2 e3
  have hnil : lr = [] := List.eq_nil_of_length_eq_zero (by omega)
  subst hnil
  rw [List.append_nil] at e4
  refine ⟨la, S2, ?_, e4, hS2⟩
  have pl : pLen (.list (l.map PyData.str)) = .ok (.d (.int (((l.map PyData.str).length : Nat) : Int))) := rfl
  have px : pList (.list (l.map PyData.str)) = .ok (.t (.lst (l.map PyData.str))) := rfl
  have zn : (((l.map PyData.str).length : Int) ≤ 16000000 ∧ -16000000 ≤ ((l.map PyData.str).length : Int)) := by rw [List.length_map]; omega
  have hI : intR 0 (Int.toNat ((l.map PyData.str).length : Int)) = intR 0 l.length := by rw [Int.toNat_natCast, List.length_map]
  have hz : szOk (la.map PyData.str).length = true := szOk_of (by rw [List.length_map, e4.length_eq]; omega)
  simp only [run_mk, List.map_cons, List.map_nil, List.length_cons, List.length_nil, List.cons_append, List.nil_append, List.replicate_succ, List.replicate_zero, Nat.reduceAdd, Nat.reduceSub, List.getElem?_cons_zero, List.getElem?_cons_succ, List.set_cons_zero, List.set_cons_succ, R.bind_ok, sCons, sNil, sIf, sRet, retL, dropL, sSet, setL, sDrop, sUnp, sPar, lNil, lCons, kF, putL, gN, gT, gAll, kC, kX, kD, kG, kS, scl, k1, k2, L.get, L.take, T.toD, aNil, aCons, kTup, kLst, bVal, bAnd, bOr, bNot, kAnd, kOr, kNot, kIf, boolOf, kCall, cNil, cV, cMv, cPass, lend, back, resL, outs, endOf, srcAt, kSGet, kSLen, kInt, SF.get, SF.put, bl, nm, if_true, if_false, Bool.false_eq_true, Bool.not_true, Bool.not_false, D_u_law_mixed, px, kComp, iRg1, pl, zn, and_self, hI, e1, hz]
/-! ### what is shown -/
theorem fault_fit {l : List It} {x : It} {y : Ft} (o : OkI x) (e : fault l x = some y) : plOk y.1 ∧ Sk y.2 := by
  have one : plOk [1] := ⟨by simp, fun j hj => by simp at hj; omega⟩
  have tw : Sk "twice" := ⟨by kernel_rfl, Nat.le_of_ble_eq_true (by kernel_rfl)⟩
  unfold fault at e
  split at e
  · cases e; exact ⟨one, tw⟩
  · split at e
    · cases e
    · split at e
      · split at e
        · cases e
        · cases e; exact ⟨one, w_stream.sk⟩
      · split at e
        · split at e
          · cases e
          · cases e; exact ⟨one, w_promise.sk⟩
        · obtain ⟨z, h1, rfl⟩ := Option.map_eq_some_iff.mp e
          exact ⟨said_pl z (List.mem_of_find?_eq_some h1), w_program.sk⟩
theorem show_fw {l : List It} (o : ∀ x ∈ l, OkI x) (hl : l.length ≤ 99) : showOk (fwE (fw l)) = true := by
  cases h : fw l with
  | none => exact (fit_none (n := 0) (m := 0)).show (by omega) (by omega)
  | some x =>
    obtain ⟨i, _, i1, e1⟩ := findF_mem h
    obtain ⟨z, h1, h2⟩ := Option.bind_eq_some_iff.mp e1
    obtain ⟨y, h3, rfl⟩ := Option.map_eq_some_iff.mp h2
    have f := fault_fit (o z (List.mem_of_getElem? h1)) h3
    have ft : fit 2 600 (fwE (some (i, y))) := fit_cons (n := 1) ((fit_int (i := i) (by omega)).mono (by omega) (Nat.le_refl _)) (fit_cons (n := 1) (fit_pl f.1) (fit_cons (fit_sk f.2) fit_t0 (Nat.le_refl _)) (Nat.le_refl _)) (by omega)
    exact ft.show (by omega) (by omega)
theorem show_its {l : List It} (o : ∀ x ∈ l, OkI x) (hl : l.length ≤ 100) : showOk (.list (l.map It.enc)) = true :=
  (fit_lst (n := 11) (m := 600) (k := 100) (fun d hd => by
    obtain ⟨x, hx, rfl⟩ := List.mem_map.mp hd
    exact (o x hx).ft) (by rw [List.length_map]; exact hl)).show (by omega) (by omega)
def OkKv (kvs : List (D × D)) : Prop := ∀ p ∈ kvs, ∃ (y : Str) (x : It), p = (.str y, x.enc) ∧ Sk y ∧ OkI x
theorem okkv_put {kvs : List (D × D)} {y : Str} {x : It} (h : OkKv kvs) (hy : Sk y) (hx : OkI x) : OkKv (putD kvs (.str y) x.enc) := by
  unfold putD
  split
  · intro p hp
    obtain ⟨q, hq, rfl⟩ := List.mem_map.mp hp
    obtain ⟨z, w, rfl, h1, h2⟩ := h q hq
    split
    · exact ⟨z, x, rfl, h1, hx⟩
    · exact ⟨z, w, rfl, h1, h2⟩
  · intro p hp
    rcases List.mem_append.mp hp with hp | hp
    · exact h p hp
    · simp at hp
      exact ⟨y, x, hp, hy, hx⟩
theorem okkv_merge : ∀ {l : List It} {kvs : List (D × D)}, OkKv kvs → (∀ x ∈ l, OkI x) → OkKv (mergeD kvs (kvE (l.map fun x => (x.name, x.enc))))
  | [], _, h, _ => h
  | x :: l, kvs, h, o => okkv_merge (l := l) (kvs := putD kvs (.str x.name) x.enc) (okkv_put h (o x (List.mem_cons_self ..)).nk (o x (List.mem_cons_self ..))) fun y hy => o y (List.mem_cons_of_mem _ hy)
theorem okkv_dcs {f : It → Bool} {l : List It} (o : ∀ x ∈ l, OkI x) : OkKv (dcs f l) := okkv_merge (l := l.filter f) (kvs := []) (fun _ h => (nomatch h)) fun x hx => o x (List.mem_filter.mp hx).1
theorem okkv_all : ∀ {kvs : List (D × D)}, OkKv kvs → PyData.showableKv kvs = true ∧ PyData.depthKv kvs ≤ 11 ∧ PyData.weightKv kvs ≤ kvs.length * 622 ∧ PyData.leavesShortKv 13 kvs = true ∧ (kvs.all fun x => tupOnly x.2) = true
  | [], _ => ⟨rfl, Nat.zero_le _, Nat.zero_le _, rfl, rfl⟩
  | p :: kvs, h => by
    obtain ⟨h1, h2, h3, h4, h5⟩ := okkv_all (kvs := kvs) fun q hq => h q (List.mem_cons_of_mem _ hq)
    obtain ⟨y, x, rfl, hy, hx⟩ := h p (List.mem_cons_self ..)
    have fy : fit 0 20 (.str y) := fit_sk hy
    have fx := hx.ft
    refine ⟨by rw [PyData.showableKv, fy.sw, fx.sw, h1]; rfl, ?_, ?_, ?_, ?_⟩
    · have a := fy.dep
      have b := fx.dep
      rw [PyData.depthKv]
      omega
    · have a := fy.wt
      have b := fx.wt
      rw [PyData.weightKv, List.length_cons]
      omega
    · rw [PyData.leavesShortKv, PyData.leavesShort_of_canLay0 13 _ fy.lay fy.sh, PyData.leavesShort_of_canLay0 13 _ fx.lay fx.sh, h4]
      rfl
    · rw [List.all_cons, h5, Bool.and_true]
      exact hx.tu
theorem show_dcs {f : It → Bool} {l : List It} (o : ∀ x ∈ l, OkI x) (hl : l.length ≤ 100) : showOkD (dcs f l) = true := by
  obtain ⟨h1, h2, h3, h4, h5⟩ := okkv_all (okkv_dcs (f := f) o)
  have hlen := dcs_len (f := f) (l := l)
  have hw : (PyData.dict (dcs f l)).weight ≤ 62200 := by
    rw [PyData.weight]
    refine Nat.le_trans h3 ?_
    exact Nat.le_trans (Nat.mul_le_mul_right 622 (Nat.le_trans hlen hl)) (by omega)
  have hs := PyData.shown_le 13 (by decide) (.dict (dcs f l)) (by rw [PyData.leavesShort]; exact h4)
  unfold showOkD
  rw [show (PyData.dict (dcs f l)).showable = true by rw [PyData.showable]; exact h1, h5, decide_eq_true (show (PyData.dict (dcs f l)).depth ≤ 64 by rw [PyData.depth]; omega), decide_eq_true (show (PyData.dict (dcs f l)).shown.length ≤ sizeLine by rw [sizeLine_eq]; omega)]
  rfl
theorem pReprD_of {ds : List (D × D)} (h : showOkD ds = true) : pReprD (.dict ds) = .ok (.d (.str (PyData.dict ds).shown)) := by
  simp only [pReprD, h, if_true]
theorem fit_ints2 : ∀ i ∈ List.range 200, (PyData.canLay0 (.int (i : Nat)) && decide (PyData.depth (.int (i : Nat)) ≤ 0) && decide (PyData.weight (.int (i : Nat)) ≤ 20) && PyData.intsShort 13 (.int (i : Nat)) && PyData.showable (.int (i : Nat))) = true := by decide +kernel
theorem fit_int2 {i : Nat} (h : i < 200) : fit 0 20 (.int (i : Nat)) := by
  have := fit_ints2 i (List.mem_range.mpr h)
  simp only [Bool.and_eq_true, decide_eq_true_eq] at this
  obtain ⟨⟨⟨⟨h1, h2⟩, h3⟩, h4⟩, h5⟩ := this
  exact ⟨h1, h2, h3, h4, h5⟩
theorem show_pcs {ps : List Str} {n : Int} (h : ∀ y ∈ ps, Sk y) (hl : ps.length ≤ 100) (h0 : 0 ≤ n) (hn : n < 200) : showOk (.list [.tuple (ps.map .str), .int n]) = true := by
  obtain ⟨i, rfl⟩ : ∃ i : Nat, n = i := ⟨n.toNat, (Int.toNat_of_nonneg h0).symm⟩
  have f1 : fit 1 2100 (.tuple (ps.map PyData.str)) := fit_tup (n := 0) (m := 20) (k := 100) (fun d hd => by
    obtain ⟨y, hy, rfl⟩ := List.mem_map.mp hd
    exact fit_sk (h y hy)) (by rw [List.length_map]; exact hl)
  have f2 := fit_int2 (i := i) (by omega)
  exact (fit_lst (n := 1) (m := 2100) (k := 2) (ds := [.tuple (ps.map PyData.str), .int (i : Nat)]) (fun d hd => by
    simp only [List.mem_cons, List.not_mem_nil, or_false] at hd
    rcases hd with rfl | rfl
    · exact f1
    · exact f2.mono (by omega) (by omega)) (by simp)).show (by omega) (by omega)
/-! ### no number is below 0 -/
theorem lk_pos {M : List (Str × Int)} (h : ∀ p ∈ M, 0 ≤ p.2) {y : Str} : 0 ≤ lk M y := by
  unfold lk
  cases hf : M.find? fun p => decide (p.1 = y) with
  | none => exact Int.le_refl _
  | some p => exact h p (List.mem_of_find?_eq_some hf)
theorem sum_pos : ∀ {l : List Int}, (∀ z ∈ l, 0 ≤ z) → 0 ≤ l.sum
  | [], _ => Int.le_refl _
  | a :: l, h => by
    have h1 := h a (List.mem_cons_self ..)
    have h2 := sum_pos (l := l) fun z hz => h z (List.mem_cons_of_mem _ hz)
    rw [List.sum_cons]
    omega
theorem cv_pos {M : List (Str × Int)} (h : ∀ p ∈ M, 0 ≤ p.2) {x : It} : 0 ≤ cv M x := by
  unfold cv
  split
  · omega
  · exact sum_pos fun z hz => by
      obtain ⟨y, _, rfl⟩ := List.mem_map.mp hz
      exact lk_pos h
theorem tab_pos : ∀ {S : List It} {M : List (Str × Int)}, (∀ p ∈ M, 0 ≤ p.2) → ∀ p ∈ tabF M S, 0 ≤ p.2
  | [], _, h => h
  | x :: S, M, h => tab_pos (S := S) (M := M ++ [(x.name, cv M x)]) fun p hp => by
    rcases List.mem_append.mp hp with hp | hp
    · exact h p hp
    · simp at hp; subst hp; exact cv_pos h
theorem lk_tab {ks : List It} {na : Str} : 0 ≤ lk (tabF [] ks) na := lk_pos (tab_pos (M := []) (fun p h => by cases h))
end K06

set_option Elab.async false
set_option linter.all false
set_option maxRecDepth 100000
set_option maxHeartbeats 4000000
set_option pp.maxSteps 600
namespace K06
open PySem KV
abbrev lTn : SV := (sCons (sSet 15 (kCall (D_u_law_right_form).run (cV (kCall (D_u_law_item).run (cMv 1 (cV (kX 6) cNil))) cNil))) (sCons (sIf (bOr (bVal (k1 pIsN (kCall (D_u_law_first_wrong).run (cV (k2 pAdd (kX 9) (kLst (aCons (kX 15) aNil))) cNil)))) (bVal (k2 pEq (kCall (D_u_law_pick).run (cMv 1 (cV (kC (.int 4)) cNil))) (kC (.int 0))))) (sCons (sDrop (kApp 8 (kX 15))) sNil) sNil) (sCons (sIf (bVal (k1 pIsN (kCall (D_u_law_first_wrong).run (cV (k2 pAdd (kX 9) (kLst (aCons (kX 15) aNil))) cNil)))) (sCons (sDrop (kApp 9 (kX 15))) sNil) sNil) sNil)))
abbrev lNb : SV := (sCons (sSet 16 (k1 pDict (kComp (iSeq (kSl (kX 9) none (some (kX 12)))) (gN 15) (some (bVal (k2 pIn (k2 pIx (kX 15) (kC (.int 0))) (kTup (aCons (kC (.str "program")) (aCons (kC (.str "pipe")) aNil)))))) (kTup (aCons (k2 pIx (kX 15) (kC (.int 1))) (aCons (kX 15) aNil))) [15]))) (sCons (sIf (bVal (k2 pNeS (k1 pReprD (kCall (D_told_items).run (cV (kX 5) (cV (kX 12) cNil)))) (k1 pReprD (kX 16)))) (sCons (sRet (kC (.bool false))) sNil) sNil) sNil))
abbrev lPb : SV := (sCons (sUnp (gT [(gN 17), (gN 18)]) (kCall (D_u_law_pieces).run (cV (kX 13) (cV (kX 14) cNil)))) (sCons (sIf (bAnd (bVal (k2 pLt (kX 18) (kC (.int 200)))) (bVal (k2 pNeS (k1 pRepr (kLst (aCons (kCall (D_pieces_of).run (cV (kX 5) (cV (kX 14) cNil))) (aCons (kCall (D_programs_read).run (cV (kX 5) (cV (kX 14) cNil))) aNil)))) (k1 pRepr (kLst (aCons (kX 17) (aCons (kX 18) aNil))))))) (sCons (sRet (kC (.bool false))) sNil) sNil) sNil))
abbrev lIt : IV := (iRg1 (kIf (bOr (bVal (k2 pGt (kX 2) (kC (.int 0)))) (bVal (k2 pGt (kCall (D_u_law_pick).run (cMv 1 (cV (kC (.int 6)) cNil))) (kC (.int 0))))) (k2 pAdd (kC (.int 3)) (kCall (D_u_law_pick).run (cMv 1 (cV (kC (.int 8)) cNil)))) (kC (.int 40))))
abbrev lp0 : SV := (sSet 6 (kCall (D_u_law_of).run (cMv 1 (cV (kLst (aCons (kLst (aCons (kC (.str "p")) (aCons (kC (.str "q")) aNil))) (aCons (kLst (aCons (kC (.str "p")) (aCons (kC (.str "q")) (aCons (kC (.str "r")) aNil)))) (aCons (kLst (aCons (kC (.str "p")) (aCons (kC (.str "q")) (aCons (kC (.str "r")) (aCons (kC (.str "b")) (aCons (kC (.str "c")) aNil)))))) aNil)))) cNil))))
abbrev lp1 : SV := (sSet 7 (kCall (D_u_law_of).run (cMv 1 (cV (kLst (aCons (kTup aNil) (aCons (kTup (aCons (kC (.str "go")) aNil)) aNil))) cNil))))
abbrev lp2 : SV := (sPar [8, 9] (lCons (kLst aNil) (lCons (kLst aNil) lNil)))
abbrev lp4 : SV := (sPar [5, 11] (lCons (kTup (aCons (kX 7) (aCons (k1 pTuple (kX 8)) aNil))) (lCons (k1 pRepr (kX 8)) lNil)))
abbrev lp5 : SV := (sIf (bOr (bVal (k2 pNeS (k1 pRepr (kCall (D_wrong_item).run (cV (kX 5) cNil))) (k1 pRepr (kCall (D_u_law_first_wrong).run (cV (kX 8) cNil))))) (bVal (k2 pNeS (k1 pRepr (kX 8)) (kX 11)))) (sCons (sRet (kC (.bool false))) sNil) sNil)
abbrev lp6 : SV := (sSet 5 (kTup (aCons (kX 7) (aCons (k1 pTuple (kX 9)) aNil))))
abbrev lp7 : SV := (sIf (bVal (k1 pNotN (kCall (D_wrong_item).run (cV (kX 5) cNil)))) (sCons (sRet (kC (.bool false))) sNil) sNil)
abbrev lp9 : SV := (sSet 13 (kCall (D_told_items).run (cV (kX 5) (cV (k1 pLen (kX 9)) cNil))))
abbrev lp8 : SV := (sFor (iSeq (kTup (aCons (kC (.int 0)) (aCons (k1 pLen (kX 9)) (aCons (kCall (D_u_law_pick).run (cMv 1 (cV (k2 pAdd (k1 pLen (kX 9)) (kC (.int 1))) cNil))) aNil))))) (gN 12) lNb)
abbrev lp10 : SV := (sFor (iSeq (kSl (kCall (D_u_law_mixed).run (cMv 1 (cV (k1 pList (kX 13)) cNil))) none (some (kC (.int 3))))) (gN 14) lPb)
abbrev lLap : SV := (sCons lp0 (sCons lp1 (sCons lp2 (sCons (sFor lIt (gN 10) lTn) (sCons lp4 (sCons lp5 (sCons lp6 (sCons lp7 (sCons lp8 (sCons lp9 (sCons lp10 sNil)))))))))))
abbrev lTail : SV := (sCons (sSet 3 (kTup (aCons (kC (.str "program")) (aCons (kC (.str "p")) (aCons (kTup aNil) (aCons (kTup (aCons (kTup (aCons (kC (.str "m")) (aCons (kC (.bool true)) (aCons (kTup aNil) aNil)))) aNil)) aNil)))))) (sCons (sSet 4 (kTup (aCons (kX 3) (aCons (kTup (aCons (kC (.str "pipe")) (aCons (kC (.str "r")) (aCons (kTup (aCons (kC (.str "then")) (aCons (kC (.str "p")) (aCons (kC (.str "p")) aNil)))) aNil)))) (aCons (kTup (aCons (kC (.str "pipe")) (aCons (kC (.str "t")) (aCons (kTup (aCons (kC (.str "and")) (aCons (kC (.str "r")) (aCons (kC (.str "r")) aNil)))) aNil)))) (aCons (kTup (aCons (kC (.str "pipe")) (aCons (kC (.str "u")) (aCons (kTup (aCons (kC (.str "not")) (aCons (kC (.str "v")) aNil))) aNil)))) aNil)))))) (sCons (sSet 5 (kTup (aCons (kTup aNil) (aCons (kX 4) aNil)))) (sCons (sIf (bVal (k2 pNe (kCall (D_wrong_item).run (cV (kX 5) cNil)) (kTup (aCons (kC (.int 3)) (aCons (kTup (aCons (kC (.int 2)) (aCons (kC (.int 1)) aNil))) (aCons (kC (.str "program")) aNil)))))) (sCons (sRet (kC (.bool false))) sNil) sNil) (sCons (sSet 5 (kTup (aCons (kTup aNil) (aCons (kSl (k2 pIx (kX 5) (kC (.int 1))) none (some (kC (.int 3)))) aNil)))) (sCons (sRet (k2 pEq (kLst (aCons (kCall (D_wrong_item).run (cV (kX 5) cNil)) (aCons (kCall (D_programs_read).run (cV (kX 5) (cV (kC (.str "t")) cNil))) (aCons (kCall (D_pieces_of).run (cV (kX 5) (cV (kC (.str "t")) cNil))) aNil)))) (kLst (aCons (kC .none) (aCons (kC (.int 4)) (aCons (kTup (aCons (kC (.str "p")) (aCons (kC (.str "r")) (aCons (kC (.str "t")) aNil)))) aNil)))))) sNil))))))
theorem law_eq : D_law = ⟨19, [], (sCons (sSet 1 (kCall (D_u_law_source).run (cPass 0 cNil))) (sCons (sFor (iRg1 (kC (.int 4))) (gN 2) lLap) lTail))⟩ := rfl
def lA (zs : List Int) (S : Src) (nl w : D) (its r : List It) (v2 v3 v4 v5 v10 v11 v12 v13 v14 v15 v16 v17 v18 : Option T) : Sl := [some (.scr zs), some (.src S), v2, v3, v4, v5, some (.val nl), some (.val w), some (.lst (its.map It.enc)), some (.lst (r.map It.enc)), v10, v11, v12, v13, v14, v15, v16, v17, v18]
theorem sCons_W {f g : SV} {s : Sl} {P : Sl → Prop} {Q : Fl × Sl → Prop} (h : (f s).W fun r => r.1 = .nx ∧ P r.2) (k : ∀ s1, P s1 → (g s1).W Q) : (sCons f g s).W Q := by
  obtain ⟨⟨fl, s1⟩, e, h1, h2⟩ := R.W_get h
  simp only at h1
  subst h1
  rw [sCons_nx e]
  exact k s1 h2
/-- which names are drawn -/
structure Names (ns : List Str) : Prop where
  ne : ns ≠ []
  l : ns.length ≤ 5
  k : ∀ x ∈ ns, Sk x
theorem isN_fw {o : Option (Nat × Ft)} : pIsN (fwE o) = bl o.isNone := by cases o <;> rfl
theorem app_its {r : List It} {x : It} (h : r.length ≤ 1000) : pAdd (.list (r.map It.enc)) (.list [x.enc]) = .ok (.t (.lst ((r ++ [x]).map It.enc))) := by
  rw [pAdd_ll (by rw [List.length_map, List.length_singleton]; omega), List.map_append]
  rfl
structure Lists (its r : List It) (n : Nat) : Prop where
  oi : ∀ x ∈ its, OkI x
  rr : Right r
  li : its.length ≤ n
  lr : r.length ≤ n
theorem Lists.mono {its r : List It} {n m : Nat} (h : Lists its r n) (hm : n ≤ m) : Lists its r m := ⟨h.oi, h.rr, Nat.le_trans h.li hm, Nat.le_trans h.lr hm⟩
theorem Lists.addI {its r : List It} {n : Nat} {x : It} (h : Lists its r n) (o : OkI x) : Lists (its ++ [x]) r (n + 1) := ⟨fun y hy => by
    rcases List.mem_append.mp hy with hy | hy
    · exact h.oi y hy
    · simp at hy; exact hy ▸ o, h.rr, by rw [List.length_append, List.length_singleton]; have := h.li; omega, by have := h.lr; omega⟩
theorem ok_add {r : List It} {x : It} (h : ∀ y ∈ r, OkI y) (o : OkI x) : ∀ y ∈ r ++ [x], OkI y := fun y hy => by
  rcases List.mem_append.mp hy with hy | hy
  · exact h y hy
  · simp at hy; exact hy ▸ o
theorem Lists.addR {its r : List It} {n m : Nat} {x : It} (h : Lists its r m) (hr : r.length ≤ n) (hm : m ≤ n + 1) (o : OkI x) (f : fw (r ++ [x]) = none) : Lists its (r ++ [x]) (n + 1) :=
  ⟨h.oi, ⟨ok_add h.rr.o o, f⟩, by have := h.li; omega, by rw [List.length_append, List.length_singleton]; omega⟩
theorem turn_ok {zs : List Int} {S : Src} {ns : List Str} {w : D} {its r : List It} {n : Nat} {v2 v3 v4 v5 v10 v11 v12 v13 v14 v15 v16 v17 v18 : Option T} (hn : Names ns) (hS : Sok S) (h : Lists its r n) (hl : n ≤ 90) :
    (lTn (lA zs S (.list (ns.map .str)) w its r v2 v3 v4 v5 v10 v11 v12 v13 v14 v15 v16 v17 v18)).W fun q => q.1 = .nx ∧ ∃ (S' : Src) (its' r' : List It) (u2 u3 u4 u5 u10 u11 u12 u13 u14 u15 u16 u17 u18 : Option T), q.2 = lA zs S' (.list (ns.map .str)) w its' r' u2 u3 u4 u5 u10 u11 u12 u13 u14 u15 u16 u17 u18 ∧ Lists its' r' (n + 1) ∧ Sok S' := by
  obtain ⟨d, x, S1, e1, e2, ox, hS1⟩ := item_draw hn.ne (by have := hn.l; omega) hn.k S hS
  obtain ⟨c, S2, p1, hc, hS2⟩ := pickI (n := 4) 4 S1 rfl hS1 (by decide) (by decide)
  have li := h.li
  have lr := h.lr
  have ad := app_its (r := r) (x := x) (by omega)
  have fo := lfirst_ok (l := r ++ [x]) (ok_add h.rr.o ox) (by rw [List.length_append, List.length_singleton]; omega)
  have i1 : szOk 1 = true := szOk1
  have z8 : szOk ((its.map It.enc).length + 1) = true := szOk_of (by rw [List.length_map]; omega)
  have z9 : szOk ((r.map It.enc).length + 1) = true := szOk_of (by rw [List.length_map]; omega)
  have m8 : its.map It.enc ++ [x.enc] = (its ++ [x]).map It.enc := by rw [List.map_append]; rfl
  have m9 : r.map It.enc ++ [x.enc] = (r ++ [x]).map It.enc := by rw [List.map_append]; rfl
  cases hf : fw (r ++ [x]) with
  | none =>
    rw [hf] at fo
    have nn := isN_fw (o := (none : Option (Nat × Ft)))
    simp only [Option.isNone_none] at nn
    simp only [lA]
    simp only [run_mk, List.map_cons, List.map_nil, List.length_cons, List.length_nil, List.cons_append, List.nil_append, List.replicate_succ, List.replicate_zero, Nat.reduceAdd, Nat.reduceSub, List.getElem?_cons_zero, List.getElem?_cons_succ, List.set_cons_zero, List.set_cons_succ, R.bind_ok, sCons, sNil, sIf, sRet, retL, dropL, sSet, setL, sDrop, sUnp, sPar, lNil, lCons, kF, putL, gN, gT, gAll, kC, kX, kD, kG, kS, scl, k1, k2, L.get, L.take, T.toD, aNil, aCons, kTup, kLst, bVal, bAnd, bOr, bNot, kAnd, kOr, kNot, kIf, boolOf, kCall, cNil, cV, cMv, cPass, lend, back, resL, outs, endOf, srcAt, kSGet, kSLen, kInt, SF.get, SF.put, bl, nm, if_true, if_false, Bool.false_eq_true, Bool.not_true, Bool.not_false, lTn, e1, e2, i1, ad, fo, nn, kApp, z8, z9, m8, m9, R.W_ok]
    exact ⟨trivial, S1, its ++ [x], r ++ [x], _, _, _, _, _, _, _, _, _, _, _, _, _, rfl, (h.addI ox).addR lr (Nat.le_refl _) ox hf, hS1⟩
  | some y =>
    rw [hf] at fo
    have nn := isN_fw (o := some y)
    simp only [Option.isNone_some] at nn
    by_cases h0 : c = 0
    · have d0 : decide ((c : Int) = 0) = true := decide_eq_true (by omega)
      simp only [lA]
      simp only [run_mk, List.map_cons, List.map_nil, List.length_cons, List.length_nil, List.cons_append, List.nil_append, List.replicate_succ, List.replicate_zero, Nat.reduceAdd, Nat.reduceSub, List.getElem?_cons_zero, List.getElem?_cons_succ, List.set_cons_zero, List.set_cons_succ, R.bind_ok, sCons, sNil, sIf, sRet, retL, dropL, sSet, setL, sDrop, sUnp, sPar, lNil, lCons, kF, putL, gN, gT, gAll, kC, kX, kD, kG, kS, scl, k1, k2, L.get, L.take, T.toD, aNil, aCons, kTup, kLst, bVal, bAnd, bOr, bNot, kAnd, kOr, kNot, kIf, boolOf, kCall, cNil, cV, cMv, cPass, lend, back, resL, outs, endOf, srcAt, kSGet, kSLen, kInt, SF.get, SF.put, bl, nm, if_true, if_false, Bool.false_eq_true, Bool.not_true, Bool.not_false, lTn, e1, e2, i1, ad, fo, nn, p1, pEq_int, d0, kApp, z8, m8, R.W_ok]
      exact ⟨trivial, S2, its ++ [x], r, _, _, _, _, _, _, _, _, _, _, _, _, _, rfl, h.addI ox, hS2⟩
    · have d0 : decide ((c : Int) = 0) = false := decide_eq_false (by omega)
      simp only [lA]
      simp only [run_mk, List.map_cons, List.map_nil, List.length_cons, List.length_nil, List.cons_append, List.nil_append, List.replicate_succ, List.replicate_zero, Nat.reduceAdd, Nat.reduceSub, List.getElem?_cons_zero, List.getElem?_cons_succ, List.set_cons_zero, List.set_cons_succ, R.bind_ok, sCons, sNil, sIf, sRet, retL, dropL, sSet, setL, sDrop, sUnp, sPar, lNil, lCons, kF, putL, gN, gT, gAll, kC, kX, kD, kG, kS, scl, k1, k2, L.get, L.take, T.toD, aNil, aCons, kTup, kLst, bVal, bAnd, bOr, bNot, kAnd, kOr, kNot, kIf, boolOf, kCall, cNil, cV, cMv, cPass, lend, back, resL, outs, endOf, srcAt, kSGet, kSLen, kInt, SF.get, SF.put, bl, nm, if_true, if_false, Bool.false_eq_true, Bool.not_true, Bool.not_false, lTn, e1, e2, i1, ad, fo, nn, p1, pEq_int, d0, R.W_ok]
      exact ⟨trivial, S2, its, r, _, _, _, _, _, _, _, _, _, _, _, _, _, rfl, h.mono (Nat.le_succ _), hS2⟩
end K06

set_option Elab.async false
set_option linter.all false
set_option maxRecDepth 100000
set_option maxHeartbeats 4000000
set_option pp.maxSteps 600
namespace K06
open PySem KV
def lB (zs : List Int) (S : Src) (w : D) (r : List It) (v2 v3 v4 v6 v7 v8 v10 v11 v12 v13 v14 v15 v16 v17 v18 : Option T) : Sl := [some (.scr zs), some (.src S), v2, v3, v4, some (.val (sesE w r)), v6, v7, v8, some (.lst (r.map It.enc)), v10, v11, v12, v13, v14, v15, v16, v17, v18]
def lZ (zs : List Int) (S : Src)  (v2 v3 v4 v5 v6 v7 v8 v9 v10 v11 v12 v13 v14 v15 v16 v17 v18 : Option T) : Sl := [some (.scr zs), some (.src S), v2, v3, v4, v5, v6, v7, v8, v9, v10, v11, v12, v13, v14, v15, v16, v17, v18]
def lC (zs : List Int) (S : Src) (w : D) (r : List It) (v13 : Option T) (v2 v3 v4 v6 v7 v8 v9 v10 v11 v12 v14 v15 v16 v17 v18 : Option T) : Sl := [some (.scr zs), some (.src S), v2, v3, v4, some (.val (sesE w r)), v6, v7, v8, v9, v10, v11, v12, v13, v14, v15, v16, v17, v18]
def lD (zs : List Int) (S : Src) (w sw : D) (kp : Str) (its r : List It) (v2 v3 v4 v6 v10 v12 v13 v14 v15 v16 v17 v18 : Option T) : Sl := [some (.scr zs), some (.src S), v2, v3, v4, some (.val sw), v6, some (.val w), some (.val (.list (its.map It.enc))), some (.lst (r.map It.enc)), v10, some (.val (.str kp)), v12, v13, v14, v15, v16, v17, v18]
def lE (zs : List Int) (S : Src) (w sw : D) (kp : Str) (its r : List It) (v2 v3 v4 v6 v10 v12 v13 v14 v15 v16 v17 v18 : Option T) : Sl := [some (.scr zs), some (.src S), v2, v3, v4, some (.val sw), v6, some (.val w), some (.lst (its.map It.enc)), some (.lst (r.map It.enc)), v10, some (.val (.str kp)), v12, v13, v14, v15, v16, v17, v18]
theorem it_ok {zs : List Int} {S : Src} {nl w : D} {its r : List It} {i : Nat} {v3 v4 v5 v10 v11 v12 v13 v14 v15 v16 v17 v18 : Option T} (hS : Sok S) : ∃ (n : Nat) (S' : Src), n ≤ 40 ∧ lIt (lA zs S nl w its r (some (.val (.int (i : Nat)))) v3 v4 v5 v10 v11 v12 v13 v14 v15 v16 v17 v18) = .ok (intR 0 n, lA zs S' nl w its r (some (.val (.int (i : Nat)))) v3 v4 v5 v10 v11 v12 v13 v14 v15 v16 v17 v18) ∧ Sok S' := by
  have z40 : ((40 : Int) ≤ 16000000 ∧ -16000000 ≤ (40 : Int)) := by decide
  by_cases hi : 0 < i
  · have d1 : decide ((0 : Int) < ((i : Nat) : Int)) = true := decide_eq_true (by omega)
    obtain ⟨c, S1, p1, hc, hS1⟩ := pickI (n := 8) 8 S rfl hS (by decide) (by decide)
    have zn : ((3 + (c : Int)) ≤ 16000000 ∧ -16000000 ≤ (3 + (c : Int))) := ⟨by omega, by omega⟩
    have zt : (3 + (c : Int)).toNat = 3 + c := by omega
    refine ⟨3 + c, S1, by omega, ?_, hS1⟩
    simp only [lA]
    simp only [run_mk, List.map_cons, List.map_nil, List.length_cons, List.length_nil, List.cons_append, List.nil_append, List.replicate_succ, List.replicate_zero, Nat.reduceAdd, Nat.reduceSub, List.getElem?_cons_zero, List.getElem?_cons_succ, List.set_cons_zero, List.set_cons_succ, R.bind_ok, sCons, sNil, sIf, sRet, retL, dropL, sSet, setL, sDrop, sUnp, sPar, lNil, lCons, kF, putL, gN, gT, gAll, kC, kX, kD, kG, kS, scl, k1, k2, L.get, L.take, T.toD, aNil, aCons, kTup, kLst, bVal, bAnd, bOr, bNot, kAnd, kOr, kNot, kIf, boolOf, kCall, cNil, cV, cMv, cPass, lend, back, resL, outs, endOf, srcAt, kSGet, kSLen, kInt, SF.get, SF.put, bl, nm, if_true, if_false, Bool.false_eq_true, Bool.not_true, Bool.not_false, lIt, iRg1, pGt_int, d1, p1, pAdd_int, zn, and_self, zt]
  · have d1 : decide ((0 : Int) < ((i : Nat) : Int)) = false := decide_eq_false (by omega)
    obtain ⟨e, S1, p1, he, hS1⟩ := pickI (n := 6) 6 S rfl hS (by decide) (by decide)
    by_cases h6 : 0 < e
    · have d2 : decide ((0 : Int) < ((e : Nat) : Int)) = true := decide_eq_true (by omega)
      obtain ⟨c, S2, p2, hc, hS2⟩ := pickI (n := 8) 8 S1 rfl hS1 (by decide) (by decide)
      have zn : ((3 + (c : Int)) ≤ 16000000 ∧ -16000000 ≤ (3 + (c : Int))) := ⟨by omega, by omega⟩
      have zt : (3 + (c : Int)).toNat = 3 + c := by omega
      refine ⟨3 + c, S2, by omega, ?_, hS2⟩
      simp only [lA]
      simp only [run_mk, List.map_cons, List.map_nil, List.length_cons, List.length_nil, List.cons_append, List.nil_append, List.replicate_succ, List.replicate_zero, Nat.reduceAdd, Nat.reduceSub, List.getElem?_cons_zero, List.getElem?_cons_succ, List.set_cons_zero, List.set_cons_succ, R.bind_ok, sCons, sNil, sIf, sRet, retL, dropL, sSet, setL, sDrop, sUnp, sPar, lNil, lCons, kF, putL, gN, gT, gAll, kC, kX, kD, kG, kS, scl, k1, k2, L.get, L.take, T.toD, aNil, aCons, kTup, kLst, bVal, bAnd, bOr, bNot, kAnd, kOr, kNot, kIf, boolOf, kCall, cNil, cV, cMv, cPass, lend, back, resL, outs, endOf, srcAt, kSGet, kSLen, kInt, SF.get, SF.put, bl, nm, if_true, if_false, Bool.false_eq_true, Bool.not_true, Bool.not_false, lIt, iRg1, pGt_int, d1, d2, p1, p2, pAdd_int, zn, and_self, zt]
    · have d2 : decide ((0 : Int) < ((e : Nat) : Int)) = false := decide_eq_false (by omega)
      refine ⟨40, S1, by omega, ?_, hS1⟩
      simp only [lA]
      simp only [run_mk, List.map_cons, List.map_nil, List.length_cons, List.length_nil, List.cons_append, List.nil_append, List.replicate_succ, List.replicate_zero, Nat.reduceAdd, Nat.reduceSub, List.getElem?_cons_zero, List.getElem?_cons_succ, List.set_cons_zero, List.set_cons_succ, R.bind_ok, sCons, sNil, sIf, sRet, retL, dropL, sSet, setL, sDrop, sUnp, sPar, lNil, lCons, kF, putL, gN, gT, gAll, kC, kX, kD, kG, kS, scl, k1, k2, L.get, L.take, T.toD, aNil, aCons, kTup, kLst, bVal, bAnd, bOr, bNot, kAnd, kOr, kNot, kIf, boolOf, kCall, cNil, cV, cMv, cPass, lend, back, resL, outs, endOf, srcAt, kSGet, kSLen, kInt, SF.get, SF.put, bl, nm, if_true, if_false, Bool.false_eq_true, Bool.not_true, Bool.not_false, lIt, iRg1, pGt_int, d1, d2, p1, z40, and_self]
      rfl
theorem turns_ok {zs : List Int} {S : Src} {ns : List Str} {w : D} {i : Nat} {v3 v4 v5 v10 v11 v12 v13 v14 v15 v16 v17 v18 : Option T} (hn : Names ns) (hS : Sok S) :
    ((sFor lIt (gN 10) lTn) (lA zs S (.list (ns.map .str)) w [] [] (some (.val (.int (i : Nat)))) v3 v4 v5 v10 v11 v12 v13 v14 v15 v16 v17 v18)).W fun q => q.1 = .nx ∧ ∃ (S' : Src) (its' r' : List It) (u2 u3 u4 u5 u10 u11 u12 u13 u14 u15 u16 u17 u18 : Option T), q.2 = lA zs S' (.list (ns.map .str)) w its' r' u2 u3 u4 u5 u10 u11 u12 u13 u14 u15 u16 u17 u18 ∧ Lists its' r' 40 ∧ Sok S' := by
  obtain ⟨n, S1, hn40, e1, hS1⟩ := it_ok (zs := zs) (nl := .list (ns.map .str)) (w := w) (its := []) (r := []) (i := i) (v3 := v3) (v4 := v4) (v5 := v5) (v10 := v10) (v11 := v11) (v12 := v12) (v13 := v13) (v14 := v14) (v15 := v15) (v16 := v16) (v17 := v17) (v18 := v18) hS
  have e : (sFor lIt (gN 10) lTn) (lA zs S (.list (ns.map .str)) w [] [] (some (.val (.int (i : Nat)))) v3 v4 v5 v10 v11 v12 v13 v14 v15 v16 v17 v18) = forD (gN 10) lTn (intR 0 n) (lA zs S1 (.list (ns.map .str)) w [] [] (some (.val (.int (i : Nat)))) v3 v4 v5 v10 v11 v12 v13 v14 v15 v16 v17 v18) := by
    show (lIt _).bind _ = _
    rw [e1]
    rfl
  rw [e]
  refine R.W_mono (for_inv (g := gN 10) (b := lTn) (ds := intR 0 n) (fun j s => ∃ (S' : Src) (its' r' : List It) (u2 u3 u4 u5 u10 u11 u12 u13 u14 u15 u16 u17 u18 : Option T), s = lA zs S' (.list (ns.map .str)) w its' r' u2 u3 u4 u5 u10 u11 u12 u13 u14 u15 u16 u17 u18 ∧ Lists its' r' j ∧ Sok S') ⟨S1, [], [], _, _, _, _, _, _, _, _, _, _, _, _, _, rfl, ⟨fun _ h => (nomatch h), ⟨fun _ h => (nomatch h), rfl⟩, Nat.le_refl _, Nat.le_refl _⟩, hS1⟩ (fun j x s hx ⟨S2, its, r, u2, u3, u4, u5, u10, u11, u12, u13, u14, u15, u16, u17, u18, es, hL, hS2⟩ => ?_)) fun q ⟨h1, S2, its, r, u2, u3, u4, u5, u10, u11, u12, u13, u14, u15, u16, u17, u18, h2, hL, hS2⟩ => ⟨h1, S2, its, r, _, _, _, _, _, _, _, _, _, _, _, _, _, h2, hL.mono (by rw [intR_len]; exact hn40), hS2⟩
  obtain ⟨hj, rfl⟩ := intR_in hx
  subst es
  refine R.W_of (a := lA zs S2 (.list (ns.map .str)) w its r u2 u3 u4 u5 (some (.val (.int (j : Nat)))) u11 u12 u13 u14 u15 u16 u17 u18) rfl ?_
  exact R.W_mono (turn_ok hn hS2 hL (by omega)) fun q ⟨h1, S3, its3, r3, t2, t3, t4, t5, t10, t11, t12, t13, t14, t15, t16, t17, t18, h2, h3, h4⟩ => ⟨.inl h1, S3, its3, r3, _, _, _, _, _, _, _, _, _, _, _, _, _, h2, h3, h4⟩
theorem tup_l {xs : List D} : pTuple (.list xs) = .ok (.d (.tuple xs)) := rfl
theorem isN0 : isNone .none = true := rfl
theorem mid_ok {zs : List Int} {S : Src} {nl w : D} {its r : List It} {v2 v3 v4 v5 v10 v11 v12 v13 v14 v15 v16 v17 v18 : Option T} {rest : SV} {Q : Fl × Sl → Prop} (h : Lists its r 40) (hr : ∀ u2 u3 u4 u6 u7 u8 u10 u11 u12 u13 u14 u15 u16 u17 u18, (rest (lB zs S w r u2 u3 u4 u6 u7 u8 u10 u11 u12 u13 u14 u15 u16 u17 u18)).W Q) :
    ((sCons lp4 (sCons lp5 (sCons lp6 (sCons lp7 rest)))) (lA zs S nl w its r v2 v3 v4 v5 v10 v11 v12 v13 v14 v15 v16 v17 v18)).W Q := by
  have li := h.li
  have lr := h.lr
  have si := show_its h.oi (by omega)
  have r1 := pRepr_of si
  have s4 : lp4 (lA zs S nl w its r v2 v3 v4 v5 v10 v11 v12 v13 v14 v15 v16 v17 v18) = .ok (.nx, lE zs S w (sesE w its) (PyData.list (its.map It.enc)).shown its r v2 v3 v4 (some (.val nl)) v10 v12 v13 v14 v15 v16 v17 v18) := by
    simp only [lA, lE]
    simp only [run_mk, List.map_cons, List.map_nil, List.length_cons, List.length_nil, List.cons_append, List.nil_append, List.replicate_succ, List.replicate_zero, Nat.reduceAdd, Nat.reduceSub, List.getElem?_cons_zero, List.getElem?_cons_succ, List.set_cons_zero, List.set_cons_succ, R.bind_ok, sCons, sNil, sIf, sRet, retL, dropL, sSet, setL, sDrop, sUnp, sPar, lNil, lCons, kF, putL, gN, gT, gAll, kC, kX, kD, kG, kS, scl, k1, k2, L.get, L.take, T.toD, aNil, aCons, kTup, kLst, bVal, bAnd, bOr, bNot, kAnd, kOr, kNot, kIf, boolOf, kCall, cNil, cV, cMv, cPass, lend, back, resL, outs, endOf, srcAt, kSGet, kSLen, kInt, SF.get, SF.put, bl, nm, if_true, if_false, Bool.false_eq_true, Bool.not_true, Bool.not_false, lp4, tup_l, r1, szOk2]
  have w1 := witem_ok (w := w) h.oi (by omega)
  have w2 := lfirst_ok h.oi (by omega)
  have r2 := pRepr_of (show_fw h.oi (by omega))
  have s5 : lp5 (lE zs S w (sesE w its) (PyData.list (its.map It.enc)).shown its r v2 v3 v4 (some (.val nl)) v10 v12 v13 v14 v15 v16 v17 v18) = .ok (.nx, lD zs S w (sesE w its) (PyData.list (its.map It.enc)).shown its r v2 v3 v4 (some (.val nl)) v10 v12 v13 v14 v15 v16 v17 v18) := by
    simp only [lE, lD]
    simp only [run_mk, List.map_cons, List.map_nil, List.length_cons, List.length_nil, List.cons_append, List.nil_append, List.replicate_succ, List.replicate_zero, Nat.reduceAdd, Nat.reduceSub, List.getElem?_cons_zero, List.getElem?_cons_succ, List.set_cons_zero, List.set_cons_succ, R.bind_ok, sCons, sNil, sIf, sRet, retL, dropL, sSet, setL, sDrop, sUnp, sPar, lNil, lCons, kF, putL, gN, gT, gAll, kC, kX, kD, kG, kS, scl, k1, k2, L.get, L.take, T.toD, aNil, aCons, kTup, kLst, bVal, bAnd, bOr, bNot, kAnd, kOr, kNot, kIf, boolOf, kCall, cNil, cV, cMv, cPass, lend, back, resL, outs, endOf, srcAt, kSGet, kSLen, kInt, SF.get, SF.put, bl, nm, if_true, if_false, Bool.false_eq_true, Bool.not_true, Bool.not_false, lp5, w1, w2, r1, r2, neS]
  have s6 : lp6 (lD zs S w (sesE w its) (PyData.list (its.map It.enc)).shown its r v2 v3 v4 (some (.val nl)) v10 v12 v13 v14 v15 v16 v17 v18) = .ok (.nx, lD zs S w (sesE w r) (PyData.list (its.map It.enc)).shown its r v2 v3 v4 (some (.val nl)) v10 v12 v13 v14 v15 v16 v17 v18) := by
    simp only [lD]
    simp only [run_mk, List.map_cons, List.map_nil, List.length_cons, List.length_nil, List.cons_append, List.nil_append, List.replicate_succ, List.replicate_zero, Nat.reduceAdd, Nat.reduceSub, List.getElem?_cons_zero, List.getElem?_cons_succ, List.set_cons_zero, List.set_cons_succ, R.bind_ok, sCons, sNil, sIf, sRet, retL, dropL, sSet, setL, sDrop, sUnp, sPar, lNil, lCons, kF, putL, gN, gT, gAll, kC, kX, kD, kG, kS, scl, k1, k2, L.get, L.take, T.toD, aNil, aCons, kTup, kLst, bVal, bAnd, bOr, bNot, kAnd, kOr, kNot, kIf, boolOf, kCall, cNil, cV, cMv, cPass, lend, back, resL, outs, endOf, srcAt, kSGet, kSLen, kInt, SF.get, SF.put, bl, nm, if_true, if_false, Bool.false_eq_true, Bool.not_true, Bool.not_false, lp6, tup_l, szOk2]
  have w3 := witem_ok (w := w) h.rr.o (by omega)
  rw [h.rr.f] at w3
  have w3 : D_wrong_item.run [.val (sesE w r)] = .ok (.val .none, []) := w3
  have s7 : lp7 (lD zs S w (sesE w r) (PyData.list (its.map It.enc)).shown its r v2 v3 v4 (some (.val nl)) v10 v12 v13 v14 v15 v16 v17 v18) = .ok (.nx, lD zs S w (sesE w r) (PyData.list (its.map It.enc)).shown its r v2 v3 v4 (some (.val nl)) v10 v12 v13 v14 v15 v16 v17 v18) := by
    simp only [lD]
    simp only [run_mk, List.map_cons, List.map_nil, List.length_cons, List.length_nil, List.cons_append, List.nil_append, List.replicate_succ, List.replicate_zero, Nat.reduceAdd, Nat.reduceSub, List.getElem?_cons_zero, List.getElem?_cons_succ, List.set_cons_zero, List.set_cons_succ, R.bind_ok, sCons, sNil, sIf, sRet, retL, dropL, sSet, setL, sDrop, sUnp, sPar, lNil, lCons, kF, putL, gN, gT, gAll, kC, kX, kD, kG, kS, scl, k1, k2, L.get, L.take, T.toD, aNil, aCons, kTup, kLst, bVal, bAnd, bOr, bNot, kAnd, kOr, kNot, kIf, boolOf, kCall, cNil, cV, cMv, cPass, lend, back, resL, outs, endOf, srcAt, kSGet, kSLen, kInt, SF.get, SF.put, bl, nm, if_true, if_false, Bool.false_eq_true, Bool.not_true, Bool.not_false, lp7, w3, pNotN, isN0]
  rw [sCons_nx s4, sCons_nx s5, sCons_nx s6, sCons_nx s7]
  exact hr _ _ _ _ _ _ _ _ _ _ _ _ _ _ _
end K06

set_option Elab.async false
set_option linter.all false
set_option maxRecDepth 100000
set_option maxHeartbeats 4000000
set_option pp.maxSteps 600
namespace K06
open PySem KV
theorem slL {α : Type} {f : α → D} {l : List α} {i : Nat} : pSl none (some (i : Int)) (.list (l.map f)) = .ok (.t (.lst ((l.take i).map f))) := by
  unfold pSl
  simp only [cut_to, List.map_take]
abbrev c15 : Option BV := (some (bVal (k2 pIn (k2 pIx (kX 15) (kC (.int 0))) (kTup (aCons (kC (.str "program")) (aCons (kC (.str "pipe")) aNil))))))
abbrev e15 : EV := (kTup (aCons (k2 pIx (kX 15) (kC (.int 1))) (aCons (kX 15) aNil)))
theorem comp15 {zs : List Int} {S : Src} {w : D} {r : List It} {m : Nat} {v2 v3 v4 v6 v7 v8 v10 v11 v12 v13 v14 v15 v16 v17 v18 : Option T} (o : ∀ x ∈ r, OkI x) : ∃ v15', compD (gN 15) c15 e15 [15] ((r.take m).map It.enc) (lB zs S w r v2 v3 v4 v6 v7 v8 v10 v11 v12 v13 v14 v15 v16 v17 v18) = .ok ((prs It.isPP (r.take m)).map fun x => .tuple [.str x.1, x.2], lB zs S w r v2 v3 v4 v6 v7 v8 v10 v11 v12 v13 v14 v15' v16 v17 v18) := by
  have hc := comp_map (g := gN 15) (c := c15) (f := e15) (own := [15]) (s := lB zs S w r v2 v3 v4 v6 v7 v8 v10 v11 v12 v13 v14 none v16 v17 v18)
    It.enc (fun x => lB zs S w r v2 v3 v4 v6 v7 v8 v10 v11 v12 v13 v14 (some (.val x.enc)) v16 v17 v18) It.isPP (fun x => .tuple [.str x.name, x.enc]) rfl (xs := r.take m) (fun x hx => by
      have wd := (o x (List.mem_of_mem_take hx)).wd
      refine ⟨rfl, rfl, ?_, fun _ => ?_⟩
      · simp only [bOf, c15, run_mk, List.map_cons, List.map_nil, List.length_cons, List.length_nil, List.cons_append, List.nil_append, List.replicate_succ, List.replicate_zero, Nat.reduceAdd, Nat.reduceSub, List.getElem?_cons_zero, List.getElem?_cons_succ, List.set_cons_zero, List.set_cons_succ, R.bind_ok, sCons, sNil, sIf, sRet, retL, dropL, sSet, setL, sDrop, sUnp, sPar, lNil, lCons, kF, putL, gN, gT, gAll, kC, kX, kD, kG, kS, scl, k1, k2, L.get, L.take, T.toD, aNil, aCons, kTup, kLst, bVal, bAnd, bOr, bNot, kAnd, kOr, kNot, kIf, boolOf, kCall, cNil, cV, cMv, cPass, lend, back, resL, outs, endOf, srcAt, kSGet, kSLen, kInt, SF.get, SF.put, bl, nm, if_true, if_false, Bool.false_eq_true, Bool.not_true, Bool.not_false, lB, enc0, szOk2, wd.xpp]
      · simp only [run_mk, List.map_cons, List.map_nil, List.length_cons, List.length_nil, List.cons_append, List.nil_append, List.replicate_succ, List.replicate_zero, Nat.reduceAdd, Nat.reduceSub, List.getElem?_cons_zero, List.getElem?_cons_succ, List.set_cons_zero, List.set_cons_succ, R.bind_ok, sCons, sNil, sIf, sRet, retL, dropL, sSet, setL, sDrop, sUnp, sPar, lNil, lCons, kF, putL, gN, gT, gAll, kC, kX, kD, kG, kS, scl, k1, k2, L.get, L.take, T.toD, aNil, aCons, kTup, kLst, bVal, bAnd, bOr, bNot, kAnd, kOr, kNot, kIf, boolOf, kCall, cNil, cV, cMv, cPass, lend, back, resL, outs, endOf, srcAt, kSGet, kSLen, kInt, SF.get, SF.put, bl, nm, if_true, if_false, Bool.false_eq_true, Bool.not_true, Bool.not_false, e15, lB, enc1, szOk2])
  have e2 : ((r.take m).filter It.isPP).map (fun x => PyData.tuple [.str x.name, x.enc]) = (prs It.isPP (r.take m)).map fun x => .tuple [.str x.1, x.2] := by
    unfold prs
    rw [List.map_map]
    rfl
  rw [e2] at hc
  generalize hl : r.take m = l at hc ⊢
  cases l with
  | nil => exact ⟨v15, rfl⟩
  | cons x l => exact ⟨none, Eq.trans rfl hc⟩
/-- one number of items -/
theorem nb_ok {zs : List Int} {S : Src} {w : D} {r : List It} {m : Nat} {v2 v3 v4 v6 v7 v8 v10 v11 v12 v13 v14 v15 v16 v17 v18 : Option T} (o : ∀ x ∈ r, OkI x) (hl : r.length ≤ 100) :
    (lNb (lB zs S w r v2 v3 v4 v6 v7 v8 v10 v11 (some (.val (.int (m : Nat)))) v13 v14 v15 v16 v17 v18)).W fun q => q.1 = .nx ∧ ∃ u2 u3 u4 u6 u7 u8 u10 u11 u12 u13 u14 u15 u16 u17 u18, q.2 = lB zs S w r u2 u3 u4 u6 u7 u8 u10 u11 u12 u13 u14 u15 u16 u17 u18 := by
  obtain ⟨x15, hc⟩ := comp15 (zs := zs) (S := S) (w := w) (r := r) (m := m) (v2 := v2) (v3 := v3) (v4 := v4) (v6 := v6) (v7 := v7) (v8 := v8) (v10 := v10) (v11 := v11) (v12 := some (.val (.int (m : Nat)))) (v13 := v13) (v14 := v14) (v15 := v15) (v16 := v16) (v17 := v17) (v18 := v18) o
  have hz : szOk ((prs It.isPP (r.take m)).map fun x => PyData.tuple [.str x.1, x.2]).length = true := szOk_of (by
    unfold prs
    rw [List.length_map, List.length_map]
    have h1 := List.length_filter_le It.isPP (r.take m)
    rw [List.length_take] at h1
    omega)
  have ot : ∀ x ∈ r.take m, OkI x := fun x hx => o x (List.mem_of_mem_take hx)
  have t1 := told_ok (w := w) (i := m) o (by omega)
  have pd : pDict (.list ((prs It.isPP (r.take m)).map fun x => .tuple [.str x.1, x.2])) = .ok (.t (.dct (dcs It.isPP (r.take m)))) := pDict_kv
  have rp := pReprD_of (show_dcs (f := It.isPP) ot (by rw [List.length_take]; omega))
  simp only [lB] at hc ⊢
  simp only [run_mk, List.map_cons, List.map_nil, List.length_cons, List.length_nil, List.cons_append, List.nil_append, List.replicate_succ, List.replicate_zero, Nat.reduceAdd, Nat.reduceSub, List.getElem?_cons_zero, List.getElem?_cons_succ, List.set_cons_zero, List.set_cons_succ, R.bind_ok, sCons, sNil, sIf, sRet, retL, dropL, sSet, setL, sDrop, sUnp, sPar, lNil, lCons, kF, putL, gN, gT, gAll, kC, kX, kD, kG, kS, scl, k1, k2, L.get, L.take, T.toD, aNil, aCons, kTup, kLst, bVal, bAnd, bOr, bNot, kAnd, kOr, kNot, kIf, boolOf, kCall, cNil, cV, cMv, cPass, lend, back, resL, outs, endOf, srcAt, kSGet, kSLen, kInt, SF.get, SF.put, bl, nm, if_true, if_false, Bool.false_eq_true, Bool.not_true, Bool.not_false, lNb, kSl, partOf, slL, kComp, iSeq, seq_l, hc, hz, pd, t1, rp, neS, R.W_ok]
  exact ⟨trivial, _, _, _, _, _, _, _, _, _, _, _, _, _, _, _, rfl⟩
theorem nums_ok {zs : List Int} {S : Src} {w : D} {r : List It} {v2 v3 v4 v6 v7 v8 v10 v11 v12 v13 v14 v15 v16 v17 v18 : Option T} (o : ∀ x ∈ r, OkI x) (hl : r.length ≤ 100) (hS : Sok S) :
    (lp8 (lB zs S w r v2 v3 v4 v6 v7 v8 v10 v11 v12 v13 v14 v15 v16 v17 v18)).W fun q => q.1 = .nx ∧ ∃ (S' : Src) (u2 u3 u4 u6 u7 u8 u10 u11 u12 u13 u14 u15 u16 u17 u18 : Option T), q.2 = lB zs S' w r u2 u3 u4 u6 u7 u8 u10 u11 u12 u13 u14 u15 u16 u17 u18 ∧ Sok S' := by
  obtain ⟨n, S1, p1, hn, hS1⟩ := pickI (n := r.length + 1) (((r.map It.enc).length : Nat) + 1) S (by rw [List.length_map]; rfl) hS (by omega) (by omega)
  have pl : pLen (.list (r.map It.enc)) = .ok (.d (.int ((r.map It.enc).length : Nat))) := rfl
  have e : lp8 (lB zs S w r v2 v3 v4 v6 v7 v8 v10 v11 v12 v13 v14 v15 v16 v17 v18) = forD (gN 12) lNb [.int ((0 : Nat) : Int), .int ((r.map It.enc).length : Nat), .int (n : Nat)] (lB zs S1 w r v2 v3 v4 v6 v7 v8 v10 v11 v12 v13 v14 v15 v16 v17 v18) := by
    simp only [lB]
    simp only [run_mk, List.map_cons, List.map_nil, List.length_cons, List.length_nil, List.cons_append, List.nil_append, List.replicate_succ, List.replicate_zero, Nat.reduceAdd, Nat.reduceSub, List.getElem?_cons_zero, List.getElem?_cons_succ, List.set_cons_zero, List.set_cons_succ, R.bind_ok, sCons, sNil, sIf, sRet, retL, dropL, sSet, setL, sDrop, sUnp, sPar, lNil, lCons, kF, putL, gN, gT, gAll, kC, kX, kD, kG, kS, scl, k1, k2, L.get, L.take, T.toD, aNil, aCons, kTup, kLst, bVal, bAnd, bOr, bNot, kAnd, kOr, kNot, kIf, boolOf, kCall, cNil, cV, cMv, cPass, lend, back, resL, outs, endOf, srcAt, kSGet, kSLen, kInt, SF.get, SF.put, bl, nm, if_true, if_false, Bool.false_eq_true, Bool.not_true, Bool.not_false, lp8, sFor, iSeq, pl, pAdd_int, p1, szOk3, seq_t]
    rfl
  rw [e]
  refine R.W_mono (for_inv (g := gN 12) (b := lNb) (ds := [.int ((0 : Nat) : Int), .int ((r.map It.enc).length : Nat), .int (n : Nat)]) (s := lB zs S1 w r v2 v3 v4 v6 v7 v8 v10 v11 v12 v13 v14 v15 v16 v17 v18) (fun _ s => ∃ u2 u3 u4 u6 u7 u8 u10 u11 u12 u13 u14 u15 u16 u17 u18, s = lB zs S1 w r u2 u3 u4 u6 u7 u8 u10 u11 u12 u13 u14 u15 u16 u17 u18) ⟨_, _, _, _, _, _, _, _, _, _, _, _, _, _, _, rfl⟩ (fun i x s hx ⟨u2, u3, u4, u6, u7, u8, u10, u11, u12, u13, u14, u15, u16, u17, u18, es⟩ => ?_)) fun q ⟨h1, u2, u3, u4, u6, u7, u8, u10, u11, u12, u13, u14, u15, u16, u17, u18, h2⟩ => ⟨h1, S1, _, _, _, _, _, _, _, _, _, _, _, _, _, _, _, h2, hS1⟩
  have hm := List.mem_of_getElem? hx
  obtain ⟨m, rfl⟩ : ∃ m : Nat, x = .int (m : Nat) := by
    simp only [List.mem_cons, List.not_mem_nil, or_false] at hm
    rcases hm with rfl | rfl | rfl <;> exact ⟨_, rfl⟩
  subst es
  refine R.W_of (a := lB zs S1 w r u2 u3 u4 u6 u7 u8 u10 u11 (some (.val (.int (m : Nat)))) u13 u14 u15 u16 u17 u18) rfl ?_
  exact R.W_mono (nb_ok (v12 := none) o hl) fun q ⟨h1, t2, t3, t4, t6, t7, t8, t10, t11, t12, t13, t14, t15, t16, t17, t18, h2⟩ => ⟨.inl h1, _, _, _, _, _, _, _, _, _, _, _, _, _, _, _, h2⟩
theorem both2 {w0 : D} {l : List It} {na : Str} (r : Right l) (hl : l.length ≤ 100) (hn : na ∈ (l.filter It.isPP).map It.name) : ∃ (ps : List Str) (n : Int),
    D_u_law_pieces.run [.val (.dict (pk (l.filter It.isPP))), .val (.str na)] = .ok (.val (.tuple [.tuple (ps.map .str), .int n]), []) ∧
    D_pieces_of.run [.val (sesE w0 l), .val (.str na)] = .ok (.val (.tuple (ps.map .str)), []) ∧
    D_programs_read.run [.val (sesE w0 l), .val (.str na)] = .ok (.val (.int n), []) ∧ ps.length ≤ 100 ∧ (∀ y ∈ ps, Sk y) ∧ 0 ≤ n := by
  have kl : (l.filter It.isPP).length ≤ 100 := Nat.le_trans (List.length_filter_le ..) hl
  obtain ⟨W, wt, e1⟩ := lpieces_ok r.wk hn kl
  obtain ⟨W', wt', e2⟩ := pieces_ok (w0 := w0) r hl hn
  rw [wt'.same wt] at e2
  refine ⟨((l.filter It.isPP).filter fun x => decide (x.name ∈ W)).map It.name, lk (tabF [] (l.filter It.isPP)) na, ?_, ?_, read_ok r hl hn, ?_, fun y hy => ?_, lk_tab⟩
  · rw [e1, List.map_map]; rfl
  · rw [e2, List.map_map]; rfl
  · rw [List.length_map]
    exact Nat.le_trans (List.length_filter_le ..) kl
  · obtain ⟨x, hx, rfl⟩ := List.mem_map.mp hy
    exact r.wk.sk (List.mem_map.mpr ⟨x, (List.mem_filter.mp hx).1, rfl⟩)
def isPk (r : List It) (v : Option T) : Prop := v = some (.dct (pk (r.filter It.isPP))) ∨ v = some (.val (.dict (pk (r.filter It.isPP))))
/-- one name -/
theorem pb_ok {zs : List Int} {S : Src} {w : D} {r : List It} {na : Str} {v13 : Option T} {v2 v3 v4 v6 v7 v8 v9 v10 v11 v12 v14 v15 v16 v17 v18 : Option T} (hr : Right r) (hl : r.length ≤ 100) (hn : na ∈ (r.filter It.isPP).map It.name) (hv : isPk r v13) :
    (lPb (lC zs S w r v13 v2 v3 v4 v6 v7 v8 v9 v10 v11 v12 (some (.val (.str na))) v15 v16 v17 v18)).W fun q => q.1 = .nx ∧ ∃ (u13 u2 u3 u4 u6 u7 u8 u9 u10 u11 u12 u14 u15 u16 u17 u18 : Option T), q.2 = lC zs S w r u13 u2 u3 u4 u6 u7 u8 u9 u10 u11 u12 u14 u15 u16 u17 u18 ∧ isPk r u13 := by
  obtain ⟨ps, n, e1, e2, e3, e4, e5, e6⟩ := both2 (w0 := w) hr hl hn
  by_cases h2 : n < 200
  · have d2 : decide (n < 200) = true := decide_eq_true h2
    have rp := pRepr_of (show_pcs e5 e4 e6 h2)
    rcases hv with hv | hv <;> subst hv <;> simp only [lC] <;> simp only [run_mk, List.map_cons, List.map_nil, List.length_cons, List.length_nil, List.cons_append, List.nil_append, List.replicate_succ, List.replicate_zero, Nat.reduceAdd, Nat.reduceSub, List.getElem?_cons_zero, List.getElem?_cons_succ, List.set_cons_zero, List.set_cons_succ, R.bind_ok, sCons, sNil, sIf, sRet, retL, dropL, sSet, setL, sDrop, sUnp, sPar, lNil, lCons, kF, putL, gN, gT, gAll, kC, kX, kD, kG, kS, scl, k1, k2, L.get, L.take, T.toD, aNil, aCons, kTup, kLst, bVal, bAnd, bOr, bNot, kAnd, kOr, kNot, kIf, boolOf, kCall, cNil, cV, cMv, cPass, lend, back, resL, outs, endOf, srcAt, kSGet, kSLen, kInt, SF.get, SF.put, bl, nm, if_true, if_false, Bool.false_eq_true, Bool.not_true, Bool.not_false, lPb, e1, e2, e3, pLt, d2, szOk2, rp, neS, R.W_ok] <;> exact ⟨trivial, _, _, _, _, _, _, _, _, _, _, _, _, _, _, _, _, rfl, .inr rfl⟩
  · have d2 : decide (n < 200) = false := decide_eq_false h2
    rcases hv with hv | hv <;> subst hv <;> simp only [lC] <;> simp only [run_mk, List.map_cons, List.map_nil, List.length_cons, List.length_nil, List.cons_append, List.nil_append, List.replicate_succ, List.replicate_zero, Nat.reduceAdd, Nat.reduceSub, List.getElem?_cons_zero, List.getElem?_cons_succ, List.set_cons_zero, List.set_cons_succ, R.bind_ok, sCons, sNil, sIf, sRet, retL, dropL, sSet, setL, sDrop, sUnp, sPar, lNil, lCons, kF, putL, gN, gT, gAll, kC, kX, kD, kG, kS, scl, k1, k2, L.get, L.take, T.toD, aNil, aCons, kTup, kLst, bVal, bAnd, bOr, bNot, kAnd, kOr, kNot, kIf, boolOf, kCall, cNil, cV, cMv, cPass, lend, back, resL, outs, endOf, srcAt, kSGet, kSLen, kInt, SF.get, SF.put, bl, nm, if_true, if_false, Bool.false_eq_true, Bool.not_true, Bool.not_false, lPb, e1, pLt, d2, R.W_ok] <;> exact ⟨trivial, _, _, _, _, _, _, _, _, _, _, _, _, _, _, _, _, rfl, .inr rfl⟩
theorem last_ok {zs : List Int} {S : Src} {w : D} {r : List It} {v2 v3 v4 v6 v7 v8 v10 v11 v12 v13 v14 v15 v16 v17 v18 : Option T} (hr : Right r) (hl : r.length ≤ 100) (hS : Sok S) :
    ((sCons lp9 (sCons lp10 sNil)) (lB zs S w r v2 v3 v4 v6 v7 v8 v10 v11 v12 v13 v14 v15 v16 v17 v18)).W fun q => q.1 = .nx ∧ ∃ (S' : Src) (u2 u3 u4 u5 u6 u7 u8 u9 u10 u11 u12 u13 u14 u15 u16 u17 u18 : Option T), q.2 = lZ zs S' u2 u3 u4 u5 u6 u7 u8 u9 u10 u11 u12 u13 u14 u15 u16 u17 u18 ∧ Sok S' := by
  have t1 := told_ok (w := w) (i := r.length) hr.o (by omega)
  rw [List.take_length, hr.dcs] at t1
  have kl : (r.filter It.isPP).length ≤ 100 := Nat.le_trans (List.length_filter_le ..) hl
  obtain ⟨l', S1, m1, m2, hS1⟩ := lmixed_ok (l := (r.filter It.isPP).map It.name) (by rw [List.length_map]; omega) S hS
  have pl : pLen (.list (r.map It.enc)) = .ok (.d (.int (r.length : Nat))) := by
    show nm _ = _
    rw [List.length_map]
    rfl
  have s9 : lp9 (lB zs S w r v2 v3 v4 v6 v7 v8 v10 v11 v12 v13 v14 v15 v16 v17 v18) = .ok (.nx, lC zs S w r (some (.dct (pk (r.filter It.isPP)))) v2 v3 v4 v6 v7 v8 (some (.lst (r.map It.enc))) v10 v11 v12 v14 v15 v16 v17 v18) := by
    simp only [lB, lC]
    simp only [run_mk, List.map_cons, List.map_nil, List.length_cons, List.length_nil, List.cons_append, List.nil_append, List.replicate_succ, List.replicate_zero, Nat.reduceAdd, Nat.reduceSub, List.getElem?_cons_zero, List.getElem?_cons_succ, List.set_cons_zero, List.set_cons_succ, R.bind_ok, sCons, sNil, sIf, sRet, retL, dropL, sSet, setL, sDrop, sUnp, sPar, lNil, lCons, kF, putL, gN, gT, gAll, kC, kX, kD, kG, kS, scl, k1, k2, L.get, L.take, T.toD, aNil, aCons, kTup, kLst, bVal, bAnd, bOr, bNot, kAnd, kOr, kNot, kIf, boolOf, kCall, cNil, cV, cMv, cPass, lend, back, resL, outs, endOf, srcAt, kSGet, kSLen, kInt, SF.get, SF.put, bl, nm, if_true, if_false, Bool.false_eq_true, Bool.not_true, Bool.not_false, lp9, pl, t1]
  have r2 : pList (.dict (pk (r.filter It.isPP))) = .ok (.t (.lst (((r.filter It.isPP).map It.name).map PyData.str))) := by
    show R.ok (L.t (T.lst ((pk _).map (·.1)))) = _
    rw [pk_keys, List.map_map]
    rfl
  have sl3 : pSl none (some 3) (.list (l'.map PyData.str)) = .ok (.t (.lst ((l'.take 3).map PyData.str))) := slL (i := 3)
  have e10 : lp10 (lC zs S w r (some (.dct (pk (r.filter It.isPP)))) v2 v3 v4 v6 v7 v8 (some (.lst (r.map It.enc))) v10 v11 v12 v14 v15 v16 v17 v18) = forD (gN 14) lPb ((l'.take 3).map PyData.str) (lC zs S1 w r (some (.dct (pk (r.filter It.isPP)))) v2 v3 v4 v6 v7 v8 (some (.lst (r.map It.enc))) v10 v11 v12 v14 v15 v16 v17 v18) := by
    simp only [lC]
    simp only [run_mk, List.map_cons, List.map_nil, List.length_cons, List.length_nil, List.cons_append, List.nil_append, List.replicate_succ, List.replicate_zero, Nat.reduceAdd, Nat.reduceSub, List.getElem?_cons_zero, List.getElem?_cons_succ, List.set_cons_zero, List.set_cons_succ, R.bind_ok, sCons, sNil, sIf, sRet, retL, dropL, sSet, setL, sDrop, sUnp, sPar, lNil, lCons, kF, putL, gN, gT, gAll, kC, kX, kD, kG, kS, scl, k1, k2, L.get, L.take, T.toD, aNil, aCons, kTup, kLst, bVal, bAnd, bOr, bNot, kAnd, kOr, kNot, kIf, boolOf, kCall, cNil, cV, cMv, cPass, lend, back, resL, outs, endOf, srcAt, kSGet, kSLen, kInt, SF.get, SF.put, bl, nm, if_true, if_false, Bool.false_eq_true, Bool.not_true, Bool.not_false, lp10, sFor, iSeq, r2, m1, kSl, partOf, sl3, seq_l]
  rw [sCons_nx s9]
  refine sCons_W (P := fun s => ∃ (S' : Src) (u2 u3 u4 u5 u6 u7 u8 u9 u10 u11 u12 u13 u14 u15 u16 u17 u18 : Option T), s = lZ zs S' u2 u3 u4 u5 u6 u7 u8 u9 u10 u11 u12 u13 u14 u15 u16 u17 u18 ∧ Sok S') ?_ fun s hs => ⟨rfl, hs⟩
  rw [e10]
  refine R.W_mono (for_inv (g := gN 14) (b := lPb) (ds := (l'.take 3).map PyData.str) (fun _ s => ∃ (u13 u2 u3 u4 u6 u7 u8 u9 u10 u11 u12 u14 u15 u16 u17 u18 : Option T), s = lC zs S1 w r u13 u2 u3 u4 u6 u7 u8 u9 u10 u11 u12 u14 u15 u16 u17 u18 ∧ isPk r u13) ⟨_, _, _, _, _, _, _, _, _, _, _, _, _, _, _, _, rfl, .inl rfl⟩ (fun i x s hx ⟨u13, u2, u3, u4, u6, u7, u8, u9, u10, u11, u12, u14, u15, u16, u17, u18, es, hv⟩ => ?_)) fun q ⟨h1, u13, u2, u3, u4, u6, u7, u8, u9, u10, u11, u12, u14, u15, u16, u17, u18, h2, _⟩ => ⟨h1, S1, _, _, _, _, _, _, _, _, _, _, _, _, _, _, _, _, _, h2, hS1⟩
  obtain ⟨y, hy, rfl⟩ := List.mem_map.mp (List.mem_of_getElem? hx)
  have hn : y ∈ (r.filter It.isPP).map It.name := m2.mem_iff.mp (List.mem_of_mem_take hy)
  subst es
  refine R.W_of (a := lC zs S1 w r u13 u2 u3 u4 u6 u7 u8 u9 u10 u11 u12 (some (.val (.str y))) u15 u16 u17 u18) rfl ?_
  exact R.W_mono (pb_ok (v14 := none) hr hl hn hv) fun q ⟨h1, t13, t2, t3, t4, t6, t7, t8, t9, t10, t11, t12, t14, t15, t16, t17, t18, h2, h3⟩ => ⟨.inl h1, _, _, _, _, _, _, _, _, _, _, _, _, _, _, _, _, h2, h3⟩
end K06

set_option Elab.async false
set_option linter.all false
set_option maxRecDepth 100000
set_option maxHeartbeats 4000000
set_option pp.maxSteps 600
namespace K06
open PySem KV
theorem names_draw (S : Src) (hS : Sok S) : ∃ (ns : List Str) (S' : Src), D_u_law_of.run [.src S, .val (.list [.list [.str "p", .str "q"], .list [.str "p", .str "q", .str "r"], .list [.str "p", .str "q", .str "r", .str "b", .str "c"]])] = .ok (.val (.list (ns.map .str)), [.src S']) ∧ Names ns ∧ Sok S' := by
  obtain ⟨d, S', h1, ⟨ns, rfl, h2⟩, h3⟩ := of2 S [.list [.str "p", .str "q"], .list [.str "p", .str "q", .str "r"], .list [.str "p", .str "q", .str "r", .str "b", .str "c"]] (P := fun d => ∃ ns : List Str, d = .list (ns.map .str) ∧ Names ns) hS (by simp) (by simp) (fun d hd => by
    simp only [List.mem_cons, List.not_mem_nil, or_false] at hd
    rcases hd with rfl | rfl | rfl
    · exact ⟨["p", "q"], rfl, by simp, by simp, fun x hx => by simp at hx; rcases hx with rfl | rfl <;> first | exact sl_p | exact sl_q⟩
    · exact ⟨["p", "q", "r"], rfl, by simp, by simp, fun x hx => by simp at hx; rcases hx with rfl | rfl | rfl <;> first | exact sl_p | exact sl_q | exact sl_r⟩
    · exact ⟨["p", "q", "r", "b", "c"], rfl, by simp, by simp, fun x hx => by simp at hx; rcases hx with rfl | rfl | rfl | rfl | rfl <;> first | exact sl_p | exact sl_q | exact sl_r | exact sl_b | exact sl_c⟩)
  exact ⟨ns, S', h1, h2, h3⟩
theorem words_draw (S : Src) (hS : Sok S) : ∃ (d : D) (S' : Src), D_u_law_of.run [.src S, .val (.list [.tuple [], .tuple [.str "go"]])] = .ok (.val d, [.src S']) ∧ True ∧ Sok S' :=
  of2 S [.tuple [], .tuple [.str "go"]] (P := fun _ => True) hS (by simp) (by simp) (fun _ _ => trivial)
theorem lap_eq : lLap = sCons lp0 (sCons lp1 (sCons lp2 (sCons (sFor lIt (gN 10) lTn) (sCons lp4 (sCons lp5 (sCons lp6 (sCons lp7 (sCons lp8 (sCons lp9 (sCons lp10 sNil)))))))))) := rfl
theorem lap_ok {zs : List Int} {S : Src} {i : Nat} {v2 v3 v4 v5 v6 v7 v8 v9 v10 v11 v12 v13 v14 v15 v16 v17 v18 : Option T} (hS : Sok S) :
    (lLap (lZ zs S (some (.val (.int (i : Nat)))) v3 v4 v5 v6 v7 v8 v9 v10 v11 v12 v13 v14 v15 v16 v17 v18)).W fun q => q.1 = .nx ∧ ∃ (S' : Src) (u2 u3 u4 u5 u6 u7 u8 u9 u10 u11 u12 u13 u14 u15 u16 u17 u18 : Option T), q.2 = lZ zs S' u2 u3 u4 u5 u6 u7 u8 u9 u10 u11 u12 u13 u14 u15 u16 u17 u18 ∧ Sok S' := by
  obtain ⟨ns, S1, e1, hn, hS1⟩ := names_draw S hS
  obtain ⟨d, S2, e2, _, hS2⟩ := words_draw S1 hS1
  have s0 : lp0 (lZ zs S (some (.val (.int (i : Nat)))) v3 v4 v5 v6 v7 v8 v9 v10 v11 v12 v13 v14 v15 v16 v17 v18) = .ok (.nx, lZ zs S1 (some (.val (.int (i : Nat)))) v3 v4 v5 (some (.val (.list (ns.map .str)))) v7 v8 v9 v10 v11 v12 v13 v14 v15 v16 v17 v18) := by
    simp only [lZ]
    simp only [run_mk, List.map_cons, List.map_nil, List.length_cons, List.length_nil, List.cons_append, List.nil_append, List.replicate_succ, List.replicate_zero, Nat.reduceAdd, Nat.reduceSub, List.getElem?_cons_zero, List.getElem?_cons_succ, List.set_cons_zero, List.set_cons_succ, R.bind_ok, sCons, sNil, sIf, sRet, retL, dropL, sSet, setL, sDrop, sUnp, sPar, lNil, lCons, kF, putL, gN, gT, gAll, kC, kX, kD, kG, kS, scl, k1, k2, L.get, L.take, T.toD, aNil, aCons, kTup, kLst, bVal, bAnd, bOr, bNot, kAnd, kOr, kNot, kIf, boolOf, kCall, cNil, cV, cMv, cPass, lend, back, resL, outs, endOf, srcAt, kSGet, kSLen, kInt, SF.get, SF.put, bl, nm, if_true, if_false, Bool.false_eq_true, Bool.not_true, Bool.not_false, lp0, e1, szOk2, szOk3, szOk5]
  have s1 : lp1 (lZ zs S1 (some (.val (.int (i : Nat)))) v3 v4 v5 (some (.val (.list (ns.map .str)))) v7 v8 v9 v10 v11 v12 v13 v14 v15 v16 v17 v18) = .ok (.nx, lZ zs S2 (some (.val (.int (i : Nat)))) v3 v4 v5 (some (.val (.list (ns.map .str)))) (some (.val d)) v8 v9 v10 v11 v12 v13 v14 v15 v16 v17 v18) := by
    simp only [lZ]
    simp only [run_mk, List.map_cons, List.map_nil, List.length_cons, List.length_nil, List.cons_append, List.nil_append, List.replicate_succ, List.replicate_zero, Nat.reduceAdd, Nat.reduceSub, List.getElem?_cons_zero, List.getElem?_cons_succ, List.set_cons_zero, List.set_cons_succ, R.bind_ok, sCons, sNil, sIf, sRet, retL, dropL, sSet, setL, sDrop, sUnp, sPar, lNil, lCons, kF, putL, gN, gT, gAll, kC, kX, kD, kG, kS, scl, k1, k2, L.get, L.take, T.toD, aNil, aCons, kTup, kLst, bVal, bAnd, bOr, bNot, kAnd, kOr, kNot, kIf, boolOf, kCall, cNil, cV, cMv, cPass, lend, back, resL, outs, endOf, srcAt, kSGet, kSLen, kInt, SF.get, SF.put, bl, nm, if_true, if_false, Bool.false_eq_true, Bool.not_true, Bool.not_false, lp1, e2, szOk0, szOk1, szOk2]
  have s2 : lp2 (lZ zs S2 (some (.val (.int (i : Nat)))) v3 v4 v5 (some (.val (.list (ns.map .str)))) (some (.val d)) v8 v9 v10 v11 v12 v13 v14 v15 v16 v17 v18) = .ok (.nx, lA zs S2 (.list (ns.map .str)) d [] [] (some (.val (.int (i : Nat)))) v3 v4 v5 v10 v11 v12 v13 v14 v15 v16 v17 v18) := by
    simp only [lZ, lA]
    simp only [run_mk, List.map_cons, List.map_nil, List.length_cons, List.length_nil, List.cons_append, List.nil_append, List.replicate_succ, List.replicate_zero, Nat.reduceAdd, Nat.reduceSub, List.getElem?_cons_zero, List.getElem?_cons_succ, List.set_cons_zero, List.set_cons_succ, R.bind_ok, sCons, sNil, sIf, sRet, retL, dropL, sSet, setL, sDrop, sUnp, sPar, lNil, lCons, kF, putL, gN, gT, gAll, kC, kX, kD, kG, kS, scl, k1, k2, L.get, L.take, T.toD, aNil, aCons, kTup, kLst, bVal, bAnd, bOr, bNot, kAnd, kOr, kNot, kIf, boolOf, kCall, cNil, cV, cMv, cPass, lend, back, resL, outs, endOf, srcAt, kSGet, kSLen, kInt, SF.get, SF.put, bl, nm, if_true, if_false, Bool.false_eq_true, Bool.not_true, Bool.not_false, lp2, szOk0]
  rw [lap_eq, sCons_nx s0, sCons_nx s1, sCons_nx s2]
  refine sCons_W (P := fun s => ∃ (S' : Src) (its' r' : List It) (u2 u3 u4 u5 u10 u11 u12 u13 u14 u15 u16 u17 u18 : Option T), s = lA zs S' (.list (ns.map .str)) d its' r' u2 u3 u4 u5 u10 u11 u12 u13 u14 u15 u16 u17 u18 ∧ Lists its' r' 40 ∧ Sok S') (turns_ok hn hS2) fun s ⟨S3, its, r, u2, u3, u4, u5, u10, u11, u12, u13, u14, u15, u16, u17, u18, es, hL, hS3⟩ => ?_
  subst es
  refine mid_ok hL fun t2 t3 t4 t6 t7 t8 t10 t11 t12 t13 t14 t15 t16 t17 t18 => ?_
  refine sCons_W (P := fun s => ∃ (S' : Src) (u2 u3 u4 u6 u7 u8 u10 u11 u12 u13 u14 u15 u16 u17 u18 : Option T), s = lB zs S' d r u2 u3 u4 u6 u7 u8 u10 u11 u12 u13 u14 u15 u16 u17 u18 ∧ Sok S') (nums_ok hL.rr.o (by have := hL.lr; omega) hS3) fun s ⟨S4, w2, w3, w4, w6, w7, w8, w10, w11, w12, w13, w14, w15, w16, w17, w18, es, hS4⟩ => ?_
  subst es
  exact last_ok hL.rr (by have := hL.lr; omega) hS4
theorem it4 {s : Sl} : iRg1 (kC (.int 4)) s = .ok (intR 0 4, s) := by kernel_rfl
theorem laps_ok {zs : List Int} {S : Src} {v2 v3 v4 v5 v6 v7 v8 v9 v10 v11 v12 v13 v14 v15 v16 v17 v18 : Option T} (hS : Sok S) : ((sFor (iRg1 (kC (.int 4))) (gN 2) lLap) (lZ zs S v2 v3 v4 v5 v6 v7 v8 v9 v10 v11 v12 v13 v14 v15 v16 v17 v18)).W fun q => q.1 = .nx ∧ ∃ (S' : Src) (u2 u3 u4 u5 u6 u7 u8 u9 u10 u11 u12 u13 u14 u15 u16 u17 u18 : Option T), q.2 = lZ zs S' u2 u3 u4 u5 u6 u7 u8 u9 u10 u11 u12 u13 u14 u15 u16 u17 u18 ∧ Sok S' := by
  have e : (sFor (iRg1 (kC (.int 4))) (gN 2) lLap) (lZ zs S v2 v3 v4 v5 v6 v7 v8 v9 v10 v11 v12 v13 v14 v15 v16 v17 v18) = forD (gN 2) lLap (intR 0 4) (lZ zs S v2 v3 v4 v5 v6 v7 v8 v9 v10 v11 v12 v13 v14 v15 v16 v17 v18) := by
    show (iRg1 (kC (.int 4)) _).bind _ = _
    rw [it4]
    rfl
  rw [e]
  refine R.W_mono (for_inv (g := gN 2) (b := lLap) (ds := intR 0 4) (s := lZ zs S v2 v3 v4 v5 v6 v7 v8 v9 v10 v11 v12 v13 v14 v15 v16 v17 v18) (fun _ s => ∃ (S' : Src) (u2 u3 u4 u5 u6 u7 u8 u9 u10 u11 u12 u13 u14 u15 u16 u17 u18 : Option T), s = lZ zs S' u2 u3 u4 u5 u6 u7 u8 u9 u10 u11 u12 u13 u14 u15 u16 u17 u18 ∧ Sok S') ⟨S, _, _, _, _, _, _, _, _, _, _, _, _, _, _, _, _, _, rfl, hS⟩ (fun i x s hx ⟨S1, u2, u3, u4, u5, u6, u7, u8, u9, u10, u11, u12, u13, u14, u15, u16, u17, u18, es, hS1⟩ => ?_)) fun q h => h
  obtain ⟨hj, rfl⟩ := intR_in hx
  subst es
  refine R.W_of (a := lZ zs S1 (some (.val (.int (i : Nat)))) u3 u4 u5 u6 u7 u8 u9 u10 u11 u12 u13 u14 u15 u16 u17 u18) rfl ?_
  exact R.W_mono (lap_ok (v2 := none) hS1) fun q ⟨h1, h2⟩ => ⟨.inl h1, h2⟩
theorem t_w4 : D_wrong_item.run [.val (.tuple [.tuple [], .tuple [.tuple [.str "program", .str "p", .tuple [], .tuple [.tuple [.str "m", .bool true, .tuple []]]], .tuple [.str "pipe", .str "r", .tuple [.str "then", .str "p", .str "p"]], .tuple [.str "pipe", .str "t", .tuple [.str "and", .str "r", .str "r"]], .tuple [.str "pipe", .str "u", .tuple [.str "not", .str "v"]]]])] = .ok (.val (.tuple [.int 3, .tuple [.int 2, .int 1], .str "program"]), []) := by kernel_rfl
theorem t_w3 : D_wrong_item.run [.val (.tuple [.tuple [], .tuple [.tuple [.str "program", .str "p", .tuple [], .tuple [.tuple [.str "m", .bool true, .tuple []]]], .tuple [.str "pipe", .str "r", .tuple [.str "then", .str "p", .str "p"]], .tuple [.str "pipe", .str "t", .tuple [.str "and", .str "r", .str "r"]]]])] = .ok (.val .none, []) := by kernel_rfl
theorem t_r3 : D_programs_read.run [.val (.tuple [.tuple [], .tuple [.tuple [.str "program", .str "p", .tuple [], .tuple [.tuple [.str "m", .bool true, .tuple []]]], .tuple [.str "pipe", .str "r", .tuple [.str "then", .str "p", .str "p"]], .tuple [.str "pipe", .str "t", .tuple [.str "and", .str "r", .str "r"]]]]), .val (.str "t")] = .ok (.val (.int 4), []) := by kernel_rfl
theorem t_p3 : D_pieces_of.run [.val (.tuple [.tuple [], .tuple [.tuple [.str "program", .str "p", .tuple [], .tuple [.tuple [.str "m", .bool true, .tuple []]]], .tuple [.str "pipe", .str "r", .tuple [.str "then", .str "p", .str "p"]], .tuple [.str "pipe", .str "t", .tuple [.str "and", .str "r", .str "r"]]]]), .val (.str "t")] = .ok (.val (.tuple [.str "p", .str "r", .str "t"]), []) := by kernel_rfl
theorem t_ne : pNe (.tuple [.int 3, .tuple [.int 2, .int 1], .str "program"]) (.tuple [.int 3, .tuple [.int 2, .int 1], .str "program"]) = bl false := by kernel_rfl
theorem t_eq : pEq (.list [.none, .int 4, .tuple [.str "p", .str "r", .str "t"]]) (.list [.none, .int 4, .tuple [.str "p", .str "r", .str "t"]]) = bl true := by kernel_rfl
theorem t_ix : pIx (.tuple [.tuple [], .tuple [.tuple [.str "program", .str "p", .tuple [], .tuple [.tuple [.str "m", .bool true, .tuple []]]], .tuple [.str "pipe", .str "r", .tuple [.str "then", .str "p", .str "p"]], .tuple [.str "pipe", .str "t", .tuple [.str "and", .str "r", .str "r"]], .tuple [.str "pipe", .str "u", .tuple [.str "not", .str "v"]]]]) (.int 1) = .ok (.d (.tuple [.tuple [.str "program", .str "p", .tuple [], .tuple [.tuple [.str "m", .bool true, .tuple []]]], .tuple [.str "pipe", .str "r", .tuple [.str "then", .str "p", .str "p"]], .tuple [.str "pipe", .str "t", .tuple [.str "and", .str "r", .str "r"]], .tuple [.str "pipe", .str "u", .tuple [.str "not", .str "v"]]])) := by kernel_rfl
theorem t_sl {a b c d : D} : pSl none (some 3) (.tuple [a, b, c, d]) = .ok (.d (.tuple [a, b, c])) := by kernel_rfl
theorem tail_law {zs : List Int} (s : Sl) (h : ∃ (S : Src) (v2 v3 v4 v5 v6 v7 v8 v9 v10 v11 v12 v13 v14 v15 v16 v17 v18 : Option T), s = lZ zs S v2 v3 v4 v5 v6 v7 v8 v9 v10 v11 v12 v13 v14 v15 v16 v17 v18 ∧ Sok S) : (lTail s).W fun q => q.1 = .rt (.val (.bool true)) := by
  obtain ⟨S, v2, v3, v4, v5, v6, v7, v8, v9, v10, v11, v12, v13, v14, v15, v16, v17, v18, rfl, _⟩ := h
  simp only [lZ]
  simp only [run_mk, List.map_cons, List.map_nil, List.length_cons, List.length_nil, List.cons_append, List.nil_append, List.replicate_succ, List.replicate_zero, Nat.reduceAdd, Nat.reduceSub, List.getElem?_cons_zero, List.getElem?_cons_succ, List.set_cons_zero, List.set_cons_succ, R.bind_ok, sCons, sNil, sIf, sRet, retL, dropL, sSet, setL, sDrop, sUnp, sPar, lNil, lCons, kF, putL, gN, gT, gAll, kC, kX, kD, kG, kS, scl, k1, k2, L.get, L.take, T.toD, aNil, aCons, kTup, kLst, bVal, bAnd, bOr, bNot, kAnd, kOr, kNot, kIf, boolOf, kCall, cNil, cV, cMv, cPass, lend, back, resL, outs, endOf, srcAt, kSGet, kSLen, kInt, SF.get, SF.put, bl, nm, if_true, if_false, Bool.false_eq_true, Bool.not_true, Bool.not_false, lTail, szOk0, szOk1, szOk2, szOk3, szOk4, t_w4, t_ne, t_ix, kSl, partOf, t_sl, t_w3, t_r3, t_p3, t_eq, R.W_ok]
theorem plain (ns : List Int) (h : ns.length ≤ 63) : D_law.run [.scr ns] = .ok (.val (.bool true), []) := by
  obtain ⟨S, e, hS⟩ := source_ok ns h
  have i0 : (sSet 1 (kCall (D_u_law_source).run (cPass 0 cNil))) ([T.scr ns].map some ++ List.replicate (19 - [T.scr ns].length) none) = .ok (.nx, lZ ns S none none none none none none none none none none none none none none none none none) := by
    simp only [run_mk, List.map_cons, List.map_nil, List.length_cons, List.length_nil, List.cons_append, List.nil_append, List.replicate_succ, List.replicate_zero, Nat.reduceAdd, Nat.reduceSub, List.getElem?_cons_zero, List.getElem?_cons_succ, List.set_cons_zero, List.set_cons_succ, R.bind_ok, sCons, sNil, sIf, sRet, retL, dropL, sSet, setL, sDrop, sUnp, sPar, lNil, lCons, kF, putL, gN, gT, gAll, kC, kX, kD, kG, kS, scl, k1, k2, L.get, L.take, T.toD, aNil, aCons, kTup, kLst, bVal, bAnd, bOr, bNot, kAnd, kOr, kNot, kIf, boolOf, kCall, cNil, cV, cMv, cPass, lend, back, resL, outs, endOf, srcAt, kSGet, kSLen, kInt, SF.get, SF.put, bl, nm, if_true, if_false, Bool.false_eq_true, Bool.not_true, Bool.not_false, e, lZ]
  rw [law_eq]
  have key : ((sCons (sFor (iRg1 (kC (.int 4))) (gN 2) lLap) lTail) (lZ ns S none none none none none none none none none none none none none none none none none)).W fun q => q.1 = .rt (.val (.bool true)) := by
    refine sCons_W (P := fun s => ∃ (S' : Src) (u2 u3 u4 u5 u6 u7 u8 u9 u10 u11 u12 u13 u14 u15 u16 u17 u18 : Option T), s = lZ ns S' u2 u3 u4 u5 u6 u7 u8 u9 u10 u11 u12 u13 u14 u15 u16 u17 u18 ∧ Sok S') (laps_ok hS) ?_
    intro s hs
    exact tail_law s hs
  obtain ⟨⟨fl, s9⟩, z1, z2⟩ := R.W_get key
  simp only at z2
  subst z2
  refine run_rt (s1 := s9) ?_ rfl
  exact (sCons_nx i0).trans z1
end K06

open PySem PySem.W PyProof.Rows
set_option maxRecDepth 100000 in
set_option maxHeartbeats 0 in
theorem PySem.Challenge.cw_keptvalues_k06_pipes_and_promises_told_a_holds : PySem.Challenge.rw_keptvalues_k06_pipes_and_promises_told_a.Holds := by
  w_on; o_law; k_head; (case hw => w_witness2)
  k_fill
  refine KV.walkG (l := PySem.Challenge.rw_keptvalues_k06_pipes_and_promises_told_a) (dl := K06.D_law) (k := 7) (x := "script") rfl rfl ⟨rfl, by decide, by decide⟩ (fun w h Y => PySem.W.kIn_of Y) ?F K06.plain rfl
  case F =>
    intro w mg fa h KX G hmg
    refine' K06.law_ok ⟨PySem.W.mg_none_of KX G ?z_int, PySem.W.mg_none_of KX G ?z_abs, PySem.W.mg_none_of KX G ?z_len, PySem.W.mg_none_of KX G ?z_max, PySem.W.mg_none_of KX G ?z_dict, PySem.W.mg_none_of KX G ?z_enumerate, PySem.W.mg_none_of KX G ?z_range, PySem.W.mg_none_of KX G ?z_list, PySem.W.mg_none_of KX G ?z_sum, PySem.W.mg_none_of KX G ?z_tuple, PySem.W.mg_none_of KX G ?z_repr, KV.cint_of KX G ?y_MOST_TOLD, KV.ctup_of KX G ?y_ONE_PROGRAM ?l_ONE_PROGRAM ?c_ONE_PROGRAM ?d_ONE_PROGRAM ?e_ONE_PROGRAM ?f_ONE_PROGRAM ?v_ONE_PROGRAM, KV.ctup_of KX G ?y_OF_STREAMS ?l_OF_STREAMS ?c_OF_STREAMS ?d_OF_STREAMS ?e_OF_STREAMS ?f_OF_STREAMS ?v_OF_STREAMS⟩ hmg (K06.at_mk KX G ?a_u_law_source ?l_u_law_source ?c_u_law_source ?k_u_law_source fun _ _ _ _ _ _ us hl => match us, hl with | [_], _ => rfl) (K06.at_mk KX G ?a_u_law_pick ?l_u_law_pick ?c_u_law_pick ?k_u_law_pick fun _ _ _ _ _ _ us hl => match us, hl with | [_, _], _ => rfl) (K06.at_mk KX G ?a_u_law_of ?l_u_law_of ?c_u_law_of ?k_u_law_of fun _ _ _ _ _ _ us hl => match us, hl with | [_, _], _ => rfl) (K06.at_mk KX G ?a_told_items ?l_told_items ?c_told_items ?k_told_items fun _ _ _ _ _ _ us hl => match us, hl with | [_, _], _ => rfl) (K06.at_mk KX G ?a_names_told ?l_names_told ?c_names_told ?k_names_told fun _ _ _ _ _ _ us hl => match us, hl with | [_, _, _], _ => rfl) (K06.at_mk KX G ?a_twice_told ?l_twice_told ?c_twice_told ?k_twice_told fun _ _ _ _ _ _ us hl => match us, hl with | [_, _], _ => rfl) (K06.at_mk KX G ?a_first_twice ?l_first_twice ?c_first_twice ?k_first_twice fun _ _ _ _ _ _ us hl => match us, hl with | [_], _ => rfl) (K06.at_mk KX G ?a_conditions_in ?l_conditions_in ?c_conditions_in ?k_conditions_in fun _ _ _ _ _ _ us hl => match us, hl with | [_, _], _ => rfl) (K06.at_mk KX G ?a_is_unknown ?l_is_unknown ?c_is_unknown ?k_is_unknown fun _ _ _ _ _ _ us hl => match us, hl with | [_, _, _], _ => rfl) (K06.at_mk KX G ?a_names_said ?l_names_said ?c_names_said ?k_names_said fun _ _ _ _ _ _ us hl => match us, hl with | [_, _], _ => rfl) (K06.at_mk KX G ?a_set_by ?l_set_by ?c_set_by ?k_set_by fun _ _ _ _ _ _ us hl => match us, hl with | [_], _ => rfl) (K06.at_mk KX G ?a_act_clashes ?l_act_clashes ?c_act_clashes ?k_act_clashes fun _ _ _ _ _ _ us hl => match us, hl with | [_, _], _ => rfl) (K06.at_mk KX G ?a_wrong_rule ?l_wrong_rule ?c_wrong_rule ?k_wrong_rule fun _ _ _ _ _ _ us hl => match us, hl with | [_, _, _], _ => rfl) (K06.at_mk KX G ?a_wrong_use ?l_wrong_use ?c_wrong_use ?k_wrong_use fun _ _ _ _ _ _ us hl => match us, hl with | [_, _], _ => rfl) (K06.at_mk KX G ?a_programs_said ?l_programs_said ?c_programs_said ?k_programs_said fun _ _ _ _ _ _ us hl => match us, hl with | [_], _ => rfl) (K06.at_mk KX G ?a_item_fault ?l_item_fault ?c_item_fault ?k_item_fault fun _ _ _ _ _ _ us hl => match us, hl with | [_, _], _ => rfl) (K06.at_mk KX G ?a_wrong_item ?l_wrong_item ?c_wrong_item ?k_wrong_item fun _ _ _ _ _ _ us hl => match us, hl with | [_], _ => rfl) (K06.at_mk KX G ?a_u_law_right_form ?l_u_law_right_form ?c_u_law_right_form ?k_u_law_right_form fun _ _ _ _ _ _ us hl => match us, hl with | [_], _ => rfl) (K06.at_mk KX G ?a_u_law_mixed ?l_u_law_mixed ?c_u_law_mixed ?k_u_law_mixed fun _ _ _ _ _ _ us hl => match us, hl with | [_, _], _ => rfl) (K06.at_mk KX G ?a_u_law_parts ?l_u_law_parts ?c_u_law_parts ?k_u_law_parts fun _ _ _ _ _ _ us hl => match us, hl with | [_], _ => rfl) (K06.at_mk KX G ?a_u_law_pieces ?l_u_law_pieces ?c_u_law_pieces ?k_u_law_pieces fun _ _ _ _ _ _ us hl => match us, hl with | [_, _], _ => rfl) (K06.at_mk KX G ?a_pieces_of ?l_pieces_of ?c_pieces_of ?k_pieces_of fun _ _ _ _ _ _ us hl => match us, hl with | [_, _], _ => rfl) (K06.at_mk KX G ?a_programs_read ?l_programs_read ?c_programs_read ?k_programs_read fun _ _ _ _ _ _ us hl => match us, hl with | [_, _], _ => rfl) (K06.at_mk KX G ?a_u_law_program ?l_u_law_program ?c_u_law_program ?k_u_law_program fun _ _ _ _ _ _ us hl => match us, hl with | [_, _], _ => rfl) (K06.at_mk KX G ?a_u_law_item ?l_u_law_item ?c_u_law_item ?k_u_law_item fun _ _ _ _ _ _ us hl => match us, hl with | [_, _], _ => rfl) (K06.at_mk KX G ?a_u_law_fault ?l_u_law_fault ?c_u_law_fault ?k_u_law_fault fun _ _ _ _ _ _ us hl => match us, hl with | [_, _], _ => rfl) (K06.at_mk KX G ?a_u_law_put ?l_u_law_put ?c_u_law_put ?k_u_law_put fun _ _ _ _ _ _ us hl => match us, hl with | [_, _], _ => rfl) (K06.at_mk KX G ?a_u_law_first_wrong ?l_u_law_first_wrong ?c_u_law_first_wrong ?k_u_law_first_wrong fun _ _ _ _ _ _ us hl => match us, hl with | [_], _ => rfl) (K06.at_mk KX G ?a_law ?l_law ?c_law ?k_law fun _ _ _ _ _ _ us hl => match us, hl with | [_], _ => rfl)
    (case z_int => k_is)
    (case z_abs => k_is)
    (case z_len => k_is)
    (case z_max => k_is)
    (case z_dict => k_is)
    (case z_enumerate => k_is)
    (case z_range => k_is)
    (case z_list => k_is)
    (case z_sum => k_is)
    (case z_tuple => k_is)
    (case z_repr => k_is)
    (case y_MOST_TOLD => k_is)
    (case y_ONE_PROGRAM => k_is); (case l_ONE_PROGRAM => k_is); (case c_ONE_PROGRAM => rfl); (case d_ONE_PROGRAM => rfl); (case e_ONE_PROGRAM => rfl); (case f_ONE_PROGRAM => exact Nat.le_of_ble_eq_true rfl); (case v_ONE_PROGRAM => repeat (first | exact .nil | refine .cons ⟨_, rfl⟩ ?_))
    (case y_OF_STREAMS => k_is); (case l_OF_STREAMS => k_is); (case c_OF_STREAMS => rfl); (case d_OF_STREAMS => rfl); (case e_OF_STREAMS => rfl); (case f_OF_STREAMS => exact Nat.le_of_ble_eq_true rfl); (case v_OF_STREAMS => repeat (first | exact .nil | refine .cons ⟨_, rfl⟩ ?_))
    (case a_u_law_source => k_is); (case l_u_law_source => k_is); (case c_u_law_source => k_is); (case k_u_law_source => k_is)
    (case a_u_law_pick => k_is); (case l_u_law_pick => k_is); (case c_u_law_pick => k_is); (case k_u_law_pick => k_is)
    (case a_u_law_of => k_is); (case l_u_law_of => k_is); (case c_u_law_of => k_is); (case k_u_law_of => k_is)
    (case a_told_items => k_is); (case l_told_items => k_is); (case c_told_items => k_is); (case k_told_items => k_is)
    (case a_names_told => k_is); (case l_names_told => k_is); (case c_names_told => k_is); (case k_names_told => k_is)
    (case a_twice_told => k_is); (case l_twice_told => k_is); (case c_twice_told => k_is); (case k_twice_told => k_is)
    (case a_first_twice => k_is); (case l_first_twice => k_is); (case c_first_twice => k_is); (case k_first_twice => k_is)
    (case a_conditions_in => k_is); (case l_conditions_in => k_is); (case c_conditions_in => k_is); (case k_conditions_in => k_is)
    (case a_is_unknown => k_is); (case l_is_unknown => k_is); (case c_is_unknown => k_is); (case k_is_unknown => k_is)
    (case a_names_said => k_is); (case l_names_said => k_is); (case c_names_said => k_is); (case k_names_said => k_is)
    (case a_set_by => k_is); (case l_set_by => k_is); (case c_set_by => k_is); (case k_set_by => k_is)
    (case a_act_clashes => k_is); (case l_act_clashes => k_is); (case c_act_clashes => k_is); (case k_act_clashes => k_is)
    (case a_wrong_rule => k_is); (case l_wrong_rule => k_is); (case c_wrong_rule => k_is); (case k_wrong_rule => k_is)
    (case a_wrong_use => k_is); (case l_wrong_use => k_is); (case c_wrong_use => k_is); (case k_wrong_use => k_is)
    (case a_programs_said => k_is); (case l_programs_said => k_is); (case c_programs_said => k_is); (case k_programs_said => k_is)
    (case a_item_fault => k_is); (case l_item_fault => k_is); (case c_item_fault => k_is); (case k_item_fault => k_is)
    (case a_wrong_item => k_is); (case l_wrong_item => k_is); (case c_wrong_item => k_is); (case k_wrong_item => k_is)
    (case a_u_law_right_form => k_is); (case l_u_law_right_form => k_is); (case c_u_law_right_form => k_is); (case k_u_law_right_form => k_is)
    (case a_u_law_mixed => k_is); (case l_u_law_mixed => k_is); (case c_u_law_mixed => k_is); (case k_u_law_mixed => k_is)
    (case a_u_law_parts => k_is); (case l_u_law_parts => k_is); (case c_u_law_parts => k_is); (case k_u_law_parts => k_is)
    (case a_u_law_pieces => k_is); (case l_u_law_pieces => k_is); (case c_u_law_pieces => k_is); (case k_u_law_pieces => k_is)
    (case a_pieces_of => k_is); (case l_pieces_of => k_is); (case c_pieces_of => k_is); (case k_pieces_of => k_is)
    (case a_programs_read => k_is); (case l_programs_read => k_is); (case c_programs_read => k_is); (case k_programs_read => k_is)
    (case a_u_law_program => k_is); (case l_u_law_program => k_is); (case c_u_law_program => k_is); (case k_u_law_program => k_is)
    (case a_u_law_item => k_is); (case l_u_law_item => k_is); (case c_u_law_item => k_is); (case k_u_law_item => k_is)
    (case a_u_law_fault => k_is); (case l_u_law_fault => k_is); (case c_u_law_fault => k_is); (case k_u_law_fault => k_is)
    (case a_u_law_put => k_is); (case l_u_law_put => k_is); (case c_u_law_put => k_is); (case k_u_law_put => k_is)
    (case a_u_law_first_wrong => k_is); (case l_u_law_first_wrong => k_is); (case c_u_law_first_wrong => k_is); (case k_u_law_first_wrong => k_is)
    (case a_law => k_is); (case l_law => k_is); (case c_law => k_is); (case k_law => k_is)

