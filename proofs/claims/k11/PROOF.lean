import PyProof.Rows.All
import HandS.ForMost
import HandS.Walk
import HandS.Deep
import HandS.TupAny
import HandS.Strs
import HandS.Style
import HandS.Zip
import HandS.IsInst
import HandS.Wide
import HandS.Conv
import HandS.More
import HandS.RaiseMore
import HandS.TupMul
import KE.KStar
import HandS.Nested
import KE.GoesEnum
import HandS.Ends
import HandS.Words
import HandS.HeadEnd
import HandS.LawCells
import HandS.TryOnly
import KE.KDictZip
import KE.KDictPairs
import KE.KDictSum
import PyProof.Rows.SortShellK
import PyProof.Rows.SortStr
import HandS.ExcValue
import PyProof.DictUpdate
import PyProof.Rows.SortShellAny
import HandS.EndTab
import PySem.Challenge.RW_keptvalues_k11_modes_as_they_are_come_to
set_option Elab.async false
set_option linter.all false
set_option maxRecDepth 100000
/-! KVA: denotations. A def of the program becomes a plain function on slots that hold data. -/
namespace KV
open PySem L2

abbrev D := PyData

/-- what a denotation gives: a value, an exception, or no word about it -/
inductive R (α : Type) where
  | ok (a : α)
  | ex (c : Str) (ds : List PyData)
  | no
namespace R
variable {α β γ : Type}
def bind : R α → (α → R β) → R β
  | .ok a, f => f a
  | .ex c ds, _ => .ex c ds
  | .no, _ => .no
/-- it gives a value, and Q holds of it -/
def W : R α → (α → Prop) → Prop
  | .ok a, Q => Q a
  | .ex _ _, _ => False
  | .no, _ => False
@[simp] theorem bind_ok (a : α) (f : α → R β) : (R.ok a).bind f = f a := rfl
@[simp] theorem bind_no (f : α → R β) : (R.no : R α).bind f = .no := rfl
@[simp] theorem bind_ex (c : Str) (ds : List PyData) (f : α → R β) : (R.ex c ds : R α).bind f = .ex c ds := rfl
@[simp] theorem W_ok (a : α) (Q : α → Prop) : (R.ok a).W Q = Q a := rfl
@[simp] theorem W_no (Q : α → Prop) : (R.no : R α).W Q = False := rfl
@[simp] theorem W_ex (c : Str) (ds : List PyData) (Q : α → Prop) : (R.ex c ds : R α).W Q = False := rfl
theorem W_bind (r : R α) (f : α → R β) (Q : β → Prop) : (r.bind f).W Q = r.W (fun a => (f a).W Q) := by
  cases r <;> rfl
theorem bind_assoc (r : R α) (f : α → R β) (g : β → R γ) : (r.bind f).bind g = r.bind (fun a => (f a).bind g) := by
  cases r <;> rfl
theorem W_mono {r : R α} {Q Q' : α → Prop} (h : r.W Q) (hq : ∀ a, Q a → Q' a) : r.W Q' := by
  cases r with
  | ok a => exact hq a h
  | ex c ds => exact h
  | no => exact h
theorem W_iff {r : R α} {Q : α → Prop} : r.W Q ↔ ∃ a, r = .ok a ∧ Q a := by
  cases r with
  | ok a => exact ⟨fun h => ⟨a, rfl, h⟩, fun ⟨b, e, h⟩ => by cases e; exact h⟩
  | ex c ds => exact ⟨fun h => h.elim, fun ⟨b, e, h⟩ => nomatch e⟩
  | no => exact ⟨fun h => h.elim, fun ⟨b, e, h⟩ => nomatch e⟩
theorem bind_eq_ok {r : R α} {f : α → R β} {b : β} : r.bind f = .ok b ↔ ∃ a, r = .ok a ∧ f a = .ok b := by
  cases r with
  | ok a => exact ⟨fun h => ⟨a, rfl, h⟩, fun ⟨_, e, h⟩ => by cases e; exact h⟩
  | ex c ds => exact ⟨(fun h => nomatch h), (fun ⟨_, e, _⟩ => nomatch e)⟩
  | no => exact ⟨(fun h => nomatch h), (fun ⟨_, e, _⟩ => nomatch e)⟩
@[simp] theorem bind_ite (c : Prop) [Decidable c] (a b : R α) (f : α → R β) : (if c then a else b).bind f = if c then a.bind f else b.bind f := by
  split <;> rfl
@[simp] theorem W_ite (c : Prop) [Decidable c] (a b : R α) (Q : α → Prop) : (if c then a else b).W Q = if c then a.W Q else b.W Q := by
  split <;> rfl
end R

/-- the law's source of numbers -/
structure Src where
  cells : List Int
  left : Int
  mixed : Int
  turn : Int

/-- three dicts of one's own under three names -/
structure Tab where
  x : Str
  y : Str
  z : Str
  p : List (D × D)
  q : List (D × D)
  r : List (D × D)
/-- what a slot holds: a value that may be shared; a list, a dict of one's own; the source; a function -/
inductive T where
  | val (d : D)
  | lst (xs : List D)
  | dct (kvs : List (D × D))
  | src (s : Src)
  | scr (ns : List Int)
  | clo (n : Nat) (f : List D → R D)
  | tab (t : Tab)
  | tbs
abbrev Sl := List (Option T)
/-- a value on the way: data; what a slot owns; something new -/
inductive L where
  | d (x : D)
  | o (i : Nat)
  | t (x : T)
def T.toD : T → R D
  | .val d => .ok d
  | .lst xs => .ok (.list xs)
  | .dct kvs => .ok (.dict kvs)
  | _ => .no
/-- read -/
def L.get : L → Sl → R D
  | .d x, _ => .ok x
  | .o i, s => (match s[i]? with
    | some (some u) => u.toD
    | _ => .no)
  | .t x, _ => x.toD
/-- read for good: what was owned is shared from now on -/
def L.take : L → Sl → R (D × Sl)
  | .d x, s => .ok (x, s)
  | .o i, s => (match s[i]? with
    | some (some u) => u.toD.bind fun d => .ok (d, s.set i (some (.val d)))
    | _ => .no)
  | .t x, s => x.toD.bind fun d => .ok (d, s)
abbrev EV := Sl → R (L × Sl)
abbrev DV := Sl → R (D × Sl)
abbrev AV := Sl → R (List D × Sl)
abbrev BV := Sl → R (Bool × Sl)
inductive Fl where
  | nx | bk | ct
  | rt (t : T)
abbrev SV := Sl → R (Fl × Sl)
abbrev GV := D → Sl → R Sl

/-! ### expressions -/
def kC (d : D) : EV := fun s => .ok (.d d, s)
def kX (i : Nat) : EV := fun s => match s[i]? with
  | some (some (.val d)) => .ok (.d d, s)
  | some (some (.lst _)) => .ok (.o i, s)
  | some (some (.dct _)) => .ok (.o i, s)
  | _ => .no
/-- an expression's value, for good -/
def kD (f : EV) : DV := fun s => (f s).bind fun r => r.1.take r.2
/-- .., read now -/
def kG (f : EV) : DV := fun s => (f s).bind fun r => (r.1.get r.2).bind fun d => .ok (d, r.2)
def k1 (p : D → R L) (f : EV) : EV := fun s => (f s).bind fun r => (r.1.get r.2).bind fun d => (p d).bind fun l => .ok (l, r.2)
def k2 (p : D → D → R L) (f g : EV) : EV := fun s => (f s).bind fun r => (g r.2).bind fun q =>
  (r.1.get q.2).bind fun d => (q.1.get q.2).bind fun e => (p d e).bind fun l => .ok (l, q.2)
def aNil : AV := fun s => .ok ([], s)
def aCons (f : EV) (g : AV) : AV := fun s => (kD f s).bind fun r => (g r.2).bind fun q => .ok (r.1 :: q.1, q.2)
def seqOf : D → R (List D)
  | .list xs => .ok xs
  | .tuple xs => .ok xs
  | _ => .no
def aStar (f : EV) (g : AV) : AV := fun s => (kG f s).bind fun r => (seqOf r.1).bind fun xs => (g r.2).bind fun q => .ok (xs ++ q.1, q.2)
def szOk (n : Nat) : Bool := decide (n ≤ 16000000)
def kTup (g : AV) : EV := fun s => (g s).bind fun r => if szOk r.1.length then .ok (.d (.tuple r.1), r.2) else .no
def kLst (g : AV) : EV := fun s => (g s).bind fun r => if szOk r.1.length then .ok (.t (.lst r.1), r.2) else .no
def boolOf : D → R Bool
  | .bool b => .ok b
  | _ => .no
def kAnd (f g : EV) : EV := fun s => (kG f s).bind fun r => (boolOf r.1).bind fun b => if b then g r.2 else .ok (.d (.bool false), r.2)
def kOr (f g : EV) : EV := fun s => (kG f s).bind fun r => (boolOf r.1).bind fun b => if b then .ok (.d (.bool true), r.2) else g r.2
def kNot (f : EV) : EV := fun s => (kG f s).bind fun r => (boolOf r.1).bind fun b => .ok (.d (.bool !b), r.2)
def bVal (f : EV) : BV := fun s => (kG f s).bind fun r => (boolOf r.1).bind fun b => .ok (b, r.2)
def bAnd (f g : BV) : BV := fun s => (f s).bind fun r => if r.1 then g r.2 else .ok (false, r.2)
def bOr (f g : BV) : BV := fun s => (f s).bind fun r => if r.1 then .ok (true, r.2) else g r.2
def bNot (f : BV) : BV := fun s => (f s).bind fun r => .ok (!r.1, r.2)
def kIf (c : BV) (f g : EV) : EV := fun s => (c s).bind fun r => if r.1 then f r.2 else g r.2
/-- a number, a text -/
def scl : D → Bool
  | .int _ => true
  | .str _ => true
  | _ => false
def kS (f : EV) : DV := fun s => (kG f s).bind fun r => if scl r.1 then .ok r else .no
/-- a < b < c -/
def kChn (p q : D → D → R L) (f g h : EV) : EV := fun s => (kS f s).bind fun r => (kS g r.2).bind fun t => (p r.1 t.1).bind fun l => match l with
  | .d (.bool true) => (kS h t.2).bind fun u => (q t.1 u.1).bind fun m => .ok (m, u.2)
  | .d (.bool false) => .ok (.d (.bool false), t.2)
  | _ => .no

/-! ### what Python does on data -/
def bl (b : Bool) : R L := .ok (.d (.bool b))
def nm (i : Int) : R L := .ok (.d (.int i))
def pAdd : D → D → R L
  | .int a, .int b => nm (a + b)
  | .str a, .str b => if szOk (a.length + b.length) then .ok (.d (.str (a ++ b))) else .no
  | .tuple a, .tuple b => if szOk (a.length + b.length) then .ok (.d (.tuple (a ++ b))) else .no
  | .list a, .list b => if szOk (a.length + b.length) then .ok (.t (.lst (a ++ b))) else .no
  | _, _ => .no
def pSub : D → D → R L
  | .int a, .int b => nm (a - b)
  | _, _ => .no
def pMul : D → D → R L
  | .int a, .int b => if (-(2 ^ 64) < a ∧ a < 2 ^ 64) ∨ (-(2 ^ 64) < b ∧ b < 2 ^ 64) then nm (a * b) else .no
  | .tuple a, .int b => if 0 ≤ b ∧ b ≤ 1000 ∧ a.length ≤ 1000 then .ok (.d (.tuple (List.replicate b.toNat a).flatten)) else .no
  | .list a, .int b => if 0 ≤ b ∧ b ≤ 1000 ∧ a.length ≤ 1000 then .ok (.t (.lst (List.replicate b.toNat a).flatten)) else .no
  | _, _ => .no
def pMod : D → D → R L
  | .int a, .int b => if 0 < b then nm (a % b) else .no
  | _, _ => .no
def pDiv : D → D → R L
  | .int a, .int b => if 0 < b ∧ b < 1000000000 then nm (a / b) else .no
  | _, _ => .no
def pNeg : D → R L
  | .int a => nm (-a)
  | _ => .no
def eqOk (d : D) : Bool := SeqAt.shaped d
def pEq (d e : D) : R L := if eqOk d && eqOk e then bl (PyData.eqv d e) else .no
def pNe (d e : D) : R L := if eqOk d && eqOk e then bl (!PyData.eqv d e) else .no
def pLt : D → D → R L
  | .int a, .int b => bl (decide (a < b))
  | .str a, .str b => bl (decide (a.cps.toList < b.cps.toList))
  | _, _ => .no
def pLe : D → D → R L
  | .int a, .int b => bl (decide (a ≤ b))
  | .str a, .str b => bl (!decide (b.cps.toList < a.cps.toList))
  | _, _ => .no
def pGt : D → D → R L
  | .int a, .int b => bl (decide (b < a))
  | .str a, .str b => bl (decide (b.cps.toList < a.cps.toList))
  | _, _ => .no
def pGe : D → D → R L
  | .int a, .int b => bl (decide (b ≤ a))
  | .str a, .str b => bl (!decide (a.cps.toList < b.cps.toList))
  | _, _ => .no
def isNone : D → Bool
  | .none => true
  | _ => false
def pIsN (d : D) : R L := bl (isNone d)
def pNotN (d : D) : R L := bl (!isNone d)
/-- x is True (of a bool) -/
def pIsB (c : Bool) : D → R L
  | .bool b => bl (decide (b = c))
  | _ => .no
def pNotB (c : Bool) : D → R L
  | .bool b => bl (!decide (b = c))
  | _ => .no
def keyOf : D → Option Key
  | .int i => some (.inl i)
  | .str x => some (.inr x)
  | _ => none
def inB (d : D) (ds : List D) : Bool := ds.any fun z => PyData.eqv z d
def hasB (kvs : List (D × D)) (k : D) : Bool := kvs.any fun p => PyData.eqv p.1 k
def pIn : D → D → R L
  | d, .list ds => if eqOk d && eqOk (.list ds) then bl (inB d ds) else .no
  | d, .tuple ds => if eqOk d && eqOk (.tuple ds) then bl (inB d ds) else .no
  | d, .dict kvs => if (keyOf d).isSome then bl (hasB kvs d) else .no
  | .str a, .str b => bl (!(Builtin.Str.occurrences b a 0 b.length 1).isEmpty)
  | _, _ => .no
def pNotIn (d e : D) : R L := (pIn d e).bind fun l => match l with
  | .d (.bool b) => bl (!b)
  | _ => .no
/-- the place that an index tells -/
def ixD (n : Nat) (i : Int) : Option Nat := ixN n i
def lookD (kvs : List (D × D)) (k : D) : Option D := (kvs.find? fun p => PyData.eqv p.1 k).map (·.2)
def optD : Option D → R L
  | some d => .ok (.d d)
  | none => .no
def pIx : D → D → R L
  | .list xs, .int i => optD ((ixD xs.length i).bind fun j => xs[j]?)
  | .tuple xs, .int i => optD ((ixD xs.length i).bind fun j => xs[j]?)
  | .dict kvs, k => if (keyOf k).isSome then optD (lookD kvs k) else .no
  | _, _ => .no
def loOf (n : Nat) : Option Int → Nat
  | none => 0
  | some i => HT.sIx n 0 (some i)
def cutD (xs : List D) (lo hi : Option Int) : List D := (xs.drop (HT.sIx xs.length 0 lo)).take (HT.sIx xs.length xs.length hi - HT.sIx xs.length 0 lo)
def pSl (lo hi : Option Int) : D → R L
  | .list xs => .ok (.t (.lst (cutD xs lo hi)))
  | .tuple xs => .ok (.d (.tuple (cutD xs lo hi)))
  | _ => .no
def pRev : D → R L
  | .list xs => .ok (.t (.lst xs.reverse))
  | _ => .no
def pLen : D → R L
  | .list xs => nm xs.length
  | .tuple xs => nm xs.length
  | .dict kvs => nm kvs.length
  | .str x => if szOk x.length then nm x.length else .no
  | _ => .no
def pInt : D → R L
  | .int i => nm i
  | .bool b => nm (if b then 1 else 0)
  | _ => .no
def pAbs : D → R L
  | .int i => nm (if i < 0 then -i else i)
  | _ => .no
def pMax2 : D → D → R L
  | .int i, .int j => nm (if j > i then j else i)
  | _, _ => .no
def pMin2 : D → D → R L
  | .int i, .int j => nm (if j < i then j else i)
  | _, _ => .no
def pTuple : D → R L
  | .list xs => .ok (.d (.tuple xs))
  | .tuple xs => .ok (.d (.tuple xs))
  | _ => .no
def pList : D → R L
  | .list xs => .ok (.t (.lst xs))
  | .tuple xs => .ok (.t (.lst xs))
  | .dict kvs => .ok (.t (.lst (kvs.map (·.1))))
  | _ => .no
def showOk (d : D) : Bool := d.showable && decide (d.depth ≤ 64) && !d.hasDict && decide (d.shown.length ≤ sizeLine)
def pRepr (d : D) : R L := if showOk d then .ok (.d (.str d.shown)) else .no
def pStr : D → R L
  | .int i => if i.natAbs.log2 < 1920 then .ok (.d (.str (toString i))) else .no
  | .str x => .ok (.d (.str x))
  | _ => .no
def intsOf : List D → Option (List Int)
  | [] => some []
  | .int i :: r => (intsOf r).map (i :: ·)
  | _ :: _ => none
def boolsOf : List D → Option (List Bool)
  | [] => some []
  | .bool b :: r => (boolsOf r).map (b :: ·)
  | _ :: _ => none
def pSum : D → R L
  | .list xs => match intsOf xs with
    | some ns => nm ns.sum
    | none => .no
  | _ => .no
def pAll : D → R L
  | .list xs => match boolsOf xs with
    | some bs => bl (bs.all id)
    | none => .no
  | _ => .no
def tyOf : D → String
  | .none => "NoneType"
  | .bool _ => "bool"
  | .int _ => "int"
  | .str _ => "str"
  | .list _ => "list"
  | .tuple _ => "tuple"
  | .dict _ => "dict"
def pIsI (ty : String) (d : D) : R L := match d with
  | .dict _ => .no
  | _ => bl (tyOf d == ty || (ty == "int" && tyOf d == "bool"))
def firstAt (d : D) : List D → Option Nat
  | [] => none
  | z :: r => if PyData.eqv z d then some 0 else (firstAt d r).map (· + 1)
def pIndex : D → D → R L
  | .list ds, d => if eqOk d && eqOk (.list ds) then (match firstAt d ds with | some j => nm j | none => .no) else .no
  | .tuple ds, d => if eqOk d && eqOk (.tuple ds) then (match firstAt d ds with | some j => nm j | none => .no) else .no
  | _, _ => .no
/-- a key stored: its value changed where it stands, else put behind -/
def putD (kvs : List (D × D)) (k v : D) : List (D × D) :=
  if hasB kvs k then kvs.map fun p => if PyData.eqv p.1 k then (p.1, v) else p else kvs ++ [(k, v)]
def pairsOf : List D → Option (List (D × D))
  | [] => some []
  | .tuple [k, v] :: r => if (keyOf k).isSome then (pairsOf r).map ((k, v) :: ·) else none
  | _ :: _ => none
def mergeD (kvs : List (D × D)) : List (D × D) → List (D × D)
  | [] => kvs
  | (k, v) :: r => mergeD (putD kvs k v) r
/-- dict(list of pairs) -/
def pDict : D → R L
  | .list ds => match pairsOf ds with
    | some ps => .ok (.t (.dct (mergeD [] ps)))
    | none => .no
  | _ => .no
def pGet1 : D → D → R L
  | .dict kvs, k => if (keyOf k).isSome then .ok (.d ((lookD kvs k).getD .none)) else .no
  | _, _ => .no

/-- of one kind of sequence -/
def likeSeq : D → D → Bool
  | .list _, .list _ => true
  | .tuple _, .tuple _ => true
  | _, _ => false
/-- a.index(b) -/
def kIndex (f g : EV) : EV := fun s => (f s).bind fun r => (r.1.get r.2).bind fun d0 => (g r.2).bind fun q =>
  (r.1.get q.2).bind fun d => (q.1.get q.2).bind fun e => if likeSeq d0 d then (pIndex d e).bind fun l => .ok (l, q.2) else .no
def partOf : Option EV → Sl → R (Option Int × Sl)
  | none, s => .ok (none, s)
  | some f, s => (kG f s).bind fun r => match r.1 with
    | .int i => .ok (some i, r.2)
    | _ => .no
/-- a[lo:hi] -/
def kSl (f : EV) (lo hi : Option EV) : EV := fun s => (f s).bind fun r => (partOf lo r.2).bind fun a => (partOf hi a.2).bind fun b => (r.1.get b.2).bind fun d => (pSl a.1 b.1 d).bind fun l => .ok (l, b.2)
def isDct : D → Bool
  | .dict _ => true
  | _ => false
/-- d.get(k), d.get(k, x) -/
def kGet1 (f g : EV) : EV := fun s => (f s).bind fun r => (r.1.get r.2).bind fun d0 => if isDct d0 then (kS g r.2).bind fun q =>
  (r.1.get q.2).bind fun d => (match d with | .dict kvs => .ok (.d ((lookD kvs q.1).getD .none), q.2) | _ => .no) else .no
def kGet2 (f g h : EV) : EV := fun s => (f s).bind fun r => (r.1.get r.2).bind fun d0 => if isDct d0 then (kS g r.2).bind fun q => (kD h q.2).bind fun t =>
  (r.1.get t.2).bind fun d => (match d with | .dict kvs => .ok (.d ((lookD kvs q.1).getD t.1), t.2) | _ => .no) else .no

/-! ### calls -/
/-- a def: so many names, the places of the parameters that it changes, its body -/
structure Def where
  n : Nat
  io : List Nat
  body : SV
def outs (io : List Nat) (s : Sl) : R (List T) := match io with
  | [] => .ok []
  | i :: r => match s[i]? with
    | some (some t) => (outs r s).bind fun ts => .ok (t :: ts)
    | _ => .no
def endOf : Fl → R T
  | .nx => .ok (.val .none)
  | .rt t => .ok t
  | _ => .no
def Def.run (d : Def) (ts : List T) : R (T × List T) :=
  (d.body (ts.map some ++ List.replicate (d.n - ts.length) none)).bind fun r => (endOf r.1).bind fun t => (outs d.io r.2).bind fun os => .ok (t, os)
/-- an argument: a value; what a slot owns, to be changed; a function that a slot holds -/
inductive AR where
  | v (d : D)
  | io (i : Nat)
  | f (t : T)
abbrev CV := Sl → R (List AR × Sl)
def cNil : CV := fun s => .ok ([], s)
def cV (f : EV) (g : CV) : CV := fun s => (kD f s).bind fun r => (g r.2).bind fun q => .ok (.v r.1 :: q.1, q.2)
def cIo (i : Nat) (g : CV) : CV := fun s => (g s).bind fun q => .ok (.io i :: q.1, q.2)
/-- the arguments as the def gets them; the slots that are lent are empty meanwhile -/
def lend : List AR → Sl → R (List T × Sl)
  | [], s => .ok ([], s)
  | .v d :: r, s => (lend r s).bind fun q => .ok (.val d :: q.1, q.2)
  | .f t :: r, s => (lend r s).bind fun q => .ok (t :: q.1, q.2)
  | .io i :: r, s => match s[i]? with
    | some (some (.val _)) => .no
    | some (some t) => (lend r (s.set i none)).bind fun q => .ok (t :: q.1, q.2)
    | _ => .no
def back : List AR → List T → Sl → R Sl
  | [], [], s => .ok s
  | .io i :: r, t :: ts, s => back r ts (s.set i (some t))
  | .v _ :: r, ts, s => back r ts s
  | .f _ :: r, ts, s => back r ts s
  | _, _, _ => .no
def resL : T → L
  | .val d => .d d
  | t => .t t
def kCall (run : List T → R (T × List T)) (g : CV) : EV := fun s => (g s).bind fun q => (lend q.1 q.2).bind fun a => (run a.1).bind fun r =>
  (back q.1 r.2 a.2).bind fun s' => .ok (resL r.1, s')

/-! ### targets -/
def gN (i : Nat) : GV := fun d s => .ok (s.set i (some (.val d)))
def gAll : List GV → List D → Sl → R Sl
  | [], [], s => .ok s
  | g :: gs, d :: ds, s => (g d s).bind fun s' => gAll gs ds s'
  | _, _, _ => .no
def gT (gs : List GV) : GV := fun d s => match d with
  | .tuple ds => gAll gs ds s
  | _ => .no

/-! ### what is walked -/
abbrev IV := Sl → R (List D × Sl)
def iSeq (f : EV) : IV := fun s => (kD f s).bind fun r => (seqOf r.1).bind fun xs => .ok (xs, r.2)
def intR (lo : Int) (n : Nat) : List D := (List.range n).map fun i => .int (lo + (i : Nat))
def iRg1 (f : EV) : IV := fun s => (kD f s).bind fun r => match r.1 with
  | .int n => if n ≤ 16000000 ∧ -16000000 ≤ n then .ok (intR 0 n.toNat, r.2) else .no
  | _ => .no
def iRg2 (f g : EV) : IV := fun s => (kD f s).bind fun r => (kD g r.2).bind fun q => match r.1, q.1 with
  | .int a, .int b => if (-16000000 ≤ a ∧ a ≤ 16000000) ∧ (-16000000 ≤ b ∧ b ≤ 16000000) then .ok (intR a (b - a).toNat, q.2) else .no
  | _, _ => .no
def enumD (k : Nat) : List D → List D
  | [] => []
  | x :: r => .tuple [.int (k : Nat), x] :: enumD (k + 1) r
def iEnum (f : EV) : IV := fun s => (iSeq f s).bind fun r => .ok (enumD 0 r.1, r.2)
def zipD : List D → List D → List D
  | x :: r, y :: q => .tuple [x, y] :: zipD r q
  | _, _ => []
def iZip (f g : EV) : IV := fun s => (kD f s).bind fun r => (kD g r.2).bind fun q => match r.1, q.1 with
  | .list xs, .list ys => .ok (zipD xs ys, q.2)
  | .tuple xs, .tuple ys => .ok (zipD xs ys, q.2)
  | _, _ => .no

/-! ### statements -/
def sNil : SV := fun s => .ok (.nx, s)
def sCons (f g : SV) : SV := fun s => (f s).bind fun r => match r.1 with
  | .nx => g r.2
  | fl => .ok (fl, r.2)
/-- a value comes into a slot -/
def setL (i : Nat) : L → Sl → R Sl
  | .d x, s => .ok (s.set i (some (.val x)))
  | .t x, s => .ok (s.set i (some x))
  | .o j, s => match s[j]? with
    | some (some t) => .ok ((s.set j none).set i (some t))
    | _ => .no
def sSet (i : Nat) (f : EV) : SV := fun s => (f s).bind fun r => (setL i r.1 r.2).bind fun s' => .ok (.nx, s')
/-- a, b, .. = e -/
def sUnp (g : GV) (f : EV) : SV := fun s => (kD f s).bind fun r => (g r.1 r.2).bind fun s' => .ok (.nx, s')
/-- a, b = e, f -/
def sPar2 (i j : Nat) (f g : EV) : SV := fun s => (f s).bind fun r => (g r.2).bind fun q => (setL i r.1 q.2).bind fun s1 => (setL j q.1 s1).bind fun s2 => .ok (.nx, s2)
def sDrop (f : EV) : SV := fun s => (f s).bind fun r => .ok (.nx, r.2)
def retL : L → Sl → R T
  | .d x, _ => .ok (.val x)
  | .t x, _ => .ok x
  | .o j, s => match s[j]? with
    | some (some t) => .ok t
    | _ => .no
def dropL : L → Sl → Sl
  | .o j, s => s.set j none
  | _, s => s
def sRet (f : EV) : SV := fun s => (f s).bind fun r => (retL r.1 r.2).bind fun t => .ok (.rt t, dropL r.1 r.2)
def sRetN : SV := fun s => .ok (.rt (.val .none), s)
def sIf (c : BV) (f g : SV) : SV := fun s => (c s).bind fun r => if r.1 then f r.2 else g r.2
def sBrk : SV := fun s => .ok (.bk, s)
def sCnt : SV := fun s => .ok (.ct, s)
def forD (g : GV) (b : SV) : List D → SV
  | [], s => .ok (.nx, s)
  | x :: xs, s => (g x s).bind fun s1 => (b s1).bind fun r => match r.1 with
    | .nx => forD g b xs r.2
    | .ct => forD g b xs r.2
    | .bk => .ok (.nx, r.2)
    | .rt t => .ok (.rt t, r.2)
def sFor (it : IV) (g : GV) (b : SV) : SV := fun s => (it s).bind fun r => forD g b r.1 r.2
def whileD (c : BV) (b : SV) : Nat → SV
  | 0, _ => .no
  | n + 1, s => (c s).bind fun r => if r.1 then (b r.2).bind fun q => (match q.1 with
      | .nx => whileD c b n q.2
      | .ct => whileD c b n q.2
      | .bk => .ok (.nx, q.2)
      | .rt t => .ok (.rt t, q.2)) else .ok (.nx, r.2)
/-- so many turns at most -/
def fuel : Nat := 1000000
def sWhile (c : BV) (b : SV) : SV := whileD c b fuel
/-- x.append(e) -/
def sApp (i : Nat) (f : EV) : SV := fun s => (kD f s).bind fun r => match r.2[i]? with
  | some (some (.lst xs)) => if szOk (xs.length + 1) then .ok (.nx, r.2.set i (some (.lst (xs ++ [r.1])))) else .no
  | _ => .no
/-- x.extend(e), e a list or tuple that is not x -/
def sExt (i : Nat) (f : EV) : SV := fun s => (kD f s).bind fun r => (seqOf r.1).bind fun ys => match r.2[i]? with
  | some (some (.lst xs)) => if szOk (xs.length + ys.length) then .ok (.nx, r.2.set i (some (.lst (xs ++ ys)))) else .no
  | _ => .no
/-- x[k] = e -/
def sPut (i : Nat) (k f : EV) : SV := fun s => (kD f s).bind fun r => (kD k r.2).bind fun q => match q.2[i]? with
  | some (some (.lst xs)) => (match q.1 with
    | .int j => match ixD xs.length j with
      | some m => .ok (.nx, q.2.set i (some (.lst (xs.set m r.1))))
      | none => .no
    | _ => .no)
  | some (some (.dct kvs)) => if (keyOf q.1).isSome && szOk (kvs.length + 1) then .ok (.nx, q.2.set i (some (.dct (putD kvs q.1 r.1)))) else .no
  | _ => .no
/-- x.pop(), x.pop(k) -/
def kPop (i : Nat) : EV := fun s => match s[i]? with
  | some (some (.lst xs)) => match xs.getLast? with
    | some d => .ok (.d d, s.set i (some (.lst xs.dropLast)))
    | none => .no
  | _ => .no
def kPopI (i : Nat) (f : EV) : EV := fun s => (kD f s).bind fun r => match r.2[i]?, r.1 with
  | some (some (.lst xs)), .int j => if 0 ≤ j then (match xs[j.toNat]? with
    | some d => .ok (.d d, r.2.set i (some (.lst (xs.eraseIdx j.toNat))))
    | none => .no) else .no
  | _, _ => .no
/-- x += e of numbers, texts, tuples -/
def sAug (p : D → D → R L) (i : Nat) (f : EV) : SV := fun s => match s[i]? with
  | some (some (.val d)) => (kD f s).bind fun r => (p d r.1).bind fun l => match l with
    | .d x => .ok (.nx, r.2.set i (some (.val x)))
    | _ => .no
  | _ => .no

/-! ### comprehensions -/
def wipeD (s : Sl) : List Nat → Sl
  | [] => s
  | i :: r => (wipeD s r).set i none
def compD (g : GV) (c : Option BV) (f : EV) (own : List Nat) : List D → Sl → R (List D × Sl)
  | [], s => .ok ([], s)
  | x :: xs, s => (g x (wipeD s own)).bind fun s1 => (match c with | some b => b s1 | none => .ok (true, s1)).bind fun r =>
      if r.1 then (kD f r.2).bind fun q => (compD g c f own xs (wipeD q.2 own)).bind fun t => .ok (q.1 :: t.1, t.2)
      else compD g c f own xs (wipeD r.2 own)
def kComp (it : IV) (g : GV) (c : Option BV) (f : EV) (own : List Nat) : EV := fun s => (it s).bind fun r => (compD g c f own r.1 r.2).bind fun q =>
  if szOk q.1.length then .ok (.t (.lst q.1), q.2) else .no
end KV

set_option Elab.async false
set_option linter.all false
set_option maxRecDepth 100000
/-! KVB: what stands for what: values, slots, what a step leaves. -/
namespace KV
open PySem L2

def Sub (H H' : Hp) : Prop := ∀ a o, H a = some o → H' a = some o
theorem Sub.refl (H : Hp) : Sub H H := fun _ _ h => h
theorem Sub.trans {H H1 H2 : Hp} (a : Sub H H1) (b : Sub H1 H2) : Sub H H2 := fun x o h => b x o (a x o h)
theorem Sub.upd {H : Hp} {p : Addr} {o : HO} (h : H p = none) : Sub H (upd H p o) := fun a u e => by
  rw [upd_ne (ne_of_none e h)]; exact e
theorem Sub.updB {H H' : Hp} {p : Addr} {o : HO} (s : Sub H H') : Sub (L2.upd H p o) (L2.upd H' p o) := fun a u e => by
  by_cases h : a = p
  · subst h; rw [upd_same] at e ⊢; exact e
  · rw [upd_ne h] at e ⊢; exact s a u e
theorem Sub.rd {H H' : Hp} {a : Addr} {o : HO} (s : Sub H H') (h : Rd H a o) : Rd H' a o := by
  rcases h with h | ⟨u, h⟩
  · exact .inl (s _ _ h)
  · exact .inr ⟨u, s _ _ h⟩
theorem Sub.sqL {K : PySem.W.Frag} {H H' : Hp} {a : Addr} {xs : List V} (s : Sub H H') (h : SqL K H a xs) : SqL K H' a xs := by
  rcases h with h | h
  · exact .inl (s.rd h)
  · exact .inr h
theorem Sub.sqT {K : PySem.W.Frag} {H H' : Hp} {a : Addr} {xs : List V} (s : Sub H H') (h : SqT K H a xs) : SqT K H' a xs := by
  rcases h with h | h
  · exact .inl (s.rd h)
  · exact .inr h

/-- a tuple that stands, its object known to have no dict of its own -/
def STup (K : PySem.W.Frag) (H : Hp) (a : Addr) (vs : List V) : Prop :=
  (∃ o, H a = some (.frz o (.tup vs)) ∧ o.dict = none) ∨
    ∃ (o : Obj) (its : Array Value) (n : Nat), K.lookup a = some o ∧ o.cls = .type "tuple" ∧ o.dict = none ∧ o.data = .seq its n ∧ its.size ≤ sizeLine ∧ Vals vs its.toList
theorem Sub.stup {K : PySem.W.Frag} {H H' : Hp} {a : Addr} {xs : List V} (s : Sub H H') (h : STup K H a xs) : STup K H' a xs := by
  rcases h with ⟨o, h, d⟩ | h
  · exact .inl ⟨o, s _ _ h, d⟩
  · exact .inr h
theorem STup.sq {K : PySem.W.Frag} {H : Hp} {a : Addr} {xs : List V} (h : STup K H a xs) : SqT K H a xs := by
  rcases h with ⟨o, h, d⟩ | ⟨o, its, n, h1, h2, h3, h4, h5, h6⟩
  · exact .inl (.inr ⟨o, h⟩)
  · exact .inr ⟨o, its, n, h1, h2, h4, h5, h6⟩

def keyD : Key → D
  | .inl i => .int i
  | .inr x => .str x

mutual
/-- v stands for d in the heap H of what is shared -/
inductive Rp (K : PySem.W.Frag) (H : Hp) : V → D → Prop
  | non : Rp K H .non .none
  | bl (b : Bool) : Rp K H (.bl b) (.bool b)
  | int (i : Int) : Rp K H (.int i) (.int i)
  | str (x : Str) : Rp K H (.str x) (.str x)
  | lst {a : Addr} {vs : List V} {ds : List D} : H a = some (.lst vs) → RpA K H vs ds → Rp K H (.ref a) (.list ds)
  | tup {a : Addr} {vs : List V} {ds : List D} : STup K H a vs → RpA K H vs ds → Rp K H (.ref a) (.tuple ds)
  | dct {a : Addr} {kvs : List (Key × V)} {ds : List (D × D)} : Rd H a (.dK kvs) → RpKv K H kvs ds → Rp K H (.ref a) (.dict ds)
inductive RpA (K : PySem.W.Frag) (H : Hp) : List V → List D → Prop
  | nil : RpA K H [] []
  | cons {v : V} {d : D} {vs : List V} {ds : List D} : Rp K H v d → RpA K H vs ds → RpA K H (v :: vs) (d :: ds)
inductive RpKv (K : PySem.W.Frag) (H : Hp) : List (Key × V) → List (D × D) → Prop
  | nil : RpKv K H [] []
  | cons {k : Key} {v : V} {d : D} {kvs : List (Key × V)} {ds : List (D × D)} : Rp K H v d → RpKv K H kvs ds → RpKv K H ((k, v) :: kvs) ((keyD k, d) :: ds)
end
section
variable {K : PySem.W.Frag} {H H' : Hp}
mutual
theorem Rp.mono (s : Sub H H') : ∀ {v : V} {d : D}, Rp K H v d → Rp K H' v d
  | _, _, .non => .non
  | _, _, .bl b => .bl b
  | _, _, .int i => .int i
  | _, _, .str x => .str x
  | _, _, .lst h r => .lst (s _ _ h) (RpA.mono s r)
  | _, _, .tup h r => .tup (s.stup h) (RpA.mono s r)
  | _, _, .dct h r => .dct (s.rd h) (RpKv.mono s r)
theorem RpA.mono (s : Sub H H') : ∀ {vs : List V} {ds : List D}, RpA K H vs ds → RpA K H' vs ds
  | _, _, .nil => .nil
  | _, _, .cons h r => .cons (h.mono s) (RpA.mono s r)
theorem RpKv.mono (s : Sub H H') : ∀ {vs : List (Key × V)} {ds : List (D × D)}, RpKv K H vs ds → RpKv K H' vs ds
  | _, _, .nil => .nil
  | _, _, .cons h r => .cons (h.mono s) (RpKv.mono s r)
end
theorem RpA.length : ∀ {vs : List V} {ds : List D}, RpA K H vs ds → vs.length = ds.length
  | _, _, .nil => rfl
  | _, _, .cons _ r => by simp [RpA.length r]
theorem RpA.append : ∀ {vs ws : List V} {ds es : List D}, RpA K H vs ds → RpA K H ws es → RpA K H (vs ++ ws) (ds ++ es)
  | _, _, _, _, .nil, r => r
  | _, _, _, _, .cons h t, r => .cons h (RpA.append t r)
theorem RpA.get : ∀ {vs : List V} {ds : List D} {i : Nat} {d : D}, RpA K H vs ds → ds[i]? = some d → ∃ v, vs[i]? = some v ∧ Rp K H v d
  | _, _, _, _, .nil, e => by simp at e
  | _, _, 0, _, .cons h _, e => by simp at e; subst e; exact ⟨_, rfl, h⟩
  | _, _, i + 1, _, .cons _ t, e => by
    obtain ⟨v, h1, h2⟩ := RpA.get (i := i) t (by simpa using e)
    exact ⟨v, by simpa using h1, h2⟩
theorem RpA.drop : ∀ {vs : List V} {ds : List D} (n : Nat), RpA K H vs ds → RpA K H (vs.drop n) (ds.drop n)
  | _, _, 0, r => r
  | _, _, _ + 1, .nil => .nil
  | _, _, n + 1, .cons _ t => RpA.drop n t
theorem RpA.take : ∀ {vs : List V} {ds : List D} (n : Nat), RpA K H vs ds → RpA K H (vs.take n) (ds.take n)
  | _, _, 0, _ => .nil
  | _, _, _ + 1, .nil => .nil
  | _, _, n + 1, .cons h t => .cons h (RpA.take n t)
theorem RpA.rev : ∀ {vs : List V} {ds : List D}, RpA K H vs ds → RpA K H vs.reverse ds.reverse
  | _, _, .nil => .nil
  | _, _, .cons h t => by
    rw [List.reverse_cons, List.reverse_cons]
    exact RpA.append (RpA.rev t) (.cons h .nil)
theorem RpA.set {v : V} {d : D} (h : Rp K H v d) : ∀ {vs : List V} {ds : List D} (n : Nat), RpA K H vs ds → RpA K H (vs.set n v) (ds.set n d)
  | _, _, _, .nil => .nil
  | _, _, 0, .cons _ t => .cons h t
  | _, _, n + 1, .cons q t => .cons q (RpA.set h n t)
theorem RpA.erase : ∀ {vs : List V} {ds : List D} (n : Nat), RpA K H vs ds → RpA K H (vs.eraseIdx n) (ds.eraseIdx n)
  | _, _, _, .nil => .nil
  | _, _, 0, .cons _ t => t
  | _, _, n + 1, .cons q t => .cons q (RpA.erase n t)
theorem RpA.rep {vs : List V} {ds : List D} (h : RpA K H vs ds) : ∀ n : Nat, RpA K H (List.replicate n vs).flatten (List.replicate n ds).flatten
  | 0 => .nil
  | n + 1 => by
    rw [List.replicate_succ, List.replicate_succ, List.flatten_cons, List.flatten_cons]
    exact h.append (RpA.rep h n)
theorem RpA.dropLast : ∀ {vs : List V} {ds : List D}, RpA K H vs ds → RpA K H vs.dropLast ds.dropLast := fun {vs ds} h => by
  rw [List.dropLast_eq_take, List.dropLast_eq_take, h.length]
  exact h.take _
theorem RpKv.length : ∀ {vs : List (Key × V)} {ds : List (D × D)}, RpKv K H vs ds → vs.length = ds.length
  | _, _, .nil => rfl
  | _, _, .cons _ r => by simp [RpKv.length r]
end

/-- what is fixed: the written part; which functions may be called, and how they answer -/
structure Wd where
  K : PySem.W.Frag
  CL : Hp → V → Nat → (List D → R D) → Prop
  mono : ∀ {H H' : Hp} {v : V} {n : Nat} {f : List D → R D}, Sub H H' → CL H v n f → CL H' v n f
  /-- a table of code objects, the names that it tells -/
  tb : Option (Addr × (Nat → Nat → Str))

def srcKv (b : Addr) (S : Src) : List (Key × V) :=
  [(Sum.inr "cells", .ref b), (Sum.inr "left", .int S.left), (Sum.inr "mixed", .int S.mixed), (Sum.inr "turn", .int S.turn)]

def tabKv (t : Tab) (b c d : Addr) : List (Key × V) := [(Sum.inr t.x, .ref b), (Sum.inr t.y, .ref c), (Sum.inr t.z, .ref d)]

/-- v stands for what is owned: at these places, told by H; Hf is what is shared -/
inductive OR (w : Wd) (Hf H : Hp) : V → T → List Addr → Prop
  | val {v : V} {d : D} : Rp w.K Hf v d → OR w Hf H v (.val d) []
  | lst {a : Addr} {vs : List V} {ds : List D} : H a = some (.lst vs) → RpA w.K Hf vs ds → OR w Hf H (.ref a) (.lst ds) [a]
  | dct {a : Addr} {kvs : List (Key × V)} {ds : List (D × D)} : H a = some (.dK kvs) → RpKv w.K Hf kvs ds → OR w Hf H (.ref a) (.dct ds) [a]
  | src {a b : Addr} {S : Src} : H a = some (.dK (srcKv b S)) → H b = some (.lst (S.cells.map V.int)) → OR w Hf H (.ref a) (.src S) [a, b]
  | clo {v : V} {n : Nat} {f : List D → R D} : w.CL Hf v n f → OR w Hf H v (.clo n f) []
  | scr {a : Addr} {ns : List Int} : SqL w.K Hf a (ns.map V.int) → OR w Hf H (.ref a) (.scr ns) []
  | tab {a b c d : Addr} {kb kc kd : List (Key × V)} {t : Tab} : H a = some (.dK (tabKv t b c d)) → H b = some (.dK kb) → H c = some (.dK kc) → H d = some (.dK kd) → RpKv w.K Hf kb t.p → RpKv w.K Hf kc t.q → RpKv w.K Hf kd t.r → [a, b, c, d].Nodup → OR w Hf H (.ref a) (.tab t) [a, b, c, d]
  | tbs {v : V} {P : Addr} {nm : Nat → Nat → Str} {ps : Array Value} : w.tb = some (P, nm) → H P = some (.tbl ps) → TriplesOk ps.toList →
      (∀ (pos : Pos) (cv : Value), codeAmong pos ps.toList = some cv → ∃ c, cv = .ref c ∧ Hf c = some (LamX.CodeO c (nm pos.line pos.col))) → OR w Hf H v .tbs [P]
section
variable {w : Wd} {Hf Hf' H H' : Hp} {v : V} {t : T} {F : List Addr}
theorem OR.there (h : OR w Hf H v t F) : ∀ a ∈ F, ∃ o, H a = some o := by
  cases h with
  | val _ => intro a ha; cases ha
  | lst h _ => intro a ha; rw [List.mem_singleton] at ha; subst ha; exact ⟨_, h⟩
  | dct h _ => intro a ha; rw [List.mem_singleton] at ha; subst ha; exact ⟨_, h⟩
  | src h1 h2 =>
    intro a ha
    rcases List.mem_cons.mp ha with e | ha
    · subst e; exact ⟨_, h1⟩
    · rw [List.mem_singleton] at ha; subst ha; exact ⟨_, h2⟩
  | clo _ => intro a ha; cases ha
  | scr _ => intro a ha; cases ha
  | tab h1 h2 h3 h4 _ _ _ _ =>
    intro a ha
    simp only [List.mem_cons, List.not_mem_nil, or_false] at ha
    rcases ha with e | e | e | e <;> subst e
    · exact ⟨_, h1⟩
    · exact ⟨_, h2⟩
    · exact ⟨_, h3⟩
    · exact ⟨_, h4⟩
  | tbs _ h _ _ => intro a ha; rw [List.mem_singleton] at ha; subst ha; exact ⟨_, h⟩
theorem OR.stay (h : OR w Hf H v t F) (s : Sub Hf Hf') (k : ∀ a ∈ F, ∀ o, H a = some o → H' a = some o) : OR w Hf' H' v t F := by
  cases h with
  | val r => exact .val (r.mono s)
  | lst h r => exact .lst (k _ (by simp) _ h) (r.mono s)
  | dct h r => exact .dct (k _ (by simp) _ h) (r.mono s)
  | src h1 h2 => exact .src (k _ (by simp) _ h1) (k _ (by simp) _ h2)
  | clo c => exact .clo (w.mono s c)
  | scr c => exact .scr (s.sqL c)
  | tab h1 h2 h3 h4 r1 r2 r3 nd => exact .tab (k _ (by simp) _ h1) (k _ (by simp) _ h2) (k _ (by simp) _ h3) (k _ (by simp) _ h4) (r1.mono s) (r2.mono s) (r3.mono s) nd
  | tbs e h tr cs => exact .tbs e (k _ (by simp) _ h) tr fun pos cv hc => let ⟨c, e1, e2⟩ := cs pos cv hc; ⟨c, e1, s _ _ e2⟩
end

/-- whose it is -/
def Own (s : Sl) (φ : Nat → List Addr) (a : Addr) : Prop := ∃ i t, s[i]? = some (some t) ∧ a ∈ φ i
structure Good (w : Wd) (σ : St) (H Hf : Hp) (s : Sl) (φ : Nat → List Addr) : Prop where
  sub : Sub Hf H
  len : s.length = σ.length
  here : ∀ i t, s[i]? = some (some t) → ∃ v, σ[i]? = some (some v) ∧ OR w Hf H v t (φ i)
  fr : ∀ i t a, s[i]? = some (some t) → a ∈ φ i → Hf a = none
  dj : ∀ i j t u a, s[i]? = some (some t) → s[j]? = some (some u) → a ∈ φ i → a ∈ φ j → i = j
structure Stp (H Hf : Hp) (P : Addr → Prop) (H' Hf' : Hp) (P' : Addr → Prop) : Prop where
  sub : Sub Hf Hf'
  keep : ∀ a o, H a = some o → ¬ P a → H' a = some o
  new : ∀ a, (P' a ∨ Hf' a ≠ none) → P a ∨ Hf a ≠ none ∨ H a = none
theorem Stp.refl {H Hf : Hp} {P : Addr → Prop} : Stp H Hf P H Hf P := ⟨Sub.refl _, fun _ _ h _ => h, fun _ h => h.elim .inl fun h => .inr (.inl h)⟩
theorem Stp.trans {H Hf H1 Hf1 H2 Hf2 : Hp} {P P1 P1' P2 : Addr → Prop} (a : Stp H Hf P H1 Hf1 P1') (b : Stp H1 Hf1 P1 H2 Hf2 P2) (hp : ∀ x, P1 x → P1' x) (hf : ∀ x, P1 x → Hf1 x = none) : Stp H Hf P H2 Hf2 P2 := by
  refine ⟨a.sub.trans b.sub, fun x o h hn => b.keep x o (a.keep x o h hn) fun hx => ?_, fun x hx => ?_⟩
  · rcases a.new x (.inl (hp x hx)) with h1 | h1 | h1
    · exact hn h1
    · cases e : Hf x with
      | none => exact h1 e
      | some u =>
        have := a.sub x u e
        rw [hf x hx] at this; cases this
    · rw [h] at h1; cases h1
  · rcases b.new x hx with h1 | h1 | h1
    · exact a.new x (.inl (hp x h1))
    · exact a.new x (.inr h1)
    · by_cases hP : P x
      · exact .inl hP
      · cases e : H x with
        | none => exact .inr (.inr rfl)
        | some u => rw [a.keep x u e hP] at h1; cases h1
theorem Stp.weak {H Hf H' Hf' : Hp} {P P' P2 : Addr → Prop} (a : Stp H Hf P H' Hf' P') (hp : ∀ x, P2 x → P' x) : Stp H Hf P H' Hf' P2 :=
  ⟨a.sub, a.keep, fun x h => a.new x (h.imp (hp x) id)⟩
section
variable {w : Wd} {σ : St} {H Hf H' Hf' : Hp} {s s' : Sl} {φ φ' : Nat → List Addr}
theorem Good.own_some (g : Good w σ H Hf s φ) {a : Addr} (h : Own s φ a) : ∃ o, H a = some o := by
  obtain ⟨i, t, e, m⟩ := h
  obtain ⟨v, _, r⟩ := g.here i t e
  exact r.there a m
theorem Good.own_free (g : Good w σ H Hf s φ) {a : Addr} (h : Own s φ a) : Hf a = none := by
  obtain ⟨i, t, e, m⟩ := h
  exact g.fr i t a e m
theorem Good.own_ne (g : Good w σ H Hf s φ) {a : Addr} (h : H a = none) : ¬ Own s φ a := fun q => by
  obtain ⟨o, e⟩ := g.own_some q
  rw [h] at e; cases e
theorem Good.hf_none (g : Good w σ H Hf s φ) {a : Addr} (h : H a = none) : Hf a = none := by
  cases e : Hf a with
  | none => rfl
  | some u => rw [g.sub a u e] at h; cases h

/-- a value on the way -/
inductive RL (w : Wd) (σ : St) (Hf H : Hp) (s : Sl) (φ : Nat → List Addr) : V → L → List Addr → Prop
  | d {v : V} {x : D} : Rp w.K Hf v x → RL w σ Hf H s φ v (.d x) []
  | o {v : V} {i : Nat} : σ[i]? = some (some v) → RL w σ Hf H s φ v (.o i) []
  | t {v : V} {x : T} {F : List Addr} : OR w Hf H v x F → (∀ a ∈ F, Hf a = none ∧ ¬ Own s φ a) → RL w σ Hf H s φ v (.t x) F
theorem RL.stay {v : V} {l : L} {F : List Addr} {P' : Addr → Prop} (r : RL w σ Hf H s φ v l F) (k : Stp H Hf (Own s φ) H' Hf' P') (hp : ∀ a, Own s' φ' a → P' a) : RL w σ Hf' H' s' φ' v l F := by
  cases r with
  | d r => exact .d (r.mono k.sub)
  | o e => exact .o e
  | t r c =>
    refine .t (r.stay k.sub fun a ha o e => k.keep a o e (c a ha).2) fun a ha => ?_
    obtain ⟨o, e⟩ := r.there a ha
    have no : ¬ (P' a ∨ Hf' a ≠ none) := fun q => by
      rcases k.new a q with h1 | h1 | h1
      · exact (c a ha).2 h1
      · exact h1 (c a ha).1
      · rw [e] at h1; cases h1
    refine ⟨?_, fun q => no (.inl (hp a q))⟩
    cases q : Hf' a with
    | none => rfl
    | some u => exact (no (.inr (by rw [q]; simp))).elim

/-- a value that may be read now, its parts shared -/
inductive Rw (K : PySem.W.Frag) (Hf H : Hp) : V → D → Prop
  | st {v : V} {d : D} : Rp K Hf v d → Rw K Hf H v d
  | lst {a : Addr} {vs : List V} {ds : List D} : H a = some (.lst vs) → RpA K Hf vs ds → Rw K Hf H (.ref a) (.list ds)
  | dct {a : Addr} {kvs : List (Key × V)} {ds : List (D × D)} : Rd H a (.dK kvs) → RpKv K Hf kvs ds → Rw K Hf H (.ref a) (.dict ds)
theorem OR.rw {v : V} {t : T} {F : List Addr} {d : D} (h : OR w Hf H v t F) (e : t.toD = .ok d) : Rw w.K Hf H v d := by
  cases h with
  | val r => cases e; exact .st r
  | lst h r => cases e; exact .lst h r
  | dct h r => cases e; exact .dct (.inl h) r
  | src _ _ => cases e
  | clo _ => cases e
  | scr _ => cases e
  | tab _ _ _ _ _ _ _ _ => cases e
  | tbs _ _ _ _ => cases e
theorem RL.rw {v : V} {l : L} {F : List Addr} {d : D} (r : RL w σ Hf H s φ v l F) (g : Good w σ H Hf s φ) (e : l.get s = .ok d) : Rw w.K Hf H v d := by
  cases r with
  | d r => cases e; exact .st r
  | o h =>
    rename_i i
    simp only [L.get] at e
    split at e
    · rename_i u hu
      obtain ⟨v', e1, r⟩ := g.here i u hu
      rw [h] at e1; cases e1
      exact r.rw e
    · cases e
  | t r c => exact r.rw e
theorem Rw.tup {K : PySem.W.Frag} {v : V} {ds : List D} (r : Rw K Hf H v (.tuple ds)) (s : Sub Hf H) : ∃ a vs, v = .ref a ∧ STup K H a vs ∧ RpA K Hf vs ds := by
  cases r with
  | st r => cases r with
    | tup h r => exact ⟨_, _, rfl, s.stup h, r⟩
theorem Rw.list {K : PySem.W.Frag} {v : V} {ds : List D} (r : Rw K Hf H v (.list ds)) (s : Sub Hf H) : ∃ a vs, v = .ref a ∧ H a = some (.lst vs) ∧ RpA K Hf vs ds := by
  cases r with
  | st r => cases r with
    | lst h r => exact ⟨_, _, rfl, s _ _ h, r⟩
  | lst h r => exact ⟨_, _, rfl, h, r⟩
theorem Rw.dict {K : PySem.W.Frag} {v : V} {ds : List (D × D)} (r : Rw K Hf H v (.dict ds)) (s : Sub Hf H) : ∃ a kvs, v = .ref a ∧ Rd H a (.dK kvs) ∧ RpKv K Hf kvs ds := by
  cases r with
  | st r => cases r with
    | dct h r => exact ⟨_, _, rfl, s.rd h, r⟩
  | dct h r => exact ⟨_, _, rfl, h, r⟩
theorem Rw.tupR {K : PySem.W.Frag} {v : V} {ds : List D} (r : Rw K Hf H v (.tuple ds)) : Rp K Hf v (.tuple ds) := by
  cases r with
  | st r => exact r
theorem Rw.int {K : PySem.W.Frag} {v : V} {i : Int} (r : Rw K Hf H v (.int i)) : v = .int i := by
  cases r with
  | st r => cases r; rfl
theorem Rw.str {K : PySem.W.Frag} {v : V} {x : Str} (r : Rw K Hf H v (.str x)) : v = .str x := by
  cases r with
  | st r => cases r; rfl
theorem Rw.bool {K : PySem.W.Frag} {v : V} {b : Bool} (r : Rw K Hf H v (.bool b)) : v = .bl b := by
  cases r with
  | st r => cases r; rfl
theorem Rw.none {K : PySem.W.Frag} {v : V} (r : Rw K Hf H v .none) : v = .non := by
  cases r with
  | st r => cases r; rfl

/-! ### new objects -/
theorem Good.updH (g : Good w σ H Hf s φ) {p : Addr} {o : HO} (h : H p = none) : Good w σ (upd H p o) Hf s φ := by
  refine ⟨g.sub.trans (Sub.upd h), g.len, fun i t e => ?_, g.fr, g.dj⟩
  obtain ⟨v, e1, r⟩ := g.here i t e
  exact ⟨v, e1, r.stay (Sub.refl _) fun a _ o e => Sub.upd h a o e⟩
theorem Good.updB (g : Good w σ H Hf s φ) {p : Addr} {o : HO} (h : H p = none) : Good w σ (upd H p o) (upd Hf p o) s φ := by
  have hf := g.hf_none h
  refine ⟨Sub.updB g.sub, g.len, fun i t e => ?_, fun i t a e m => ?_, g.dj⟩
  · obtain ⟨v, e1, r⟩ := g.here i t e
    exact ⟨v, e1, r.stay (Sub.upd hf) fun a _ o e => Sub.upd h a o e⟩
  · have : a ≠ p := fun z => g.own_ne h ⟨i, t, e, z ▸ m⟩
    rw [upd_ne this]
    exact g.fr i t a e m
theorem Stp.updH {P P' : Addr → Prop} {p : Addr} {o : HO} (h : H p = none) (hp : ∀ a, P' a → P a ∨ a = p) : Stp H Hf P (upd H p o) Hf P' :=
  ⟨Sub.refl _, fun a u e _ => Sub.upd h a u e, fun a q => q.elim (fun q => (hp a q).elim .inl fun z => .inr (.inr (z ▸ h))) fun q => .inr (.inl q)⟩
theorem Stp.updB {P : Addr → Prop} {p : Addr} {o : HO} (h : H p = none) (hf : Hf p = none) : Stp H Hf P (upd H p o) (upd Hf p o) P :=
  ⟨Sub.upd hf, fun a u e _ => Sub.upd h a u e, fun a q => q.elim .inl fun q => by
    by_cases z : a = p
    · exact .inr (.inr (z ▸ h))
    · rw [upd_ne z] at q; exact .inr (.inl q)⟩

/-- what follows an expression's value -/
def PQ (w : Wd) (σ : St) (H Hf : Hp) (s : Sl) (φ : Nat → List Addr) (s' : Sl) (l : L) (Q : VK) : Prop :=
  ∀ v H' Hf' φ' F, Good w σ H' Hf' s' φ' → RL w σ Hf' H' s' φ' v l F → Stp H Hf (Own s φ) H' Hf' (fun a => Own s' φ' a ∨ a ∈ F) → Q v H'
theorem PQ.d {v : V} {x : D} {Q : VK} (q : PQ w σ H Hf s φ s (.d x) Q) (g : Good w σ H Hf s φ) (r : Rp w.K Hf v x) : Q v H :=
  q v H Hf φ [] g (.d r) (Stp.refl.weak fun a h => h.elim id fun z => nomatch z)
theorem PQ.tup {vs : List V} {ds : List D} {Q : VK} {p : Addr} (q : PQ w σ H Hf s φ s (.d (.tuple ds)) Q) (g : Good w σ H Hf s φ) (r : RpA w.K Hf vs ds) (h : H p = none) {o : Obj} (ho : o.dict = none) : Q (.ref p) (upd H p (.frz o (.tup vs))) := by
  have hf := g.hf_none h
  exact q _ _ (upd Hf p (.frz o (.tup vs))) φ [] (g.updB h) (.d (.tup (.inl ⟨o, upd_same, ho⟩) (r.mono (Sub.upd hf)))) ((Stp.updB h hf).weak fun a h => h.elim id fun z => nomatch z)
theorem PQ.lst {vs : List V} {ds : List D} {Q : VK} {p : Addr} (q : PQ w σ H Hf s φ s (.t (.lst ds)) Q) (g : Good w σ H Hf s φ) (r : RpA w.K Hf vs ds) (h : H p = none) : Q (.ref p) (upd H p (.lst vs)) :=
  q _ _ Hf φ [p] (g.updH h) (.t (.lst upd_same r) fun a ha => by
    rw [List.mem_singleton] at ha; subst ha
    exact ⟨g.hf_none h, g.own_ne h⟩) (Stp.updH h fun a z => z.imp id fun z => by simpa using z)
theorem PQ.dct {kvs : List (Key × V)} {ds : List (D × D)} {Q : VK} {p : Addr} (q : PQ w σ H Hf s φ s (.t (.dct ds)) Q) (g : Good w σ H Hf s φ) (r : RpKv w.K Hf kvs ds) (h : H p = none) : Q (.ref p) (upd H p (.dK kvs)) :=
  q _ _ Hf φ [p] (g.updH h) (.t (.dct upd_same r) fun a ha => by
    rw [List.mem_singleton] at ha; subst ha
    exact ⟨g.hf_none h, g.own_ne h⟩) (Stp.updH h fun a z => z.imp id fun z => by simpa using z)
/-- the rest of a way, behind a first part -/
theorem PQ.later {Q : VK} {l : L} {s1 : Sl} {H1 Hf1 : Hp} {φ1 : Nat → List Addr} {P1 : Addr → Prop} (q : PQ w σ H Hf s φ s' l Q) (k : Stp H Hf (Own s φ) H1 Hf1 P1) (hp : ∀ a, Own s1 φ1 a → P1 a) (g1 : Good w σ H1 Hf1 s1 φ1) : PQ w σ H1 Hf1 s1 φ1 s' l Q :=
  fun v H' Hf' φ' F g r k' => q v H' Hf' φ' F g r (k.trans k' hp fun x hx => g1.own_free hx)

/-! ### for good: what was owned is shared -/
theorem freeze_slot (g : Good w σ H Hf s φ) {i : Nat} {t : T} {d : D} (h : s[i]? = some (some t)) (e : t.toD = .ok d) :
    ∃ v Hf', σ[i]? = some (some v) ∧ Rp w.K Hf' v d ∧ Good w σ H Hf' (s.set i (some (.val d))) (fun j => if j = i then [] else φ j) ∧
      Stp H Hf (Own s φ) H Hf' (Own (s.set i (some (.val d))) (fun j => if j = i then [] else φ j)) := by
  obtain ⟨v, e1, r⟩ := g.here i t h
  have hi : i < s.length := (List.getElem?_eq_some_iff.mp h).1
  have get : ∀ {j u}, (s.set i (some (.val d)))[j]? = some (some u) → j = i ∧ u = .val d ∨ j ≠ i ∧ s[j]? = some (some u) := fun {j u} q => by
    by_cases z : j = i
    · subst z
      rw [List.getElem?_set_self hi] at q
      cases q
      exact .inl ⟨rfl, rfl⟩
    · rw [List.getElem?_set_ne (Ne.symm z)] at q
      exact .inr ⟨z, q⟩
  have core : ∀ Hf', Sub Hf Hf' → Sub Hf' H → Rp w.K Hf' v d → (∀ a, Hf' a ≠ none → Hf a ≠ none ∨ a ∈ φ i) →
      Good w σ H Hf' (s.set i (some (.val d))) (fun j => if j = i then [] else φ j) ∧ Stp H Hf (Own s φ) H Hf' (Own (s.set i (some (.val d))) (fun j => if j = i then [] else φ j)) := by
    intro Hf' s1 s2 rp nw
    refine ⟨⟨s2, by rw [List.length_set]; exact g.len, fun j u q => ?_, fun j u a q m => ?_, fun j k u u' a q1 q2 m1 m2 => ?_⟩, s1, fun a o q _ => q, fun a q => ?_⟩
    · rcases get q with ⟨z, rfl⟩ | ⟨z, q⟩
      · subst z; rw [if_pos rfl]; exact ⟨v, e1, .val rp⟩
      · rw [if_neg z]
        obtain ⟨v', e2, r2⟩ := g.here j u q
        exact ⟨v', e2, r2.stay s1 fun a _ o e => e⟩
    · rcases get q with ⟨z, rfl⟩ | ⟨z, q⟩
      · simp only [if_pos z] at m; cases m
      · simp only [if_neg z] at m
        cases q2 : Hf' a with
        | none => rfl
        | some o =>
          rcases nw a (by rw [q2]; simp) with q3 | q3
          · exact (q3 (g.fr j u a q m)).elim
          · exact (z (g.dj j i u t a q h m q3)).elim
    · rcases get q1 with ⟨z, rfl⟩ | ⟨z, q1⟩
      · simp only [if_pos z] at m1; cases m1
      · rcases get q2 with ⟨z2, rfl⟩ | ⟨z2, q2⟩
        · simp only [if_pos z2] at m2; cases m2
        · simp only [if_neg z] at m1; simp only [if_neg z2] at m2
          exact g.dj j k u u' a q1 q2 m1 m2
    · rcases q with ⟨j, u, q, m⟩ | q
      · rcases get q with ⟨z, rfl⟩ | ⟨z, q⟩
        · simp only [if_pos z] at m; cases m
        · simp only [if_neg z] at m; exact .inl ⟨j, u, q, m⟩
      · rcases nw a q with q | q
        · exact .inr (.inl q)
        · exact .inl ⟨i, t, h, q⟩
  have one : ∀ (a : Addr) (o : HO), φ i = [a] → H a = some o → Sub Hf (upd Hf a o) ∧ Sub (upd Hf a o) H ∧ ∀ x, upd Hf a o x ≠ none → Hf x ≠ none ∨ x ∈ φ i := by
    intro a o ea ha
    have hn : Hf a = none := g.fr i t a h (by rw [ea]; simp)
    refine ⟨Sub.upd hn, fun x u q => ?_, fun x q => ?_⟩
    · by_cases z : x = a
      · subst z; rw [upd_same] at q; cases q; exact ha
      · rw [upd_ne z] at q; exact g.sub x u q
    · by_cases z : x = a
      · right; rw [ea, z]; simp
      · rw [upd_ne z] at q; exact .inl q
  generalize hF : φ i = F at r
  cases r with
  | val r =>
    cases e
    obtain ⟨c1, c2⟩ := core Hf (Sub.refl _) g.sub r fun a q => .inl q
    exact ⟨v, Hf, e1, r, c1, c2⟩
  | lst ha r =>
    cases e
    obtain ⟨o1, o2, o3⟩ := one _ _ hF ha
    have rp : Rp w.K (upd Hf _ (.lst _)) (.ref _) (.list _) := .lst upd_same (r.mono o1)
    obtain ⟨c1, c2⟩ := core _ o1 o2 rp o3
    exact ⟨_, _, e1, rp, c1, c2⟩
  | dct ha r =>
    cases e
    obtain ⟨o1, o2, o3⟩ := one _ _ hF ha
    have rp : Rp w.K (upd Hf _ (.dK _)) (.ref _) (.dict _) := .dct (.inl upd_same) (r.mono o1)
    obtain ⟨c1, c2⟩ := core _ o1 o2 rp o3
    exact ⟨_, _, e1, rp, c1, c2⟩
  | src _ _ => cases e
  | clo _ => cases e
  | scr _ => cases e
  | tab _ _ _ _ _ _ _ _ => cases e
  | tbs _ _ _ _ => cases e
/-- behind a value for good -/
theorem RL.take {v : V} {l : L} {F : List Addr} {d : D} {s1 : Sl} (r : RL w σ Hf H s φ v l F) (g : Good w σ H Hf s φ) (e : l.take s = .ok (d, s1)) :
    ∃ Hf' φ', Rp w.K Hf' v d ∧ Good w σ H Hf' s1 φ' ∧ Stp H Hf (fun a => Own s φ a ∨ a ∈ F) H Hf' (Own s1 φ') := by
  cases r with
  | d r =>
    cases e
    exact ⟨Hf, φ, r, g, Stp.refl.weak fun a h => .inl h⟩
  | o h =>
    rename_i i
    simp only [L.take] at e
    split at e
    · rename_i u hu
      obtain ⟨d', e1, e2⟩ := R.bind_eq_ok.mp e
      cases e2
      obtain ⟨v', Hf', h1, h2, h3, h4⟩ := freeze_slot g hu e1
      rw [h] at h1; cases h1
      refine ⟨Hf', _, h2, h3, h4.sub, fun a o q hn => q, fun a q => ?_⟩
      rcases h4.new a q with q | q | q
      · exact .inl (.inl q)
      · exact .inr (.inl q)
      · exact .inr (.inr q)
    · cases e
  | t r c =>
    rename_i x
    simp only [L.take] at e
    obtain ⟨d', e1, e2⟩ := R.bind_eq_ok.mp e
    cases e2
    have core : ∀ (a : Addr) (o : HO), F = [a] → H a = some o → Good w σ H (upd Hf a o) s φ ∧ Stp H Hf (fun a => Own s φ a ∨ a ∈ F) H (upd Hf a o) (Own s φ) := by
      intro a o ea ha
      obtain ⟨hn, no⟩ := c a (by rw [ea]; simp)
      refine ⟨⟨fun x u q => ?_, g.len, fun i t q => ?_, fun i t x q m => ?_, g.dj⟩, Sub.upd hn, fun x u q _ => q, fun x q => ?_⟩
      · by_cases z : x = a
        · subst z; rw [upd_same] at q; cases q; exact ha
        · rw [upd_ne z] at q; exact g.sub x u q
      · obtain ⟨v', h1, h2⟩ := g.here i t q
        exact ⟨v', h1, h2.stay (Sub.upd hn) fun _ _ _ e => e⟩
      · have z : x ≠ a := fun z => no ⟨i, t, q, z ▸ m⟩
        rw [upd_ne z]; exact g.fr i t x q m
      · rcases q with q | q
        · exact .inl (.inl q)
        · by_cases z : x = a
          · exact .inl (.inr (by rw [ea, z]; simp))
          · rw [upd_ne z] at q; exact .inr (.inl q)
    cases r with
    | val r => cases e1; exact ⟨Hf, φ, r, g, Stp.refl.weak fun a h => .inl h⟩
    | lst ha r =>
      cases e1
      obtain ⟨c1, c2⟩ := core _ _ rfl ha
      exact ⟨_, _, .lst upd_same (r.mono c2.sub), c1, c2⟩
    | dct ha r =>
      cases e1
      obtain ⟨c1, c2⟩ := core _ _ rfl ha
      exact ⟨_, _, .dct (.inl upd_same) (r.mono c2.sub), c1, c2⟩
    | src _ _ => cases e1
    | clo _ => cases e1
    | scr _ => cases e1
    | tab _ _ _ _ _ _ _ _ => cases e1
    | tbs _ _ _ _ => cases e1
end
end KV

set_option Elab.async false
set_option linter.all false
set_option maxRecDepth 100000
/-! KVC: expressions: each rule says that the denotation is right. -/
namespace KV
open PySem L2
open PySem.Spec PyProof.Rows

/-- what an expression's reading asks -/
def tE (w : Wd) (f : EV) : TE := fun σ H Q => ∃ Hf s φ l s', Good w σ H Hf s φ ∧ f s = .ok (l, s') ∧ PQ w σ H Hf s φ s' l Q
def tB (w : Wd) (f : BV) : TT := fun σ H Q => ∃ Hf s φ b s', Good w σ H Hf s φ ∧ f s = .ok (b, s') ∧
  ∀ H' Hf' φ', Good w σ H' Hf' s' φ' → Stp H Hf (Own s φ) H' Hf' (Own s' φ') → Q b H'
def tA (w : Wd) (g : AV) : TA := fun σ H Q => ∃ Hf s φ ds s', Good w σ H Hf s φ ∧ g s = .ok (ds, s') ∧
  ∀ vs H' Hf' φ', Good w σ H' Hf' s' φ' → RpA w.K Hf' vs ds → Stp H Hf (Own s φ) H' Hf' (Own s' φ') → Q vs H'
abbrev GE (w : Wd) (X : Cx) (e : Expr) (f : EV) : Prop := PE X e (tE w f)
abbrev GB (w : Wd) (X : Cx) (e : Expr) (f : BV) : Prop := PT X e (tB w f)
abbrev GW (w : Wd) (X : Cx) (e : Expr) (f : BV) : Prop := PW X e (tB w f)
abbrev GA (w : Wd) (X : Cx) (es : List Expr) (f : AV) : Prop := PA X es (tA w f)

theorem pe_imp {X : Cx} {e : Expr} {t t' : TE} (h : PE X e t) (i : ∀ σ H Q, t' σ H Q → t σ H Q) : PE X e t' := ⟨fun pins s σ H Q I q => h.run pins s σ H Q I (i σ H Q q)⟩
theorem pt_imp {X : Cx} {e : Expr} {t t' : TT} (h : PT X e t) (i : ∀ σ H Q, t' σ H Q → t σ H Q) : PT X e t' := ⟨fun pins s σ H Q I q => h.run pins s σ H Q I (i σ H Q q)⟩
theorem pw_imp {X : Cx} {e : Expr} {t t' : TT} (h : PW X e t) (i : ∀ σ H Q, t' σ H Q → t σ H Q) : PW X e t' := ⟨fun wh pins s σ H Q I q => h.run wh pins s σ H Q I (i σ H Q q)⟩
theorem pa_imp {X : Cx} {e : List Expr} {t t' : TA} (h : PA X e t) (i : ∀ σ H Q, t' σ H Q → t σ H Q) : PA X e t' := ⟨fun pos pins s σ H Q I q => h.run pos pins s σ H Q I (i σ H Q q)⟩

section
variable {w : Wd} {X : Cx} {pos : Pos} {σ : L2.St} {H Hf : Hp} {s s' : Sl} {φ : Nat → List Addr} {Q : VK}

/-! ### constants, names -/
theorem tE_c {d : D} {v : V} (r : ∀ Hf, Rp w.K Hf v d) : tE w (kC d) σ H Q → Q v H := by
  rintro ⟨Hf, s, φ, l, s', g, e, q⟩
  cases e
  exact q.d g (r _)
theorem ge_int {i : Int} {j : Nat} : GE w X (.Constant (.int i) j pos) (kC (.int i)) := pe_imp pe_int fun _ _ _ h => tE_c (fun _ => .int i) h
theorem ge_bl {b : Bool} {j : Nat} : GE w X (.Constant (.bool b) j pos) (kC (.bool b)) := pe_imp pe_bl fun _ _ _ h => tE_c (fun _ => .bl b) h
theorem ge_non {j : Nat} : GE w X (.Constant .none j pos) (kC .none) := pe_imp pe_non fun _ _ _ h => tE_c (fun _ => .non) h
theorem ge_str {x : Str} {j : Nat} : GE w X (.Constant (.str x) j pos) (kC (.str x)) := pe_imp pe_str fun _ _ _ h => tE_c (fun _ => .str x) h
/-- a constant of the module -/
theorem ge_glob {x : Str} {d : D} {v : V} {u : Value} (r : ∀ Hf, Rp w.K Hf v d) (hm : X.mg x = some u) (ru : RelV v u) (hg : Gl X x := by rfl) (hd : (x == ("__debug__" : Str)) = false := by decide) : GE w X (.Name x pos) (kC d) :=
  pe_imp (pe_glob hg hm ru hd) fun _ _ _ h => tE_c r h
theorem ge_v (i : Nat) {x : Str} (hN : X.N[i]? = some x := by rfl) (hv : Vis X.env.scope x := by first | exact Or.inl rfl | exact Or.inr (Or.inl rfl) | exact Or.inr (Or.inr rfl)) (hd : (x == ("__debug__" : Str)) = false := by decide)
    (hcd : (x == ("__classdict__" : Str)) = false := by decide) : GE w X (.Name x pos) (kX i) := by
  refine pe_imp (pe_var hN hv hd hcd) fun σ H Q => ?_
  rintro ⟨Hf, s, φ, l, s', g, e, q⟩
  unfold kX at e
  split at e
  · rename_i d hd
    cases e
    obtain ⟨v, e1, r⟩ := g.here i _ hd
    refine ⟨v, e1, ?_⟩
    generalize φ i = F at r
    cases r with
    | val r => exact q.d g r
  · rename_i d hd
    cases e
    obtain ⟨v, e1, _⟩ := g.here i _ hd
    exact ⟨v, e1, q v H Hf φ [] g (.o e1) (Stp.refl.weak fun a h => h.elim id fun z => nomatch z)⟩
  · rename_i d hd
    cases e
    obtain ⟨v, e1, _⟩ := g.here i _ hd
    exact ⟨v, e1, q v H Hf φ [] g (.o e1) (Stp.refl.weak fun a h => h.elim id fun z => nomatch z)⟩
  · cases e

/-! ### one part, two parts -/
/-- a reading of one value, by its data -/
def U1 (w : Wd) (r : V → Hp → VK → Prop) (p : D → R L) : Prop := ∀ (σ : L2.St) (H Hf : Hp) (s : Sl) (φ : Nat → List Addr) (v : V) (d : D) (l : L) (Q : VK),
  Good w σ H Hf s φ → Rw w.K Hf H v d → p d = .ok l → PQ w σ H Hf s φ s l Q → r v H Q
def U2 (w : Wd) (r : R2) (p : D → D → R L) : Prop := ∀ (σ : L2.St) (H Hf : Hp) (s : Sl) (φ : Nat → List Addr) (v u : V) (d e : D) (l : L) (Q : VK),
  Good w σ H Hf s φ → Rw w.K Hf H v d → Rw w.K Hf H u e → p d e = .ok l → PQ w σ H Hf s φ s l Q → r v u H Q
/-- first a part, then what follows -/
theorem tE_then {f : EV} {l : L} {s1 : Sl} {k : V → Hp → Prop} (g : Good w σ H Hf s φ) (e : f s = .ok (l, s1)) (h : PQ w σ H Hf s φ s1 l (fun v H1 => k v H1)) : tE w f σ H k :=
  ⟨Hf, s, φ, l, s1, g, e, h⟩
theorem k1_ok {p : D → R L} {f : EV} {l : L} (h : k1 p f s = .ok (l, s')) : ∃ l1 d, f s = .ok (l1, s') ∧ l1.get s' = .ok d ∧ p d = .ok l := by
  obtain ⟨⟨l1, s1⟩, h1, h2⟩ := R.bind_eq_ok.mp h
  obtain ⟨d, h3, h4⟩ := R.bind_eq_ok.mp h2
  obtain ⟨l2, h5, h6⟩ := R.bind_eq_ok.mp h4
  cases h6
  exact ⟨l1, d, h1, h3, h5⟩
theorem k2_ok {p : D → D → R L} {f g : EV} {l : L} (h : k2 p f g s = .ok (l, s')) : ∃ l1 s1 l2 d e, f s = .ok (l1, s1) ∧ g s1 = .ok (l2, s') ∧ l1.get s' = .ok d ∧ l2.get s' = .ok e ∧ p d e = .ok l := by
  obtain ⟨⟨l1, s1⟩, h1, h2⟩ := R.bind_eq_ok.mp h
  obtain ⟨⟨l2, s2⟩, h3, h4⟩ := R.bind_eq_ok.mp h2
  obtain ⟨d, h5, h6⟩ := R.bind_eq_ok.mp h4
  obtain ⟨e, h7, h8⟩ := R.bind_eq_ok.mp h6
  obtain ⟨l3, h9, h10⟩ := R.bind_eq_ok.mp h8
  cases h10
  exact ⟨l1, s1, l2, d, e, h1, h3, h5, h7, h9⟩
theorem tE_1 {r : V → Hp → VK → Prop} {p : D → R L} {f : EV} (u : U1 w r p) (h : tE w (k1 p f) σ H Q) : tE w f σ H (fun v H1 => r v H1 Q) := by
  obtain ⟨Hf, s, φ, l, s', g, e, q⟩ := h
  obtain ⟨l1, d, h1, h2, h3⟩ := k1_ok e
  refine ⟨Hf, s, φ, l1, s', g, h1, fun v H1 Hf1 φ1 F1 g1 r1 k1 => ?_⟩
  exact u σ H1 Hf1 s' φ1 v d l Q g1 (r1.rw g1 h2) h3 (q.later k1 (fun a => .inl) g1)
theorem tE_2 {r : R2} {p : D → D → R L} {f f' : EV} (u : U2 w r p) (h : tE w (k2 p f f') σ H Q) : tE w f σ H (fun v H1 => tE w f' σ H1 (fun v' H2 => r v v' H2 Q)) := by
  obtain ⟨Hf, s, φ, l, s', g, e, q⟩ := h
  obtain ⟨l1, s1, l2, d, d', h1, h2, h3, h4, h5⟩ := k2_ok e
  refine ⟨Hf, s, φ, l1, s1, g, h1, fun v H1 Hf1 φ1 F1 g1 r1 k1 => ⟨Hf1, s1, φ1, l2, s', g1, h2, fun v' H2 Hf2 φ2 F2 g2 r2 k2 => ?_⟩⟩
  have r1' := r1.stay (s' := s') (φ' := φ2) k2 fun a => .inl
  exact u σ H2 Hf2 s' φ2 v v' d d' l Q g2 (r1'.rw g2 h3) (r2.rw g2 h4) h5 ((q.later k1 (fun a => .inl) g1).later k2 (fun a => .inl) g2)
theorem ge_op {op : Operator} {r : R2} {p : D → D → R L} {a b : Expr} {f f' : EV} (ho : OpR X (binaryOp op) r) (u : U2 w r p) (ha : GE w X a f) (hb : GE w X b f') : GE w X (.BinOp a op b pos) (k2 p f f') :=
  pe_imp (pe_op ho ha hb) fun _ _ _ h => tE_2 u h
theorem ge_cmp {op : CmpOp} {r : R2} {p : D → D → R L} {a b : Expr} {f f' : EV} (ho : OpR X (compareOp op) r) (u : U2 w r p) (ha : GE w X a f) (hb : GE w X b f') (hm : behindInMarks op b = false := by rfl) : GE w X (.Compare a [op] [b] pos) (k2 p f f') :=
  pe_imp (pe_cmpR ho ha hb hm) fun _ _ _ h => tE_2 u h
theorem ge_un {op : UnaryOp} {r : V → Hp → VK → Prop} {p : D → R L} {a : Expr} {f : EV} (ho : UnR X (unaryOp op) r) (u : U1 w r p) (ha : GE w X a f) : GE w X (.UnaryOp op a pos) (k1 p f) :=
  pe_imp (pe_un ho ha) fun _ _ _ h => tE_1 u h
/-- f(a), f a builtin -/
theorem ge_b1 {id : String} {r : List V → Hp → VK → Prop} {p : D → R L} {x : Str} {px : Pos} {a : Expr} {f : EV} (hc : CallR X (.builtin id) r) (u : U1 w (fun v H Q => r [v] H Q) p) (hm : X.mg x = none) (ha : GE w X a f)
    (hv : bootBuiltins x = some (.builtin id) := by decide +kernel) (hg : Gl X x := by rfl) (hn : x ≠ "__name__" := by decide) (hdb : (x == ("__debug__" : Str)) = false := by decide)
    (he : starEach [a] X.env = (false, eval a X.env) :: starEach [] X.env := by rfl) : GE w X (.Call (.Name x px) [a] [] pos) (k1 p f) :=
  pe_imp (pe_callB hc hg hm hv (pa_cons ha pa_nil he) hn hdb he) fun _ _ _ h => tE_1 u h
theorem ge_t1 {id : String} {r : List V → Hp → VK → Prop} {p : D → R L} {x : Str} {px : Pos} {a : Expr} {f : EV} (hc : CallR X (.type id) r) (u : U1 w (fun v H Q => r [v] H Q) p) (hm : X.mg x = none) (ha : GE w X a f)
    (hv : bootBuiltins x = some (.type id) := by decide +kernel) (hg : Gl X x := by rfl) (hn : x ≠ "__name__" := by decide) (hdb : (x == ("__debug__" : Str)) = false := by decide)
    (he : starEach [a] X.env = (false, eval a X.env) :: starEach [] X.env := by rfl) : GE w X (.Call (.Name x px) [a] [] pos) (k1 p f) :=
  pe_imp (pe_callTy hc hg hm hv (pa_cons ha pa_nil he) hn hdb he) fun _ _ _ h => tE_1 u h
theorem ge_b2 {id : String} {r : List V → Hp → VK → Prop} {p : D → D → R L} {x : Str} {px : Pos} {a b : Expr} {f f' : EV} (hc : CallR X (.builtin id) r) (u : U2 w (fun v v' H Q => r [v, v'] H Q) p) (hm : X.mg x = none) (ha : GE w X a f) (hb : GE w X b f')
    (hv : bootBuiltins x = some (.builtin id) := by decide +kernel) (hg : Gl X x := by rfl) (hn : x ≠ "__name__" := by decide) (hdb : (x == ("__debug__" : Str)) = false := by decide)
    (he : starEach [a, b] X.env = (false, eval a X.env) :: starEach [b] X.env := by rfl) (hb' : starEach [b] X.env = (false, eval b X.env) :: starEach [] X.env := by rfl) : GE w X (.Call (.Name x px) [a, b] [] pos) (k2 p f f') :=
  pe_imp (pe_callB hc hg hm hv (pa_cons ha (pa_cons hb pa_nil hb') he) hn hdb he (by rw [hb'] <;> rfl)) fun _ _ _ h => tE_2 u h
end
end KV

set_option Elab.async false
set_option linter.all false
set_option maxRecDepth 100000
set_option maxHeartbeats 1000000
/-! KVD: operators, comparisons, subscripts, built-in functions on data. -/
namespace KV
open PySem L2
open PySem.Spec PyProof.Rows

/-- a context in order -/
structure Cok (w : Wd) (k : Nat) (X : Cx) : Prop where
  K : X.K = w.K
  calm : X.calm = true
  nd : X.N.Nodup
  room : Room k X.A
  gd : X.A.guards = some []
theorem Cok.u {w : Wd} {k : Nat} {X : Cx} (c : Cok w k X) : X.A.units + 150 < cLine := by have := c.room.un; omega
theorem szOk_le {n : Nat} (h : szOk n = true) : n ≤ 16000000 := of_decide_eq_true h
theorem sz_line {n : Nat} (h : n ≤ 16000000) : n ≤ sizeLine := by rw [sizeLine_eq]; omega

/-! ### data as HandS has it -/
section
variable {K : PySem.W.Frag} {H : Hp}
mutual
theorem Rp.dp : ∀ {v : V} {d : D}, Rp K H v d → d.canLay0 = true → Dp K H v d
  | _, _, .non, _ => .non
  | _, _, .bl b, _ => .bl b
  | _, _, .int i, _ => .int i
  | _, _, .str x, _ => .str x
  | _, _, .lst h r, c => .lst (SqL.of h) (RpA.dp r (by simpa only [PyData.canLay0] using c))
  | _, _, .tup h r, c => .tup h.sq (RpA.dp r (by simpa only [PyData.canLay0] using c))
  | _, _, .dct _ _, c => by simp only [PyData.canLay0] at c; cases c
theorem RpA.dp : ∀ {vs : List V} {ds : List D}, RpA K H vs ds → PyData.canLayAll0 ds = true → DpAll K H vs ds
  | _, _, .nil, _ => .nil
  | _, _, .cons h r, c => by
    simp only [PyData.canLayAll0, Bool.and_eq_true] at c
    exact .cons (h.dp c.1) (RpA.dp r c.2)
end
theorem Rw.dp {Hf : Hp} {v : V} {d : D} (r : Rw K Hf H v d) (s : Sub Hf H) (c : d.canLay0 = true) : Dp K H v d := by
  cases r with
  | st r => exact (r.mono s).dp c
  | lst h r => exact .lst (SqL.of h) ((r.mono s).dp (by simpa only [PyData.canLay0] using c))
  | dct h r => simp only [PyData.canLay0] at c; cases c
end
theorem eqOk_lay {d : D} (h : eqOk d = true) : d.canLay0 = true := by
  have h : (d.canLay0 && decide (d.depth ≤ 64)) = true := h
  rw [Bool.and_eq_true] at h
  exact h.1

section
variable {w : Wd} {k : Nat} {X : Cx}

/-! ### + -/
def rCatF (K : PySem.W.Frag) : R2 := fun x y H Q => ∃ a b xs ys, x = .ref a ∧ y = .ref b ∧ STup K H a xs ∧ STup K H b ys ∧ xs.length + ys.length ≤ sizeLine ∧ (xs = [] → Q (.ref b) H) ∧
  (xs ≠ [] → ys = [] → Q (.ref a) H) ∧ (xs ≠ [] → ys ≠ [] → ∀ p, H p = none → ∀ o : Obj, o.dict = none → Q (.ref p) (upd H p (.frz o (.tup (xs ++ ys)))))
theorem op_catF : OpR X (binaryOp .Add) (rCatF X.K) := by
  intro pins s σ H x y v u Q I rx ry ⟨a, b, xs, ys, ex, ey, ha, hb, hz, q0, q1, q2⟩
  subst ex ey
  cases rx
  cases ry
  obtain ⟨ia, ra, pa, _⟩ := I.tuple ha.sq
  obtain ⟨ib, rb, pb, _⟩ := I.tuple hb.sq
  by_cases hx : xs = []
  · subst hx
    cases ra
    exact cat_tup0 pa pb ⟨.ref b, H, I, rfl, q0 rfl⟩
  · refine HT.cat_tup pa pb (fun z => hx (ra.nil_iff.mp z)) (fun z => ⟨.ref a, H, I, rfl, q1 hx (rb.nil_iff.mp z)⟩) (fun z => ?_) (by rw [← ra.length, ← rb.length]; exact hz)
    have hl := I.laid (t' := s.toks) (a := s.heap.objs.size) (h' := s.heap.push { cls := .type "tuple", data := .seq (ia ++ ib).toArray }) (o := .frz { cls := .type "tuple", data := .seq (ia ++ ib).toArray } (.tup (xs ++ ys))) (fun c ob q => Heap.get?_push_of_some _ q) (Nat.le_refl _)
      ⟨Heap.get?_push_size _ rfl, by rw [List.length_append]; exact hz, _, ra.append rb, IsTup.new _ _⟩
    exact ⟨.ref s.heap.objs.size, _, hl, rfl, q2 hx (fun z' => z (rb.nil_iff.mpr z')) _ (I.hok.fresh (Nat.le_refl _)) _ rfl⟩
def rAddS : R2 := fun x y H Q => ∃ i j, x = .str i ∧ y = .str j ∧ i.length + j.length ≤ sizeLine ∧ Q (.str (i ++ j)) H
def rAdd (K : PySem.W.Frag) : R2 := fun x y H Q => (rI0 (fun i j => .int (i + j))) x y H Q ∨ rAddS x y H Q ∨ rCatF K x y H Q ∨ rCat x y H Q
theorem op_addA : OpR X (binaryOp .Add) (rAdd X.K) := OpR.or op_add (OpR.or op_add_str (OpR.or op_catF op_cat))
theorem u_add (c : Cok w k X) : U2 w (rAdd X.K) pAdd := by
  intro σ H Hf s φ v u d e l Q g r1 r2 hp q
  unfold pAdd at hp
  split at hp
  · cases hp
    exact .inl ⟨_, _, r1.int, r2.int, q.d g (.int _)⟩
  · split at hp
    · rename_i hz
      cases hp
      exact .inr (.inl ⟨_, _, r1.str, r2.str, sz_line (szOk_le hz), q.d g (.str _)⟩)
    · cases hp
  · split at hp
    · rename_i hz
      cases hp
      have t1 := r1.tupR
      have t2 := r2.tupR
      obtain ⟨a, xs, rfl, ha, r1⟩ := r1.tup g.sub
      obtain ⟨b, ys, rfl, hb, r2⟩ := r2.tup g.sub
      rw [← c.K] at ha hb
      refine .inr (.inr (.inl ⟨a, b, xs, ys, rfl, rfl, ha, hb, by rw [r1.length, r2.length]; exact sz_line (szOk_le hz), fun e => ?_, fun _ e => ?_, fun _ _ p hp o ho => q.tup g (r1.append r2) hp ho⟩))
      · subst e
        cases r1
        exact q.d g t2
      · subst e
        cases r2
        rw [List.append_nil] at q
        exact q.d g t1
    · cases hp
  · split at hp
    · rename_i hz
      cases hp
      obtain ⟨a, xs, rfl, ha, r1⟩ := r1.list g.sub
      obtain ⟨b, ys, rfl, hb, r2⟩ := r2.list g.sub
      exact .inr (.inr (.inr ⟨a, b, xs, ys, rfl, rfl, ha, hb, by rw [r1.length, r2.length]; exact sz_line (szOk_le hz), fun p hp => q.lst g (r1.append r2) hp⟩))
    · cases hp
  · cases hp
theorem ge_add (c : Cok w k X) {pos : Pos} {a b : Expr} {f f' : EV} (ha : GE w X a f) (hb : GE w X b f') : GE w X (.BinOp a .Add b pos) (k2 pAdd f f') := ge_op op_addA (u_add c) ha hb

/-! ### -, *, %, // -/
theorem u_sub : U2 w (rI0 fun i j => .int (i - j)) pSub := by
  intro σ H Hf s φ v u d e l Q g r1 r2 hp q
  unfold pSub at hp
  split at hp
  · cases hp
    exact ⟨_, _, r1.int, r2.int, q.d g (.int _)⟩
  · cases hp
theorem ge_sub {pos : Pos} {a b : Expr} {f f' : EV} (ha : GE w X a f) (hb : GE w X b f') : GE w X (.BinOp a .Sub b pos) (k2 pSub f f') := ge_op op_sub u_sub ha hb
theorem u_mod : U2 w (rI (fun _ j => 0 < j) fun i j => .int (i % j)) pMod := by
  intro σ H Hf s φ v u d e l Q g r1 r2 hp q
  unfold pMod at hp
  split at hp
  · split at hp
    · rename_i h
      cases hp
      exact ⟨_, _, r1.int, r2.int, h, q.d g (.int _)⟩
    · cases hp
  · cases hp
theorem ge_mod {pos : Pos} {a b : Expr} {f f' : EV} (ha : GE w X a f) (hb : GE w X b f') : GE w X (.BinOp a .Mod b pos) (k2 pMod f f') := ge_op op_mod u_mod ha hb
theorem u_div : U2 w (rI CDiv fun i j => .int (i / j)) pDiv := by
  intro σ H Hf s φ v u d e l Q g r1 r2 hp q
  unfold pDiv at hp
  split at hp
  · split at hp
    · rename_i h
      cases hp
      exact ⟨_, _, r1.int, r2.int, ⟨h.1, by omega⟩, q.d g (.int _)⟩
    · cases hp
  · cases hp
theorem ge_div {pos : Pos} {a b : Expr} {f f' : EV} (ha : GE w X a f) (hb : GE w X b f') : GE w X (.BinOp a .FloorDiv b pos) (k2 pDiv f f') := ge_op op_fdiv u_div ha hb
theorem u_neg : U1 w (rU fun i => .int (-i)) pNeg := by
  intro σ H Hf s φ v d l Q g r hp q
  unfold pNeg at hp
  split at hp
  · cases hp
    exact ⟨_, r.int, q.d g (.int _)⟩
  · cases hp
theorem ge_neg {pos : Pos} {a : Expr} {f : EV} (ha : GE w X a f) : GE w X (.UnaryOp .USub a pos) (k1 pNeg f) := ge_un un_neg u_neg ha

/-! ### comparisons -/
theorem u_eq (c : Cok w k X) : U2 w (rEqD X.K) pEq := by
  intro σ H Hf s φ v u d e l Q g r1 r2 hp q
  unfold pEq at hp
  split at hp
  · rename_i h
    rw [Bool.and_eq_true] at h
    cases hp
    rw [c.K]
    exact ⟨d, e, r1.dp g.sub (eqOk_lay h.1), r2.dp g.sub (eqOk_lay h.2), h.1, h.2, q.d g (.bl _)⟩
  · cases hp
theorem ge_eq (c : Cok w k X) {pos : Pos} {a b : Expr} {f f' : EV} (ha : GE w X a f) (hb : GE w X b f') (hm : behindInMarks .Eq b = false := by rfl) : GE w X (.Compare a [.Eq] [b] pos) (k2 pEq f f') :=
  ge_cmp (op_eqD (by have := c.u; omega)) (u_eq c) ha hb hm
theorem u_ne (c : Cok w k X) : U2 w (rNeD X.K) pNe := by
  intro σ H Hf s φ v u d e l Q g r1 r2 hp q
  unfold pNe at hp
  split at hp
  · rename_i h
    rw [Bool.and_eq_true] at h
    cases hp
    rw [c.K]
    exact ⟨d, e, r1.dp g.sub (eqOk_lay h.1), r2.dp g.sub (eqOk_lay h.2), h.1, h.2, q.d g (.bl _)⟩
  · cases hp
theorem ge_ne (c : Cok w k X) {pos : Pos} {a b : Expr} {f f' : EV} (ha : GE w X a f) (hb : GE w X b f') (hm : behindInMarks .NotEq b = false := by rfl) : GE w X (.Compare a [.NotEq] [b] pos) (k2 pNe f f') :=
  ge_cmp (op_neD (by have := c.u; omega)) (u_ne c) ha hb hm
def rCmp (p : Int → Int → Bool) (q : Str → Str → Bool) : R2 := fun x y H Q => (rI0 (fun i j => .bl (p i j))) x y H Q ∨ (∃ i j, x = .str i ∧ y = .str j ∧ Q (.bl (q i j)) H)
theorem o_lt : OpR X (compareOp .Lt) (rCmp (fun i j => decide (i < j)) fun i j => decide (i.cps.toList < j.cps.toList)) := OpR.or op_lt op_lt_str
theorem o_le : OpR X (compareOp .LtE) (rCmp (fun i j => decide (i ≤ j)) fun i j => !decide (j.cps.toList < i.cps.toList)) := OpR.or op_le op_le_str
theorem o_gt : OpR X (compareOp .Gt) (rCmp (fun i j => decide (j < i)) fun i j => decide (j.cps.toList < i.cps.toList)) := OpR.or op_gt op_gt_str
theorem o_ge : OpR X (compareOp .GtE) (rCmp (fun i j => decide (j ≤ i)) fun i j => !decide (i.cps.toList < j.cps.toList)) := OpR.or op_ge op_ge_str
theorem u_cmp {P : D → D → R L} {p : Int → Int → Bool} {q : Str → Str → Bool} (h : ∀ d e l, P d e = .ok l → (∃ i j, d = .int i ∧ e = .int j ∧ l = .d (.bool (p i j))) ∨ ∃ i j, d = .str i ∧ e = .str j ∧ l = .d (.bool (q i j))) : U2 w (rCmp p q) P := by
  intro σ H Hf s φ v u d e l Q g r1 r2 hp qq
  rcases h d e l hp with ⟨i, j, rfl, rfl, rfl⟩ | ⟨i, j, rfl, rfl, rfl⟩
  · exact .inl ⟨i, j, r1.int, r2.int, qq.d g (.bl _)⟩
  · exact .inr ⟨i, j, r1.str, r2.str, qq.d g (.bl _)⟩
theorem u_lt : U2 w (rCmp (fun i j => decide (i < j)) fun i j => decide (i.cps.toList < j.cps.toList)) pLt := u_cmp fun d e l h => by
  unfold pLt at h
  split at h
  · cases h; exact .inl ⟨_, _, rfl, rfl, rfl⟩
  · cases h; exact .inr ⟨_, _, rfl, rfl, rfl⟩
  · cases h
theorem u_le : U2 w (rCmp (fun i j => decide (i ≤ j)) fun i j => !decide (j.cps.toList < i.cps.toList)) pLe := u_cmp fun d e l h => by
  unfold pLe at h
  split at h
  · cases h; exact .inl ⟨_, _, rfl, rfl, rfl⟩
  · cases h; exact .inr ⟨_, _, rfl, rfl, rfl⟩
  · cases h
theorem u_gt : U2 w (rCmp (fun i j => decide (j < i)) fun i j => decide (j.cps.toList < i.cps.toList)) pGt := u_cmp fun d e l h => by
  unfold pGt at h
  split at h
  · cases h; exact .inl ⟨_, _, rfl, rfl, rfl⟩
  · cases h; exact .inr ⟨_, _, rfl, rfl, rfl⟩
  · cases h
theorem u_ge : U2 w (rCmp (fun i j => decide (j ≤ i)) fun i j => !decide (i.cps.toList < j.cps.toList)) pGe := u_cmp fun d e l h => by
  unfold pGe at h
  split at h
  · cases h; exact .inl ⟨_, _, rfl, rfl, rfl⟩
  · cases h; exact .inr ⟨_, _, rfl, rfl, rfl⟩
  · cases h
section
variable {pos : Pos} {a b : Expr} {f f' : EV}
theorem ge_lt (ha : GE w X a f) (hb : GE w X b f') (hm : behindInMarks .Lt b = false := by rfl) : GE w X (.Compare a [.Lt] [b] pos) (k2 pLt f f') := ge_cmp o_lt u_lt ha hb hm
theorem ge_le (ha : GE w X a f) (hb : GE w X b f') (hm : behindInMarks .LtE b = false := by rfl) : GE w X (.Compare a [.LtE] [b] pos) (k2 pLe f f') := ge_cmp o_le u_le ha hb hm
theorem ge_gt (ha : GE w X a f) (hb : GE w X b f') (hm : behindInMarks .Gt b = false := by rfl) : GE w X (.Compare a [.Gt] [b] pos) (k2 pGt f f') := ge_cmp o_gt u_gt ha hb hm
theorem ge_ge (ha : GE w X a f) (hb : GE w X b f') (hm : behindInMarks .GtE b = false := by rfl) : GE w X (.Compare a [.GtE] [b] pos) (k2 pGe f f') := ge_cmp o_ge u_ge ha hb hm
end
theorem Rw.isN {K : PySem.W.Frag} {H Hf : Hp} {v : V} {d : D} (r : Rw K Hf H v d) : decide (v = .non) = isNone d := by
  cases r with
  | st r => cases r <;> rfl
  | lst _ _ => rfl
  | dct _ _ => rfl
theorem ge_isN {pos p2 : Pos} {j : Nat} {a : Expr} {f : EV} (ha : GE w X a f) : GE w X (.Compare a [.Is] [.Constant .none j p2] pos) (k1 pIsN f) :=
  pe_imp (pe_cmpR op_isN ha pe_non rfl) fun σ H Q h => tE_1 (r := fun v H1 Q => V.non = .non ∧ Q (.bl (decide (v = .non))) H1) (fun σ H Hf s φ v d l Q g r hp q => by
    cases hp
    rw [r.isN]
    exact ⟨rfl, q.d g (.bl _)⟩) h
theorem ge_notN {pos p2 : Pos} {j : Nat} {a : Expr} {f : EV} (ha : GE w X a f) : GE w X (.Compare a [.IsNot] [.Constant .none j p2] pos) (k1 pNotN f) :=
  pe_imp (pe_cmpR op_notN ha pe_non rfl) fun σ H Q h => tE_1 (r := fun v H1 Q => V.non = .non ∧ Q (.bl (!decide (v = .non))) H1) (fun σ H Hf s φ v d l Q g r hp q => by
    cases hp
    rw [r.isN]
    exact ⟨rfl, q.d g (.bl _)⟩) h
theorem ge_isB {pos p2 : Pos} {j : Nat} {b : Bool} {a : Expr} {f : EV} (ha : GE w X a f) : GE w X (.Compare a [.Is] [.Constant (.bool b) j p2] pos) (k1 (pIsB b) f) :=
  pe_imp (pe_cmpR op_isBl ha pe_bl rfl) fun σ H Q h => tE_1 (r := fun v H1 Q => rIsB v (.bl b) H1 Q) (fun σ H Hf s φ v d l Q g r hp q => by
    unfold pIsB at hp
    split at hp
    · cases hp
      exact ⟨_, _, r.bool, rfl, q.d g (.bl _)⟩
    · cases hp) h
theorem ge_notB {pos p2 : Pos} {j : Nat} {b : Bool} {a : Expr} {f : EV} (ha : GE w X a f) : GE w X (.Compare a [.IsNot] [.Constant (.bool b) j p2] pos) (k1 (pNotB b) f) :=
  pe_imp (pe_cmpR op_notBl ha pe_bl rfl) fun σ H Q h => tE_1 (r := fun v H1 Q => rNotB v (.bl b) H1 Q) (fun σ H Hf s φ v d l Q g r hp q => by
    unfold pNotB at hp
    split at hp
    · cases hp
      exact ⟨_, _, r.bool, rfl, q.d g (.bl _)⟩
    · cases hp) h

/-! ### dicts: what stands at a key -/
theorem keyOf_some {d : D} {c : Key} (h : keyOf d = some c) : d = keyD c := by
  unfold keyOf at h
  split at h <;> cases h <;> rfl
theorem key_eqv (a b : Key) : PyData.eqv (keyD a) (keyD b) = decide (a = b) := by
  cases a <;> cases b
  · rename_i i j
    show (i == j) = decide ((Sum.inl i : Key) = Sum.inl j)
    by_cases e : i = j
    · subst e; simp
    · rw [decide_eq_false (fun z => e (Sum.inl.inj z))]; exact beq_eq_false_iff_ne.mpr e
  · show false = _
    exact (decide_eq_false fun z => nomatch z).symm
  · show false = _
    exact (decide_eq_false fun z => nomatch z).symm
  · rename_i i j
    show (i == j) = decide ((Sum.inr i : Key) = Sum.inr j)
    by_cases e : i = j
    · subst e; simp
    · rw [decide_eq_false (fun z => e (Sum.inr.inj z))]; exact beq_eq_false_iff_ne.mpr e
theorem Rw.key {K : PySem.W.Frag} {H Hf : Hp} {v : V} {c : Key} (r : Rw K Hf H v (keyD c)) : v = kV c := by
  cases c
  · exact r.int
  · exact r.str
theorem lookD_cons (k d : D) (r : List (D × D)) (c : D) : lookD ((k, d) :: r) c = if PyData.eqv k c = true then some d else lookD r c := by
  unfold lookD
  rw [List.find?_cons]
  cases h : PyData.eqv (k, d).1 c with
  | true => rfl
  | false => rfl
section
variable {K : PySem.W.Frag} {H : Hp}
theorem RpKv.look : ∀ {kvs : List (Key × V)} {ds : List (D × D)} (c : Key), RpKv K H kvs ds → (lookD ds (keyD c) = none ∧ valV kvs c = none) ∨ ∃ d v, lookD ds (keyD c) = some d ∧ valV kvs c = some v ∧ Rp K H v d
  | _, _, _, .nil => .inl ⟨rfl, rfl⟩
  | _, _, c, .cons (k := k) (v := v) (d := d) (kvs := kvs) (ds := ds) r t => by
    rw [lookD_cons, key_eqv]
    by_cases e : k = c
    · rw [if_pos (decide_eq_true e)]
      exact .inr ⟨d, v, rfl, valV_pos (p := (k, v)) e, r⟩
    · rw [if_neg (by rw [decide_eq_false e]; exact Bool.false_ne_true), valV_neg (p := (k, v)) e]
      exact RpKv.look c t
theorem RpKv.has : ∀ {kvs : List (Key × V)} {ds : List (D × D)} (c : Key), RpKv K H kvs ds → hasB ds (keyD c) = (valV kvs c).isSome
  | _, _, _, .nil => rfl
  | _, _, c, .cons (k := k) (v := v) (d := d) r t => by
    have ih := RpKv.has c t
    unfold hasB at ih ⊢
    rw [List.any_cons, ih]
    show (PyData.eqv (keyD k) (keyD c) || _) = _
    rw [key_eqv]
    by_cases e : k = c
    · rw [decide_eq_true e, valV_pos (p := (k, v)) e]; rfl
    · rw [decide_eq_false e, valV_neg (p := (k, v)) e]; rfl
theorem RpKv.append : ∀ {kvs ks : List (Key × V)} {ds es : List (D × D)}, RpKv K H kvs ds → RpKv K H ks es → RpKv K H (kvs ++ ks) (ds ++ es)
  | _, _, _, _, .nil, r => r
  | _, _, _, _, .cons h t, r => .cons h (RpKv.append t r)
theorem RpKv.map {c : Key} {x : V} {y : D} (hx : Rp K H x y) : ∀ {kvs : List (Key × V)} {ds : List (D × D)}, RpKv K H kvs ds →
    RpKv K H (kvs.map fun kv => if kv.1 = c then (kv.1, x) else kv) (ds.map fun p => if PyData.eqv p.1 (keyD c) then (p.1, y) else p)
  | _, _, .nil => .nil
  | _, _, .cons (k := k) (v := v) (d := d) r t => by
    have ih := RpKv.map (c := c) hx t
    rw [List.map_cons, List.map_cons]
    simp only [key_eqv]
    by_cases e : k = c
    · rw [if_pos e, if_pos (decide_eq_true e)]
      exact .cons hx ih
    · rw [if_neg e, if_neg (by rw [decide_eq_false e]; exact Bool.false_ne_true)]
      exact .cons r ih
theorem RpKv.put {kvs : List (Key × V)} {ds : List (D × D)} {x : V} {y : D} (c : Key) (r : RpKv K H kvs ds) (hx : Rp K H x y) : RpKv K H (putK kvs c x) (putD ds (keyD c) y) := by
  unfold putK putD
  rw [r.has c, valV_any]
  cases (valV kvs c).isSome with
  | true => rw [if_pos rfl, if_pos rfl]; exact r.map hx
  | false => rw [if_neg Bool.false_ne_true, if_neg Bool.false_ne_true]; exact r.append (.cons hx .nil)
theorem RpKv.keys : ∀ {kvs : List (Key × V)} {ds : List (D × D)}, RpKv K H kvs ds → RpA K H (kvs.map fun kv => kV kv.1) (ds.map (·.1))
  | _, _, .nil => .nil
  | _, _, .cons (k := k) r t => by
    refine .cons ?_ (RpKv.keys t)
    cases k
    · exact .int _
    · exact .str _
end

/-! ### in -/
def rInT (K : PySem.W.Frag) (neg : Bool) : R2 := fun x y H Q => ∃ d ds, Dp K H x d ∧ Dp K H y (.tuple ds) ∧ SeqAt.shaped d = true ∧ SeqAt.shaped (.tuple ds) = true ∧ Q (.bl (if neg then !(inB d ds) else inB d ds)) H
theorem op_inT (c : Cok w k X) : OpR X (compareOp .In) (rInT X.K false) := by
  intro pins s σ H x y v u Q I rx ry ⟨d, ds, hd, he, sd, se, q⟩
  obtain ⟨as, r1⟩ := Dp.reads I d x v hd rx
  obtain ⟨bs, r2⟩ := Dp.reads I (.tuple ds) y u he ry
  have hu : X.A.units + 65 < cLine := by have := c.u; omega
  exact SeqAt.in_tuple_reads r2 r1 (by have := SeqAt.canLay_of_shaped se; simpa only [PyData.canLay0] using this) (SeqAt.canLay_of_shaped sd) (room_in_shaped sd hu) ⟨.bl _, H, I, rfl, q⟩
theorem op_notInT (c : Cok w k X) : OpR X (compareOp .NotIn) (rInT X.K true) := by
  intro pins s σ H x y v u Q I rx ry ⟨d, ds, hd, he, sd, se, q⟩
  obtain ⟨as, r1⟩ := Dp.reads I d x v hd rx
  obtain ⟨bs, r2⟩ := Dp.reads I (.tuple ds) y u he ry
  have hu : X.A.units + 65 < cLine := by have := c.u; omega
  exact SeqAt.notIn_tuple_reads r2 r1 (by have := SeqAt.canLay_of_shaped se; simpa only [PyData.canLay0] using this) (SeqAt.canLay_of_shaped sd) (room_in_shaped sd hu) ⟨.bl _, H, I, rfl, q⟩
def rInDict (neg : Bool) : R2 := fun x y H Q => ∃ a o, y = .ref a ∧ DGet H a x o ∧ Q (.bl (if neg then !o.isSome else o.isSome)) H
theorem op_inDict (c : Cok w k X) : OpR X (compareOp .In) (rInDict false) := by
  intro pins s σ H x y v u Q I rx ry ⟨a, o, ey, g, q⟩
  subst ey
  cases ry
  exact d_in (by have := c.u; omega) I g rx fun s' I' => ⟨.bl o.isSome, H, I', rfl, q⟩
theorem op_notInDict (c : Cok w k X) : OpR X (compareOp .NotIn) (rInDict true) := by
  intro pins s σ H x y v u Q I rx ry ⟨a, o, ey, g, q⟩
  subst ey
  cases ry
  exact d_notIn (by have := c.u; omega) I g rx fun s' I' => ⟨.bl (!o.isSome), H, I', rfl, q⟩
def rInS (neg : Bool) : R2 := fun x y H Q => ∃ i j, x = .str i ∧ y = .str j ∧ Q (.bl (if neg then !(!(Builtin.Str.occurrences j i 0 j.length 1).isEmpty) else !(Builtin.Str.occurrences j i 0 j.length 1).isEmpty)) H
def rInL (K : PySem.W.Frag) (neg : Bool) : R2 := fun x y H Q => ∃ d ds, Dp K H x d ∧ Dp K H y (.list ds) ∧ SeqAt.shaped d = true ∧ SeqAt.shaped (.list ds) = true ∧ Q (.bl (if neg then !(inB d ds) else inB d ds)) H
def rInA (K : PySem.W.Frag) (neg : Bool) : R2 := fun x y H Q => rInL K neg x y H Q ∨ rInT K neg x y H Q ∨ rInDict neg x y H Q ∨ rInS neg x y H Q
theorem op_inA (c : Cok w k X) : OpR X (compareOp .In) (rInA X.K false) := OpR.or (op_inD (by have := c.u; omega)) (OpR.or (op_inT c) (OpR.or (op_inDict c) op_in_str))
theorem op_notInA (c : Cok w k X) : OpR X (compareOp .NotIn) (rInA X.K true) := OpR.or (op_notInD (by have := c.u; omega)) (OpR.or (op_notInT c) (OpR.or (op_notInDict c) op_notin_str))
theorem u_inN (c : Cok w k X) (neg : Bool) {P : D → D → R L} (hP : ∀ d e l, P d e = .ok l → ∃ b, pIn d e = .ok (.d (.bool b)) ∧ l = .d (.bool (if neg then !b else b))) : U2 w (rInA X.K neg) P := by
  intro σ H Hf s φ v u d e l Q g r1 r2 hp q
  obtain ⟨b, hp', el⟩ := hP d e l hp
  clear hp
  subst el
  unfold pIn at hp'
  split at hp'
  · split at hp'
    · rename_i h
      rw [Bool.and_eq_true] at h
      cases hp'
      rw [c.K]
      exact .inl ⟨_, _, r1.dp g.sub (eqOk_lay h.1), r2.dp g.sub (eqOk_lay h.2), h.1, h.2, q.d g (.bl _)⟩
    · cases hp'
  · split at hp'
    · rename_i h
      rw [Bool.and_eq_true] at h
      cases hp'
      rw [c.K]
      exact .inr (.inl ⟨_, _, r1.dp g.sub (eqOk_lay h.1), r2.dp g.sub (eqOk_lay h.2), h.1, h.2, q.d g (.bl _)⟩)
    · cases hp'
  · split at hp'
    · rename_i h
      obtain ⟨ky, hk⟩ := Option.isSome_iff_exists.mp h
      cases hp'
      have e := keyOf_some hk
      subst e
      obtain ⟨a, kvs, rfl, ha, r2⟩ := r2.dict g.sub
      rw [r2.has ky] at q
      have ev := r1.key
      subst ev
      exact .inr (.inr (.inl ⟨a, _, rfl, .inl ⟨_, _, ha, rfl, rfl⟩, q.d g (.bl _)⟩))
    · cases hp'
  · cases hp'
    exact .inr (.inr (.inr ⟨_, _, r1.str, r2.str, q.d g (.bl _)⟩))
  · cases hp'
theorem pIn_bool {d e : D} {l : L} (h : pIn d e = .ok l) : ∃ b, l = .d (.bool b) := by
  unfold pIn at h
  split at h
  · split at h
    · cases h; exact ⟨_, rfl⟩
    · cases h
  · split at h
    · cases h; exact ⟨_, rfl⟩
    · cases h
  · split at h
    · cases h; exact ⟨_, rfl⟩
    · cases h
  · cases h; exact ⟨_, rfl⟩
  · cases h
theorem ge_in (c : Cok w k X) {pos : Pos} {a b : Expr} {f f' : EV} (ha : GE w X a f) (hb : GE w X b f') (hm : behindInMarks .In b = false := by rfl) : GE w X (.Compare a [.In] [b] pos) (k2 pIn f f') :=
  ge_cmp (op_inA c) (u_inN c false fun d e l h => by obtain ⟨b, rfl⟩ := pIn_bool h; exact ⟨b, h, rfl⟩) ha hb hm
theorem ge_notIn (c : Cok w k X) {pos : Pos} {a b : Expr} {f f' : EV} (ha : GE w X a f) (hb : GE w X b f') (hm : behindInMarks .NotIn b = false := by rfl) : GE w X (.Compare a [.NotIn] [b] pos) (k2 pNotIn f f') :=
  ge_cmp (op_notInA c) (u_inN c true fun d e l h => by
    unfold pNotIn at h
    obtain ⟨l', h1, h2⟩ := R.bind_eq_ok.mp h
    obtain ⟨b, rfl⟩ := pIn_bool h1
    cases h2
    exact ⟨b, h1, rfl⟩) ha hb hm

/-! ### subscripts -/
def rIxDict : R2 := fun x y H Q => ∃ a v, x = .ref a ∧ DGet H a y (some v) ∧ Q v H
theorem ix_dict (c : Cok w k X) : IxR X rIxDict := by
  intro value slice pins s σ H x y v u Q I rx ry ⟨a, z, ex, g, q⟩ hs
  subst ex
  cases rx
  exact tail_any (dict_typeIs I g) PySem.F.slot_dict_getitem.lookup (d_getItem (by have := c.u; omega) I g ry fun w' s' I' rw' => ⟨z, H, I', rw', q⟩) hs
def rIxA (K : PySem.W.Frag) : R2 := fun x y H Q => rIxL K x y H Q ∨ rIxT K x y H Q ∨ rIxDict x y H Q
theorem ix_all (c : Cok w k X) : IxR X (rIxA X.K) := IxR.or ix_list (IxR.or ix_tup (ix_dict c))
theorem atI_of {vs : List V} {xs : List D} {i : Int} {d : D} {K : PySem.W.Frag} {H : Hp} (r : RpA K H vs xs) (h : (ixD xs.length i).bind (fun j => xs[j]?) = some d) : ∃ v, atI vs i = some v ∧ Rp K H v d := by
  unfold atI
  rw [r.length]
  unfold ixD at h
  cases e : ixN xs.length i with
  | none => rw [e] at h; cases h
  | some j =>
    rw [e] at h
    obtain ⟨v, h1, h2⟩ := r.get (i := j) h
    exact ⟨v, h1, h2⟩
theorem optD_ok {o : Option D} {l : L} (h : optD o = .ok l) : ∃ d, o = some d ∧ l = .d d := by
  cases o with
  | none => cases h
  | some d => cases h; exact ⟨d, rfl, rfl⟩
theorem u_ix (c : Cok w k X) : U2 w (rIxA X.K) pIx := by
  intro σ H Hf s φ v u d e l Q g r1 r2 hp q
  unfold pIx at hp
  split at hp
  · obtain ⟨d, h, rfl⟩ := optD_ok hp
    obtain ⟨a, vs, rfl, ha, r1⟩ := r1.list g.sub
    obtain ⟨x, h1, h2⟩ := atI_of r1 h
    exact .inl ⟨a, vs, _, x, rfl, r2.int, SqL.of ha, h1, q.d g h2⟩
  · obtain ⟨d, h, rfl⟩ := optD_ok hp
    obtain ⟨a, vs, rfl, ha, r1⟩ := r1.tup g.sub
    obtain ⟨x, h1, h2⟩ := atI_of r1 h
    rw [c.K]
    exact .inr (.inl ⟨a, vs, _, x, rfl, r2.int, ha.sq, h1, q.d g h2⟩)
  · split at hp
    · rename_i h
      obtain ⟨ky, hk⟩ := Option.isSome_iff_exists.mp h
      obtain ⟨d, h, rfl⟩ := optD_ok hp
      have e := keyOf_some hk
      subst e
      obtain ⟨a, kvs, rfl, ha, r1⟩ := r1.dict g.sub
      have ev := r2.key
      subst ev
      rcases r1.look ky with ⟨h1, h2⟩ | ⟨d', v', h1, h2, h3⟩
      · rw [h1] at h; cases h
      · rw [h1] at h; cases h
        exact .inr (.inr ⟨a, v', rfl, .inl ⟨_, _, ha, rfl, h2.symm⟩, q.d g h3⟩)
    · cases hp
  · cases hp
theorem ge_ix (c : Cok w k X) {pos : Pos} {a b : Expr} {f f' : EV} (ha : GE w X a f) (hb : GE w X b f') (hs : PlainIx b := by exact fun _ _ => rfl) : GE w X (.Subscript a b pos) (k2 pIx f f') :=
  pe_imp (pe_ix (ix_all c) ha hb hs) fun _ _ _ h => tE_2 (u_ix c) h
end
end KV

set_option Elab.async false
set_option linter.all false
set_option maxRecDepth 100000
set_option maxHeartbeats 1000000
/-! KVE: slices, built-in functions, displays, tests. -/
namespace KV
open PySem L2
open PySem.Spec PyProof.Rows

section
variable {w : Wd} {k : Nat} {X : Cx} {pos : Pos} {σ : L2.St} {H Hf : Hp} {s s' : Sl} {φ : Nat → List Addr} {Q : VK}

/-! ### and, or, not, a if t else b -/
theorem kG_ok {f : EV} {d : D} (h : kG f s = .ok (d, s')) : ∃ l, f s = .ok (l, s') ∧ l.get s' = .ok d := by
  obtain ⟨⟨l, s1⟩, h1, h2⟩ := R.bind_eq_ok.mp h
  obtain ⟨d', h3, h4⟩ := R.bind_eq_ok.mp h2
  cases h4
  exact ⟨l, h1, h3⟩
theorem boolOf_ok {d : D} {b : Bool} (h : boolOf d = .ok b) : d = .bool b := by
  unfold boolOf at h
  split at h
  · cases h; rfl
  · cases h
theorem ge_and {a b : Expr} {rest : List Expr} {f f' : EV} (ha : GE w X a f) (hb : GE w X (.BoolOp .And (b :: rest) pos) f') : GE w X (.BoolOp .And (a :: b :: rest) pos) (kAnd f f') := by
  refine pe_imp (pe_and ha hb) fun σ H Q => ?_
  rintro ⟨Hf, s, φ, l, s', g, e, q⟩
  obtain ⟨⟨d, s1⟩, h1, h2⟩ := R.bind_eq_ok.mp e
  obtain ⟨c, h3, h4⟩ := R.bind_eq_ok.mp h2
  obtain ⟨l1, h5, h6⟩ := kG_ok h1
  cases boolOf_ok h3
  refine ⟨Hf, s, φ, l1, s1, g, h5, fun v H1 Hf1 φ1 F1 g1 r1 k1 => ⟨c, (r1.rw g1 h6).bool, ?_⟩⟩
  have q1 := q.later k1 (fun a => .inl) g1
  cases c with
  | true =>
    rw [if_pos rfl]
    exact ⟨Hf1, s1, φ1, l, s', g1, h4, q1⟩
  | false =>
    rw [if_neg Bool.false_ne_true]
    cases h4
    exact q1.d g1 (.bl _)
theorem ge_or {a b : Expr} {rest : List Expr} {f f' : EV} (ha : GE w X a f) (hb : GE w X (.BoolOp .Or (b :: rest) pos) f') : GE w X (.BoolOp .Or (a :: b :: rest) pos) (kOr f f') := by
  refine pe_imp (pe_or ha hb) fun σ H Q => ?_
  rintro ⟨Hf, s, φ, l, s', g, e, q⟩
  obtain ⟨⟨d, s1⟩, h1, h2⟩ := R.bind_eq_ok.mp e
  obtain ⟨c, h3, h4⟩ := R.bind_eq_ok.mp h2
  obtain ⟨l1, h5, h6⟩ := kG_ok h1
  cases boolOf_ok h3
  refine ⟨Hf, s, φ, l1, s1, g, h5, fun v H1 Hf1 φ1 F1 g1 r1 k1 => ⟨c, (r1.rw g1 h6).bool, ?_⟩⟩
  have q1 := q.later k1 (fun a => .inl) g1
  cases c with
  | true =>
    rw [if_pos rfl]
    cases h4
    exact q1.d g1 (.bl _)
  | false =>
    rw [if_neg Bool.false_ne_true]
    exact ⟨Hf1, s1, φ1, l, s', g1, h4, q1⟩
theorem ge_one {op : BoolOp} {a : Expr} {f : EV} (ha : GE w X a f) : GE w X (.BoolOp op [a] pos) f := pe_one ha
theorem ge_not {a : Expr} {f : EV} (ha : GE w X a f) : GE w X (.UnaryOp .Not a pos) (kNot f) := by
  refine pe_imp (pe_not ha) fun σ H Q => ?_
  rintro ⟨Hf, s, φ, l, s', g, e, q⟩
  obtain ⟨⟨d, s1⟩, h1, h2⟩ := R.bind_eq_ok.mp e
  obtain ⟨c, h3, h4⟩ := R.bind_eq_ok.mp h2
  obtain ⟨l1, h5, h6⟩ := kG_ok h1
  have ed := boolOf_ok h3
  simp only at ed
  subst ed
  cases h4
  exact ⟨Hf, s, φ, l1, _, g, h5, fun v H1 Hf1 φ1 F1 g1 r1 k1 => ⟨_, (r1.rw g1 h6).bool, (q.later k1 (fun a => .inl) g1).d g1 (.bl _)⟩⟩

/-! ### tests -/
theorem tB_val {f : EV} {Qb : Bool → Hp → Prop} (h : tB w (bVal f) σ H Qb) : tE w f σ H (fun v H' => ∃ c, v = .bl c ∧ Qb c H') := by
  obtain ⟨Hf, s, φ, b, s', g, e, q⟩ := h
  obtain ⟨⟨d, s1⟩, h1, h2⟩ := R.bind_eq_ok.mp e
  obtain ⟨c, h3, h4⟩ := R.bind_eq_ok.mp h2
  obtain ⟨l1, h5, h6⟩ := kG_ok h1
  cases boolOf_ok h3
  cases h4
  exact ⟨Hf, s, φ, l1, _, g, h5, fun v H1 Hf1 φ1 F1 g1 r1 k1 => ⟨_, (r1.rw g1 h6).bool, q H1 Hf1 φ1 g1 (k1.weak fun a => .inl)⟩⟩
theorem gb_val {e : Expr} {f : EV} (h : GE w X e f) (he : ∀ whole, isTrue e X.env whole = (do let v ← whole; standAt e.pos; holding [v] (truthy v)) := by intro _; rfl) : GB w X e (bVal f) :=
  pt_imp (pt_val h he) fun _ _ _ q => tB_val q
theorem pt_cmpE {op : CmpOp} {a b : Expr} {t : TE} (h : PT X (.Compare a [op] [b] pos) (tTest t)) : PT X (.Compare a [op] [b] pos) (L2.tB t) := pt_imp h fun _ _ _ q => q
/-- a comparison as a test -/
theorem gb_cmp {op : CmpOp} {r : R2} {p : D → D → R L} {a b : Expr} {f f' : EV} (ho : OpR X (compareOp op) r) (u : U2 w r p) (ha : GE w X a f) (hb : GE w X b f') (hm : behindInMarks op b = false) : GB w X (.Compare a [op] [b] pos) (bVal (k2 p f f')) :=
  pt_imp (pt_cmpR ho ha hb hm) fun σ H Q q => tE_2 u (tB_val q)
theorem gb_and {a b : Expr} {rest : List Expr} {f f' : BV} (ha : GB w X a f) (hb : GW w X (.BoolOp .And (b :: rest) pos) f') : GW w X (.BoolOp .And (a :: b :: rest) pos) (bAnd f f') := by
  refine pw_imp (pw_and ha hb) fun σ H Q => ?_
  rintro ⟨Hf, s, φ, b, s', g, e, q⟩
  obtain ⟨⟨c, s1⟩, h1, h2⟩ := R.bind_eq_ok.mp e
  refine ⟨Hf, s, φ, c, s1, g, h1, fun H1 Hf1 φ1 g1 k1 => ?_⟩
  cases c with
  | true =>
    rw [if_pos rfl]
    exact ⟨Hf1, s1, φ1, b, s', g1, h2, fun H2 Hf2 φ2 g2 k2 => q H2 Hf2 φ2 g2 (k1.trans k2 (fun _ => id) fun x hx => g1.own_free hx)⟩
  | false =>
    rw [if_neg Bool.false_ne_true]
    cases h2
    exact q H1 Hf1 φ1 g1 k1
theorem gb_or {a b : Expr} {rest : List Expr} {f f' : BV} (ha : GB w X a f) (hb : GW w X (.BoolOp .Or (b :: rest) pos) f') : GW w X (.BoolOp .Or (a :: b :: rest) pos) (bOr f f') := by
  refine pw_imp (pw_or ha hb) fun σ H Q => ?_
  rintro ⟨Hf, s, φ, b, s', g, e, q⟩
  obtain ⟨⟨c, s1⟩, h1, h2⟩ := R.bind_eq_ok.mp e
  refine ⟨Hf, s, φ, c, s1, g, h1, fun H1 Hf1 φ1 g1 k1 => ?_⟩
  cases c with
  | true =>
    rw [if_pos rfl]
    cases h2
    exact q H1 Hf1 φ1 g1 k1
  | false =>
    rw [if_neg Bool.false_ne_true]
    exact ⟨Hf1, s1, φ1, b, s', g1, h2, fun H2 Hf2 φ2 g2 k2 => q H2 Hf2 φ2 g2 (k1.trans k2 (fun _ => id) fun x hx => g1.own_free hx)⟩
theorem gb_and1 {a : Expr} {f : BV} (ha : GB w X a f) : GW w X (.BoolOp .And [a] pos) f := pw_and1 ha
theorem gb_or1 {a : Expr} {f : BV} (ha : GB w X a f) : GW w X (.BoolOp .Or [a] pos) f := pw_or1 ha
theorem gb_not {a : Expr} {f : BV} (ha : GB w X a f) : GB w X (.UnaryOp .Not a pos) (bNot f) := by
  refine pt_imp (pt_not ha) fun σ H Q => ?_
  rintro ⟨Hf, s, φ, b, s', g, e, q⟩
  obtain ⟨⟨c, s1⟩, h1, h2⟩ := R.bind_eq_ok.mp e
  cases h2
  exact ⟨Hf, s, φ, c, _, g, h1, q⟩
theorem ge_if {c a b : Expr} {t : BV} {f f' : EV} (hc : GB w X c t) (ha : GE w X a f) (hb : GE w X b f') : GE w X (.IfExp c a b pos) (kIf t f f') := by
  refine pe_imp (pe_ifExp hc ha hb) fun σ H Q => ?_
  rintro ⟨Hf, s, φ, l, s', g, e, q⟩
  obtain ⟨⟨d, s1⟩, h1, h2⟩ := R.bind_eq_ok.mp e
  refine ⟨Hf, s, φ, d, s1, g, h1, fun H1 Hf1 φ1 g1 k1 => ?_⟩
  have q1 := q.later k1 (fun _ => id) g1
  cases d with
  | true => exact iteT (show tE w f σ H1 Q from ⟨Hf1, s1, φ1, l, s', g1, h2, q1⟩)
  | false => exact iteF (show tE w f' σ H1 Q from ⟨Hf1, s1, φ1, l, s', g1, h2, q1⟩)

/-! ### a < b < c -/
/-- the value of a number, a text -/
inductive Vs : V → D → Prop
  | int (i : Int) : Vs (.int i) (.int i)
  | str (x : Str) : Vs (.str x) (.str x)
theorem Vs.of {K : PySem.W.Frag} {Hf H : Hp} {v : V} {d : D} (r : Rw K Hf H v d) (h : scl d = true) : Vs v d := by
  cases d with
  | int i => cases r.int; exact .int i
  | str x => cases r.str; exact .str x
  | none => cases h
  | bool b => cases h
  | list xs => cases h
  | tuple xs => cases h
  | dict xs => cases h
/-- an operator on scalars alone -/
def U2s (r : R2) (p : D → D → R L) : Prop := ∀ (H : Hp) (v u : V) (d e : D) (l : L) (Q : VK), Vs v d → Vs u e → p d e = .ok l → ∃ b, l = .d (.bool b) ∧ (Q (.bl b) H → r v u H Q)
theorem s_cmp {P : D → D → R L} {p : Int → Int → Bool} {q : Str → Str → Bool} (h : ∀ d e l, P d e = .ok l → (∃ i j, d = .int i ∧ e = .int j ∧ l = .d (.bool (p i j))) ∨ ∃ i j, d = .str i ∧ e = .str j ∧ l = .d (.bool (q i j))) : U2s (rCmp p q) P := by
  intro H v u d e l Q r1 r2 hp
  rcases h d e l hp with ⟨i, j, rfl, rfl, rfl⟩ | ⟨i, j, rfl, rfl, rfl⟩
  · cases r1; cases r2
    exact ⟨_, rfl, fun q => .inl ⟨i, j, rfl, rfl, q⟩⟩
  · cases r1; cases r2
    exact ⟨_, rfl, fun q => .inr ⟨i, j, rfl, rfl, q⟩⟩
theorem s_lt : U2s (rCmp (fun i j => decide (i < j)) fun i j => decide (i.cps.toList < j.cps.toList)) pLt := s_cmp fun d e l h => by
  unfold pLt at h
  split at h
  · cases h; exact .inl ⟨_, _, rfl, rfl, rfl⟩
  · cases h; exact .inr ⟨_, _, rfl, rfl, rfl⟩
  · cases h
theorem s_le : U2s (rCmp (fun i j => decide (i ≤ j)) fun i j => !decide (j.cps.toList < i.cps.toList)) pLe := s_cmp fun d e l h => by
  unfold pLe at h
  split at h
  · cases h; exact .inl ⟨_, _, rfl, rfl, rfl⟩
  · cases h; exact .inr ⟨_, _, rfl, rfl, rfl⟩
  · cases h
theorem kS_ok {f : EV} {d : D} (h : kS f s = .ok (d, s')) : ∃ l, f s = .ok (l, s') ∧ l.get s' = .ok d ∧ scl d = true := by
  obtain ⟨⟨d', s1⟩, h1, h2⟩ := R.bind_eq_ok.mp h
  simp only at h2
  split at h2
  · rename_i hs
    cases h2
    obtain ⟨l, h3, h4⟩ := kG_ok h1
    exact ⟨l, h3, h4, hs⟩
  · cases h2
theorem tE_chn {r r' : R2} {p p' : D → D → R L} {f f' f'' : EV} (u : U2s r p) (u' : U2s r' p') (h : tE w (kChn p p' f f' f'') σ H Q) : tChain r r' (tE w f) (tE w f') (tE w f'') σ H Q := by
  obtain ⟨Hf, s, φ, l, s', g, e, q⟩ := h
  obtain ⟨⟨d, s1⟩, h1, h2⟩ := R.bind_eq_ok.mp e
  obtain ⟨⟨d', s2⟩, h3, h4⟩ := R.bind_eq_ok.mp h2
  obtain ⟨lb, h5, h6⟩ := R.bind_eq_ok.mp h4
  obtain ⟨l1, h7, h8, h8'⟩ := kS_ok h1
  obtain ⟨l2, h9, h10, h10'⟩ := kS_ok h3
  refine ⟨Hf, s, φ, l1, s1, g, h7, fun v H1 Hf1 φ1 F1 g1 r1 k1 => ⟨Hf1, s1, φ1, l2, s2, g1, h9, fun v' H2 Hf2 φ2 F2 g2 r2 k2 => ?_⟩⟩
  have q2 := (q.later k1 (fun a => .inl) g1).later k2 (fun a => .inl) g2
  have w2 := Vs.of (r2.rw g2 h10) h10'
  have w1 := Vs.of (r1.rw g1 h8) h8'
  obtain ⟨b, rfl, hr⟩ := u H2 v v' d d' lb (fun z H3 => ∃ k, z = .bl k ∧ (if k = true then tE w f'' σ H3 fun w' H4 => r' v' w' H4 Q else Q (.bl false) H3)) w1 w2 h5
  refine hr ⟨b, rfl, ?_⟩
  cases b with
  | false =>
    rw [if_neg Bool.false_ne_true]
    cases h6
    exact q2.d g2 (.bl _)
  | true =>
    rw [if_pos rfl]
    obtain ⟨⟨d3, s3⟩, h11, h12⟩ := R.bind_eq_ok.mp h6
    obtain ⟨lm, h13, h14⟩ := R.bind_eq_ok.mp h12
    obtain ⟨l3, h15, h16, h16'⟩ := kS_ok h11
    cases h14
    refine ⟨Hf2, s2, φ2, l3, _, g2, h15, fun v3 H3 Hf3 φ3 F3 g3 r3 k3 => ?_⟩
    have q3 := q2.later k3 (fun a => .inl) g3
    obtain ⟨b, rfl, hr⟩ := u' H3 v' v3 d' d3 _ Q w2 (Vs.of (r3.rw g3 h16) h16') h13
    exact hr (q3.d g3 (.bl _))
theorem ge_chn {op op' : CmpOp} {r r' : R2} {p p' : D → D → R L} {a b c : Expr} {f f' f'' : EV} (ho : OpR X (compareOp op) r) (u : U2s r p) (ho' : OpR X (compareOp op') r') (u' : U2s r' p') (ha : GE w X a f) (hb : GE w X b f') (hc : GE w X c f'')
    (hm : lastMarks [op, op'] [b, c] = false := by with_unfolding_all rfl) : GE w X (.Compare a [op, op'] [b, c] pos) (kChn p p' f f' f'') := pe_imp (pe_chain ho ho' ha hb hc hm) fun _ _ _ h => tE_chn u u' h
theorem gb_chn {op op' : CmpOp} {r r' : R2} {p p' : D → D → R L} {a b c : Expr} {f f' f'' : EV} (ho : OpR X (compareOp op) r) (u : U2s r p) (ho' : OpR X (compareOp op') r') (u' : U2s r' p') (ha : GE w X a f) (hb : GE w X b f') (hc : GE w X c f'')
    (hm : lastMarks [op, op'] [b, c] = false := by with_unfolding_all rfl) : GB w X (.Compare a [op, op'] [b, c] pos) (bVal (kChn p p' f f' f'')) := by
  refine pt_imp (pt_chain ho ho' ha hb hc hm) fun σ H Q q => ?_
  have q' := tB_val q
  exact tE_chn u u' q'

/-! ### built-in functions -/
section
variable {K : PySem.W.Frag} {H : Hp}
mutual
theorem Rp.dpN : ∀ {v : V} {d : D}, Rp K H v d → d.hasDict = false → Dp K H v d
  | _, _, .non, _ => .non
  | _, _, .bl b, _ => .bl b
  | _, _, .int i, _ => .int i
  | _, _, .str x, _ => .str x
  | _, _, .lst h r, c => .lst (SqL.of h) (RpA.dpN r (by simpa only [PyData.hasDict] using c))
  | _, _, .tup h r, c => .tup h.sq (RpA.dpN r (by simpa only [PyData.hasDict] using c))
  | _, _, .dct _ _, c => by simp only [PyData.hasDict] at c; cases c
theorem RpA.dpN : ∀ {vs : List V} {ds : List D}, RpA K H vs ds → PyData.hasDictAll ds = false → DpAll K H vs ds
  | _, _, .nil, _ => .nil
  | _, _, .cons h r, c => by
    simp only [PyData.hasDictAll, Bool.or_eq_false_iff] at c
    exact .cons (h.dpN c.1) (RpA.dpN r c.2)
end
theorem Rw.dpN {Hf : Hp} {v : V} {d : D} (r : Rw K Hf H v d) (s : Sub Hf H) (c : d.hasDict = false) : Dp K H v d := by
  cases r with
  | st r => exact (r.mono s).dpN c
  | lst h r => exact .lst (SqL.of h) ((r.mono s).dpN (by simpa only [PyData.hasDict] using c))
  | dct h r => simp only [PyData.hasDict] at c; cases c
end
theorem ints_rp {K : PySem.W.Frag} {H : Hp} : ∀ {vs : List V} {ds : List D} {ns : List Int}, RpA K H vs ds → intsOf ds = some ns → vs = ns.map V.int
  | _, _, _, .nil, h => by cases h; rfl
  | _, _, _, .cons (d := d) (ds := ds) r t, h => by
    cases d with
    | int i =>
      simp only [intsOf] at h
      obtain ⟨ms, h1, rfl⟩ := Option.map_eq_some_iff.mp h
      cases r
      rw [List.map_cons, ints_rp t h1]
    | none => cases h
    | bool b => cases h
    | str x => cases h
    | list xs => cases h
    | tuple xs => cases h
    | dict xs => cases h
theorem bools_rp {K : PySem.W.Frag} {H : Hp} : ∀ {vs : List V} {ds : List D} {ns : List Bool}, RpA K H vs ds → boolsOf ds = some ns → vs = ns.map V.bl
  | _, _, _, .nil, h => by cases h; rfl
  | _, _, _, .cons (d := d) (ds := ds) r t, h => by
    cases d with
    | bool i =>
      simp only [boolsOf] at h
      obtain ⟨ms, h1, rfl⟩ := Option.map_eq_some_iff.mp h
      cases r
      rw [List.map_cons, bools_rp t h1]
    | none => cases h
    | int b => cases h
    | str x => cases h
    | list xs => cases h
    | tuple xs => cases h
    | dict xs => cases h
section
variable {a b : Expr} {f f' : EV} {px : Pos}
theorem call_lenR : CallR X (.builtin "len") (fun xs H Q => ∃ a kvs, xs = [V.ref a] ∧ Rd H a (.dK kvs) ∧ Q (.int kvs.length) H) := by
  intro pins s σ H xs us Q I r h
  obtain ⟨a, kvs, rfl, ha, q⟩ := h
  obtain ⟨u, rfl, ru⟩ := vals1 r
  cases ru
  exact d_len I ha fun t s' I' => ⟨.int kvs.length, H, I', ⟨t, rfl⟩, q⟩
theorem ge_len (hm : X.mg "len" = none) (c : Cok w k X) (ha : GE w X a f) (hg : Gl X "len" := by rfl) (he : starEach [a] X.env = (false, eval a X.env) :: starEach [] X.env := by rfl) : GE w X (.Call (.Name "len" px) [a] [] pos) (k1 pLen f) := by
  refine ge_b1 (r := fun xs H Q => (∃ x n, xs = [x] ∧ LenV X.K x H n ∧ Q (.int n) H) ∨ ∃ a kvs, xs = [V.ref a] ∧ Rd H a (.dK kvs) ∧ Q (.int kvs.length) H) (CallR.or call_len call_lenR) ?_ hm ha PySem.boot_len hg (by decide) (by decide) he
  intro σ H Hf s φ v d l Q g r hp q
  unfold pLen at hp
  split at hp
  · cases hp
    obtain ⟨p, vs, rfl, hv, r⟩ := r.list g.sub
    exact .inl ⟨_, vs.length, rfl, .inl ⟨vs, SqL.of hv, rfl⟩, by rw [r.length]; exact q.d g (.int _)⟩
  · cases hp
    obtain ⟨p, vs, rfl, hv, r⟩ := r.tup g.sub
    exact .inl ⟨_, vs.length, rfl, .inr ⟨vs, by rw [c.K]; exact hv.sq, rfl⟩, by rw [r.length]; exact q.d g (.int _)⟩
  · cases hp
    obtain ⟨p, kvs, rfl, hv, r⟩ := r.dict g.sub
    exact .inr ⟨p, kvs, rfl, hv, by rw [r.length]; exact q.d g (.int _)⟩
  · split at hp
    · rename_i hz
      cases hp
      cases r.str
      exact .inl ⟨_, _, rfl, ⟨sz_line (szOk_le hz), rfl⟩, q.d g (.int _)⟩
    · cases hp
  · cases hp
theorem ge_intF (hm : X.mg "int" = none) (ha : GE w X a f) (hg : Gl X "int" := by rfl) (he : starEach [a] X.env = (false, eval a X.env) :: starEach [] X.env := by rfl) : GE w X (.Call (.Name "int" px) [a] [] pos) (k1 pInt f) := by
  refine ge_t1 call_int1 ?_ hm ha PyProof.Rows.boot_int hg (by decide) (by decide) he
  intro σ H Hf s φ v d l Q g r hp q
  unfold pInt at hp
  split at hp
  · cases hp
    exact .inl ⟨_, by rw [r.int], q.d g (.int _)⟩
  · cases hp
    refine .inr ⟨_, by rw [r.bool], q.d g (.int _)⟩
  · cases hp
theorem ge_abs (hm : X.mg "abs" = none) (ha : GE w X a f) (hg : Gl X "abs" := by rfl) (he : starEach [a] X.env = (false, eval a X.env) :: starEach [] X.env := by rfl) : GE w X (.Call (.Name "abs" px) [a] [] pos) (k1 pAbs f) := by
  refine ge_b1 call_abs ?_ hm ha PyProof.Rows.boot_abs hg (by decide) (by decide) he
  intro σ H Hf s φ v d l Q g r hp q
  unfold pAbs at hp
  split at hp
  · cases hp
    exact ⟨_, by rw [r.int], q.d g (.int _)⟩
  · cases hp
theorem ge_max2 (hm : X.mg "max" = none) (c : Cok w k X) (ha : GE w X a f) (hb : GE w X b f') (hg : Gl X "max" := by rfl) (he : starEach [a, b] X.env = (false, eval a X.env) :: starEach [b] X.env := by rfl) (hb' : starEach [b] X.env = (false, eval b X.env) :: starEach [] X.env := by rfl) :
    GE w X (.Call (.Name "max" px) [a, b] [] pos) (k2 pMax2 f f') := by
  refine ge_b2 (call_max2 c.calm) ?_ hm ha hb PyProof.Rows.boot_max hg (by decide) (by decide) he hb'
  intro σ H Hf s φ v u d e l Q g r1 r2 hp q
  unfold pMax2 at hp
  split at hp
  · cases hp
    exact ⟨_, _, by rw [r1.int, r2.int], q.d g (.int _)⟩
  · cases hp
theorem ge_min2 (hm : X.mg "min" = none) (c : Cok w k X) (ha : GE w X a f) (hb : GE w X b f') (hg : Gl X "min" := by rfl) (he : starEach [a, b] X.env = (false, eval a X.env) :: starEach [b] X.env := by rfl) (hb' : starEach [b] X.env = (false, eval b X.env) :: starEach [] X.env := by rfl) :
    GE w X (.Call (.Name "min" px) [a, b] [] pos) (k2 pMin2 f f') := by
  refine ge_b2 (call_min2 c.calm) ?_ hm ha hb (by decide +kernel) hg (by decide) (by decide) he hb'
  intro σ H Hf s φ v u d e l Q g r1 r2 hp q
  unfold pMin2 at hp
  split at hp
  · cases hp
    exact ⟨_, _, by rw [r1.int, r2.int], q.d g (.int _)⟩
  · cases hp
/-- tuple(x): a new tuple of a list, a tuple itself -/
def rTupF (K : PySem.W.Frag) : List V → Hp → VK → Prop := fun xs H Q => ∃ p ys, xs = [.ref p] ∧ ((SqL K H p ys ∧ ∀ l, H l = none → ∀ o : Obj, o.dict = none → Q (.ref l) (upd H l (.frz o (.tup ys)))) ∨ (SqT K H p ys ∧ Q (.ref p) H))
theorem call_tupF : CallR X (.type "tuple") (rTupF X.K) := by
  intro pins s σ H xs us Q I r ⟨p, ys, ex, h⟩
  subst ex
  obtain ⟨u, rfl, rx⟩ := vals1 r
  cases rx
  rcases h with ⟨hq, q⟩ | ⟨hq, q⟩
  · obtain ⟨its, r', pl, hz⟩ := I.list hq
    have hlen := r'.length
    refine call_tuple_list pl.isList (fun h' kp => ?_) (by simp only [List.size_toArray] <;> omega)
    have I1 : Inv X pins σ H { s with heap := h' } := I.kept (t' := s.toks) kp
    have I2 := I1.laid (t' := s.toks) (a := h'.objs.size) (h' := h'.push { cls := .type "tuple", data := .seq its.toArray }) (o := .frz { cls := .type "tuple", data := .seq its.toArray } (.tup ys)) (fun b o e => Heap.get?_push_of_some _ e) (Nat.le_refl _)
      ⟨Heap.get?_push_size _ rfl, hz, its, r', IsTup.new _ _⟩
    exact ⟨.ref h'.objs.size, _, I2, rfl, q _ (I1.hok.fresh (Nat.le_refl _)) _ rfl⟩
  · obtain ⟨its, r', pl, hz⟩ := I.tuple hq
    exact call_tuple_same pl ⟨.ref p, H, I, rfl, q⟩
theorem ge_tuple (hm : X.mg "tuple" = none) (c : Cok w k X) (ha : GE w X a f) (hg : Gl X "tuple" := by rfl) (he : starEach [a] X.env = (false, eval a X.env) :: starEach [] X.env := by rfl) : GE w X (.Call (.Name "tuple" px) [a] [] pos) (k1 pTuple f) := by
  refine ge_t1 call_tupF ?_ hm ha PyProof.Rows.boot_tuple hg (by decide) (by decide) he
  intro σ H Hf s φ v d l Q g r hp q
  unfold pTuple at hp
  split at hp
  · cases hp
    obtain ⟨p, vs, rfl, hv, r⟩ := r.list g.sub
    exact ⟨p, vs, rfl, .inl ⟨SqL.of hv, fun l hl o ho => q.tup g r hl ho⟩⟩
  · cases hp
    have t := r.tupR
    obtain ⟨p, vs, rfl, hv, r⟩ := r.tup g.sub
    exact ⟨p, vs, rfl, .inr ⟨by rw [c.K]; exact hv.sq, q.d g t⟩⟩
  · cases hp
theorem ge_list (hm : X.mg "list" = none) (c : Cok w k X) (ha : GE w X a f) (hg : Gl X "list" := by rfl) (he : starEach [a] X.env = (false, eval a X.env) :: starEach [] X.env := by rfl) : GE w X (.Call (.Name "list" px) [a] [] pos) (k1 pList f) := by
  refine ge_t1 (CallR.or call_list_of (call_listD c.calm)) ?_ hm ha PyProof.Rows.boot_list hg (by decide) (by decide) he
  intro σ H Hf s φ v d l Q g r hp q
  unfold pList at hp
  split at hp
  · cases hp
    obtain ⟨p, vs, rfl, hv, r⟩ := r.list g.sub
    exact .inl ⟨p, vs, rfl, .inl (SqL.of hv), fun l hl => q.lst g r hl⟩
  · cases hp
    obtain ⟨p, vs, rfl, hv, r⟩ := r.tup g.sub
    exact .inl ⟨p, vs, rfl, .inr (by rw [c.K]; exact hv.sq), fun l hl => q.lst g r hl⟩
  · cases hp
    obtain ⟨p, kvs, rfl, hv, r⟩ := r.dict g.sub
    exact .inr ⟨p, kvs, rfl, hv, fun l hl => q.lst g r.keys hl⟩
  · cases hp
theorem ge_strF (hm : X.mg "str" = none) (ha : GE w X a f) (hg : Gl X "str" := by rfl) (he : starEach [a] X.env = (false, eval a X.env) :: starEach [] X.env := by rfl) : GE w X (.Call (.Name "str" px) [a] [] pos) (k1 pStr f) := by
  refine ge_t1 (CallR.or call_str_int SkE.call_str_str) ?_ hm ha PyProof.Rows.boot_str hg (by decide) (by decide) he
  intro σ H Hf s φ v d l Q g r hp q
  unfold pStr at hp
  split at hp
  · split at hp
    · rename_i hz
      cases hp
      exact .inl ⟨_, by rw [r.int], hz, q.d g (.str _)⟩
    · cases hp
  · cases hp
    exact .inr ⟨_, by rw [r.str], q.d g (.str _)⟩
  · cases hp
/-! ### repr -/
def rRepr (K : PySem.W.Frag) : List V → Hp → VK → Prop := fun xs H Q => ∃ x d, xs = [x] ∧ Dp K H x d ∧ d.showable = true ∧ d.depth ≤ 64 ∧ d.hasDict = false ∧ d.shown.length ≤ sizeLine ∧ Q (.str d.shown) H
theorem call_reprF (c : Cok w k X) : CallR X (.builtin "repr") (rRepr X.K) := by
  intro pins s σ H xs us Q I r ⟨x, d, ex, hd, h1, h2, h3, h4, q⟩
  subst ex
  obtain ⟨u, rfl, rx⟩ := vals1 r
  have hu := c.u
  obtain ⟨as, rd⟩ := Dp.reads I d x u hd rx
  have fin : ∀ (h' : Heap) (t : Tok) (tk : Nat), (∀ b o, s.heap.get? b = some o → h'.get? b = some o) → EP X pins σ Q (.str d.shown t) { s with heap := h', toks := tk } := fun h' t tk hk => ⟨.str d.shown, H, I.kept hk, ⟨t, rfl⟩, q⟩
  cases rd with
  | none => exact call_repr_gives (typeIs_none s) F.slot_NoneType_repr F.entry_NoneType_repr (F.args_NoneType_repr_1 _) gives_none_repr (fin _ _ _ fun _ _ e => e) (hx := by decide)
  | bool b => exact call_repr_gives (PySem.typeIs_bool s b) F.slot_bool_repr F.entry_bool_repr (F.args_bool_repr_1 _) (gives_bool_repr b) (fin _ _ _ fun _ _ e => e) (hx := by cases b <;> decide)
  | int i t => 
    have hz : i.natAbs.log2 < 1920 := by simpa [PyData.showable] using h1
    exact call_repr_gives (typeIs_int s i t) F.slot_int_repr F.entry_int_repr (F.args_int_repr_1 _) (gives_int_repr i t hz) (fin _ _ _ fun _ _ e => e) (hx := int_text_fits hz)
  | str y t => exact call_repr_gives (typeIs_str s y t) F.slot_str_repr F.entry_str_repr (F.args_str_repr_1 _) (gives_str_repr y t) (fin _ _ _ fun _ _ e => e) (hx := by simpa only [PyData.shown] using h4)
  | list e1 e2 e3 e4 =>
    exact repr_of_reads' (.list e1 e2 e3 e4) h1 (fun z => by rw [h3] at z; cases z) c.gd (by omega) (fun _ _ e => e) (fun h' t tk hk => fin h' t tk hk) h4
  | tuple e1 e2 e3 e4 =>
    exact repr_of_reads' (.tuple e1 e2 e3 e4) h1 (fun z => by rw [h3] at z; cases z) c.gd (by omega) (fun _ _ e => e) (fun h' t tk hk => fin h' t tk hk) h4
  | dict e1 e2 e3 e4 e5 => cases h3
theorem ge_repr (hm : X.mg "repr" = none) (c : Cok w k X) (ha : GE w X a f) (hg : Gl X "repr" := by rfl) (he : starEach [a] X.env = (false, eval a X.env) :: starEach [] X.env := by rfl) : GE w X (.Call (.Name "repr" px) [a] [] pos) (k1 pRepr f) := by
  refine ge_b1 (call_reprF c) ?_ hm ha PyProof.Rows.boot_repr hg (by decide) (by decide) he
  intro σ H Hf s φ v d l Q g r hp q
  unfold pRepr showOk at hp
  split at hp
  · rename_i hs
    simp only [Bool.and_eq_true, decide_eq_true_eq] at hs
    obtain ⟨⟨⟨h1, h2⟩, h3⟩, h4⟩ := hs
    cases hp
    rw [c.K]
    have h3' : d.hasDict = false := by simpa using h3
    exact ⟨v, d, rfl, r.dpN g.sub h3', h1, h2, h3', h4, q.d g (.str _)⟩
  · cases hp

theorem ge_sum (hm : X.mg "sum" = none) (c : Cok w k X) (ha : GE w X a f) (hg : Gl X "sum" := by rfl) (he : starEach [a] X.env = (false, eval a X.env) :: starEach [] X.env := by rfl) : GE w X (.Call (.Name "sum" px) [a] [] pos) (k1 pSum f) := by
  refine ge_b1 (cr_sum c.calm) ?_ hm ha (by decide +kernel) hg (by decide) (by decide) he
  intro σ H Hf s φ v d l Q g r hp q
  unfold pSum at hp
  split at hp
  · split at hp
    · rename_i xs ns hn
      cases hp
      obtain ⟨p, vs, rfl, hv, r⟩ := r.list g.sub
      have e : vs = ns.map V.int := ints_rp r hn
      subst e
      exact ⟨p, ns, rfl, SqL.of hv, q.d g (.int _)⟩
    · cases hp
  · cases hp
theorem ge_all (hm : X.mg "all" = none) (c : Cok w k X) (ha : GE w X a f) (hg : Gl X "all" := by rfl) (he : starEach [a] X.env = (false, eval a X.env) :: starEach [] X.env := by rfl) : GE w X (.Call (.Name "all" px) [a] [] pos) (k1 pAll f) := by
  refine ge_b1 (cr_all c.calm) ?_ hm ha (by decide +kernel) hg (by decide) (by decide) he
  intro σ H Hf s φ v d l Q g r hp q
  unfold pAll at hp
  split at hp
  · split at hp
    · rename_i xs bs hn
      cases hp
      obtain ⟨p, vs, rfl, hv, r⟩ := r.list g.sub
      have e : vs = bs.map V.bl := bools_rp r hn
      subst e
      exact ⟨p, bs, rfl, SqL.of hv, q.d g (.bl _)⟩
    · cases hp
  · cases hp
end
end
end KV

set_option Elab.async false
set_option linter.all false
set_option maxRecDepth 100000
set_option maxHeartbeats 1000000
/-! KVF: isinstance, index, slices, dicts, displays. -/
namespace KV
open PySem L2
open PySem.Spec PyProof.Rows

section
variable {w : Wd} {k : Nat} {X : Cx} {pos : Pos} {σ : L2.St} {H Hf : Hp} {s s' : Sl} {φ : Nat → List Addr} {Q : VK}

/-! ### isinstance -/
def isiOk (ty : String) : Prop := ∀ d : D, kitB (tyOf d) ty = some (tyOf d == ty || (ty == "int" && tyOf d == "bool"))
theorem isi_int : isiOk "int" := fun d => by cases d <;> (simp only [tyOf]; decide +kernel)
theorem isi_str : isiOk "str" := fun d => by cases d <;> (simp only [tyOf]; decide +kernel)
theorem isi_bool : isiOk "bool" := fun d => by cases d <;> (simp only [tyOf]; decide +kernel)
theorem isi_tuple : isiOk "tuple" := fun d => by cases d <;> (simp only [tyOf]; decide +kernel)
theorem isi_list : isiOk "list" := fun d => by cases d <;> (simp only [tyOf]; decide +kernel)
theorem isi_dict : isiOk "dict" := fun d => by cases d <;> (simp only [tyOf]; decide +kernel)
theorem Rp.ty {K : PySem.W.Frag} {v : V} {d : D} (r : Rp K H v d) (nd : ∀ kvs, d ≠ .dict kvs) : TyX K H v (.type (tyOf d)) := by
  cases r with
  | non => exact .base .non
  | bl b => exact .base (.bl b)
  | int i => exact .base (.int i)
  | str x => exact .base (.str x)
  | lst h _ => exact .base (.lst h)
  | tup h _ =>
    rcases h with ⟨o, h, _⟩ | ⟨o, its, n, h1, h2, _⟩
    · exact .fTuple h
    · exact .kTuple h1 h2
  | dct h _ => exact (nd _ rfl).elim
theorem Rw.ty {K : PySem.W.Frag} {v : V} {d : D} (r : Rw K Hf H v d) (s : Sub Hf H) (nd : ∀ kvs, d ≠ .dict kvs) : TyX K H v (.type (tyOf d)) := by
  cases r with
  | st r => exact (r.mono s).ty nd
  | lst h _ => exact .base (.lst h)
  | dct h _ => exact (nd _ rfl).elim
theorem ge_isi {ty : String} {x : Str} {a : Expr} {f : EV} {px p2 : Pos} (ho : isiOk ty) (hm : X.mg "isinstance" = none) (hm2 : X.mg x = none) (c : Cok w k X) (ha : GE w X a f) (hv : bootBuiltins x = some (.type ty) := by decide +kernel)
    (hg : Gl X "isinstance" := by rfl) (hg2 : Gl X x := by rfl) (hn : x ≠ "__name__" := by decide) (hdb : (x == ("__debug__" : Str)) = false := by decide)
    (he : starEach [a, .Name x p2] X.env = (false, eval a X.env) :: starEach [.Name x p2] X.env := by rfl) :
    GE w X (.Call (.Name "isinstance" px) [a, .Name x p2] [] pos) (k1 (pIsI ty) f) := by
  refine pe_imp (pe_callB call_isi hg hm PyProof.Rows.boot_isinstance (pa_cons ha (pa_cons (pe_bltn (v := .ty ty) hg2 hm2 hv rfl hn hdb) pa_nil) he) (by decide) (by decide) he) fun σ H Q h => ?_
  refine tE_1 (r := fun v H Q => rIsi X.K [v, .ty ty] H Q) ?_ h
  intro σ H Hf s φ v d l Q g r hp q
  unfold pIsI at hp
  split at hp
  · cases hp
  · rename_i nd
    cases hp
    rw [c.K]
    exact ⟨v, .ty ty, _, _, _, rfl, .ty ty, r.ty g.sub nd, kit_ty (ho d), q.d g (.bl _)⟩

/-! ### a[lo:hi] -/
def tP (w : Wd) (f : Option EV) : TO := fun σ H Q => ∃ Hf s φ o s', Good w σ H Hf s φ ∧ partOf f s = .ok (o, s') ∧
  ∀ H' Hf' φ', Good w σ H' Hf' s' φ' → Stp H Hf (Own s φ) H' Hf' (Own s' φ') → Q o H'
abbrev GP (w : Wd) (X : Cx) (e : Option Expr) (f : Option EV) : Prop := PO X e (tP w f)
theorem po_imp {X : Cx} {e : Option Expr} {t t' : TO} (h : PO X e t) (i : ∀ σ H Q, t' σ H Q → t σ H Q) : PO X e t' := ⟨fun pins s σ H Q I q => h.run pins s σ H Q I (i σ H Q q)⟩
theorem gp_none : GP w X none none := po_imp po_none fun σ H Q => by
  rintro ⟨Hf, s, φ, o, s', g, e, q⟩
  cases e
  exact q H Hf φ g Stp.refl
theorem gp_some {e : Expr} {f : EV} (h : GE w X e f) : GP w X (some e) (some f) := po_imp (po_some h) fun σ H Q => by
  rintro ⟨Hf, s, φ, o, s', g, e, q⟩
  obtain ⟨⟨d, s1⟩, h1, h2⟩ := R.bind_eq_ok.mp e
  obtain ⟨l1, h5, h6⟩ := kG_ok h1
  simp only at h2
  split at h2
  · cases h2
    exact ⟨Hf, s, φ, l1, _, g, h5, fun v H1 Hf1 φ1 F1 g1 r1 k1 => ⟨_, (r1.rw g1 h6).int, q H1 Hf1 φ1 g1 (k1.weak fun a => .inl)⟩⟩
  · cases h2
/-- t[lo:hi], a new tuple told by its object -/
def rSlF (K : PySem.W.Frag) : V → Option Int → Option Int → Hp → VK → Prop := fun x lo hi H Q => ∃ a xs, x = .ref a ∧ STup K H a xs ∧ (HT.sIx xs.length 0 lo = 0 ∧ HT.sIx xs.length xs.length hi = xs.length → Q (.ref a) H) ∧
  (¬ (HT.sIx xs.length 0 lo = 0 ∧ HT.sIx xs.length xs.length hi = xs.length) → ∀ p, H p = none → ∀ o : Obj, o.dict = none → Q (.ref p) (upd H p (.frz o (.tup (cutV xs lo hi)))))
theorem sl_tupF : SlR X (rSlF X.K) := by
  intro pins s σ H x v vl vu lo hi sl Q I rx hs pl pu ⟨a, xs, ex, hx, q1, q2⟩
  subst ex
  cases rx
  obtain ⟨its, r, ht, hz⟩ := I.tuple hx.sq
  have hlen : its.toArray.size = xs.length := by rw [List.size_toArray]; exact r.length.symm
  refine ⟨"tuple", _, PyProof.Rows.slot_tuple_getitem.lookup, ht.typeIs, ?_⟩
  by_cases hw : HT.sIx xs.length 0 lo = 0 ∧ HT.sIx xs.length xs.length hi = xs.length
  · exact getItem_tuple_whole ht hs pl pu (by rw [hlen]; exact hw) ⟨.ref a, H, I, rfl, q1 hw⟩
  · refine HT.getItem_tuple_cut ht hs pl pu (by rw [hlen]; exact hw) ?_ (by rw [hlen]; exact hz)
    rw [hlen]
    have hl := I.laid (t' := s.toks) (a := s.heap.objs.size) (h' := s.heap.push { cls := .type "tuple", data := .seq ((its.drop (HT.sIx xs.length 0 lo)).take (HT.sIx xs.length xs.length hi - HT.sIx xs.length 0 lo)).toArray })
      (o := .frz { cls := .type "tuple", data := .seq ((its.drop (HT.sIx xs.length 0 lo)).take (HT.sIx xs.length xs.length hi - HT.sIx xs.length 0 lo)).toArray } (.tup (cutV xs lo hi))) (fun b ob q => Heap.get?_push_of_some _ q) (Nat.le_refl _)
      ⟨Heap.get?_push_size _ rfl, Nat.le_trans (cutV_length xs lo hi) hz, _, (r.drop (HT.sIx xs.length 0 lo)).take (HT.sIx xs.length xs.length hi - HT.sIx xs.length 0 lo), IsTup.new _ _⟩
    exact ⟨.ref s.heap.objs.size, _, hl, rfl, q2 hw _ (I.hok.fresh (Nat.le_refl _)) _ rfl⟩
theorem cut_rp {K : PySem.W.Frag} {H : Hp} {vs : List V} {ds : List D} (r : RpA K H vs ds) (lo hi : Option Int) : RpA K H (cutV vs lo hi) (cutD ds lo hi) := by
  unfold cutV cutD
  rw [r.length]
  exact (r.drop _).take _
theorem cutD_whole {ds : List D} {lo hi : Option Int} (h : HT.sIx ds.length 0 lo = 0 ∧ HT.sIx ds.length ds.length hi = ds.length) : cutD ds lo hi = ds := by
  unfold cutD
  rw [h.1, h.2]
  simp
theorem ge_sl (c : Cok w k X) {e : Expr} {lo hi : Option Expr} {p2 : Pos} {f : EV} {fl fh : Option EV} (he : GE w X e f) (hl : GP w X lo fl) (hh : GP w X hi fh) : GE w X (.Subscript e (.Slice lo hi none p2) pos) (kSl f fl fh) := by
  refine pe_imp (pe_slice (r := fun x lo hi H Q => rSlL X.K x lo hi H Q ∨ rSlF X.K x lo hi H Q) (SlR.or sl_list sl_tupF) he hl hh) fun σ H Q => ?_
  rintro ⟨Hf, s, φ, l, s', g, e, q⟩
  obtain ⟨⟨l1, s1⟩, h1, h2⟩ := R.bind_eq_ok.mp e
  obtain ⟨⟨o1, s2⟩, h3, h4⟩ := R.bind_eq_ok.mp h2
  obtain ⟨⟨o2, s3⟩, h5, h6⟩ := R.bind_eq_ok.mp h4
  obtain ⟨d, h7, h8⟩ := R.bind_eq_ok.mp h6
  obtain ⟨l', h9, h10⟩ := R.bind_eq_ok.mp h8
  cases h10
  refine ⟨Hf, s, φ, l1, s1, g, h1, fun v H1 Hf1 φ1 F1 g1 r1 k1 => ⟨Hf1, s1, φ1, o1, s2, g1, h3, fun H2 Hf2 φ2 g2 k2 => ⟨Hf2, s2, φ2, o2, _, g2, h5, fun H3 Hf3 φ3 g3 k3 => ?_⟩⟩⟩
  have q3 := ((q.later k1 (fun a => .inl) g1).later k2 (fun _ => id) g2).later k3 (fun _ => id) g3
  have r3 := ((r1.stay (s' := s2) (φ' := φ2) k2 fun _ => id).stay (s' := s3) (φ' := φ3) k3 fun _ => id).rw g3 h7
  unfold pSl at h9
  split at h9
  · cases h9
    obtain ⟨a, vs, rfl, ha, r⟩ := r3.list g3.sub
    exact .inl ⟨a, vs, rfl, SqL.of ha, fun p hp => q3.lst g3 (cut_rp r o1 o2) hp⟩
  · cases h9
    have t := r3.tupR
    obtain ⟨a, vs, rfl, ha, r⟩ := r3.tup g3.sub
    refine .inr ⟨a, vs, rfl, by rw [c.K]; exact ha, fun e => ?_, fun _ p hp o ho => q3.tup g3 (cut_rp r o1 o2) hp ho⟩
    rw [r.length] at e
    rw [cutD_whole e] at q3
    exact q3.d g3 t
  · cases h9
theorem ge_rev {e : Expr} {j : Nat} {p1 p2 p3 : Pos} {f : EV} (he : GE w X e f) : GE w X (.Subscript e (.Slice none none (some (.UnaryOp .USub (.Constant (.int 1) j p1) p2)) p3) pos) (k1 pRev f) :=
  pe_imp (pe_revL he) fun σ H Q h => tE_1 (r := fun v H1 Q => ∃ a xs, v = .ref a ∧ SqL X.K H1 a xs ∧ ∀ p, H1 p = none → Q (.ref p) (upd H1 p (.lst xs.reverse))) (fun σ H Hf s φ v d l Q g r hp q => by
    unfold pRev at hp
    split at hp
    · cases hp
      obtain ⟨a, vs, rfl, ha, r⟩ := r.list g.sub
      exact ⟨a, vs, rfl, SqL.of ha, fun p hp => q.lst g r.rev hp⟩
    · cases hp) h

/-! ### a.index(b) -/
theorem firstAt_ok {d : D} : ∀ {ds : List D} {j : Nat}, firstAt d ds = some j → ∃ z, ds[j]? = some z ∧ PyData.eqv z d = true ∧ ∀ (m : Nat) (z' : D), m < j → ds[m]? = some z' → PyData.eqv z' d = false
  | [], _, h => by cases h
  | z :: r, j, h => by
    unfold firstAt at h
    split at h
    · rename_i e
      cases h
      exact ⟨z, rfl, e, fun m _ hm => absurd hm (Nat.not_lt_zero m)⟩
    · rename_i e
      obtain ⟨j', h1, rfl⟩ := Option.map_eq_some_iff.mp h
      obtain ⟨y, h2, h3, h4⟩ := firstAt_ok h1
      refine ⟨y, by simpa using h2, h3, fun m z' hm hz => ?_⟩
      cases m with
      | zero => simp at hz; subst hz; simpa using e
      | succ m => exact h4 m z' (by omega) (by simpa using hz)
def rIdxT (K : PySem.W.Frag) : V → List V → Hp → VK → Prop := fun x xs H Q => ∃ (y : V) (d : D) (ds : List D) (j : Nat), xs = [y] ∧ Dp K H x (.tuple ds) ∧ SeqAt.shaped (.tuple ds) = true ∧ Dp K H y d ∧ SeqAt.shaped d = true ∧ firstAt d ds = some j ∧ Q (.int (j : Nat)) H
theorem mt_indexT (c : Cok w k X) : MtR X "tuple.index" (rIdxT X.K) := by
  intro pins s σ H x xs v us Q I rx rxs ⟨y, d, ds, j, exs, hl, sl, hy, sd, hj, q⟩
  subst exs
  obtain ⟨z, hz, hzj, hno⟩ := firstAt_ok hj
  obtain ⟨uy, rfl, ry⟩ := vals1 rxs
  obtain ⟨bs, r1⟩ := Dp.reads I d y uy hy ry
  have hxs : PyData.canLayAll0 ds = true := by have := SeqAt.canLay_of_shaped sl; simpa only [PyData.canLay0] using this
  have hroom : X.A.units + 1 + min (PyData.depthAll ds) d.depth < cLine := room_in_shaped sd (by have := c.u; omega)
  cases hl with
  | tup hs ha =>
    cases rx
    obtain ⟨its, rv, ⟨⟨cls, dd, data, sls⟩, ho, hc, n, hd⟩, hlen⟩ := I.tuple hs
    simp only at hc hd
    subst hc hd
    obtain ⟨as, h4⟩ := Dp.readsAll I ds _ its ha rv
    have hn : its.length = ds.length := SeqAt.ReadsAll.length ds its as h4
    have hmap : its.map (SeqAt.readOf s.heap) = ds := SeqAt.readsAll_map ds its as hxs h4
    obtain ⟨hjd, _⟩ := List.getElem?_eq_some_iff.mp hz
    have hj' : j < its.toArray.size := by simpa [hn] using hjd
    have at_ : ∀ (m : Nat) (hm : m < its.toArray.size) (z' : D), ds[m]? = some z' → SeqAt.readOf s.heap its.toArray[m] = z' := by
      intro m hm z' hz'
      have hml : m < its.length := by simpa using hm
      rw [← hmap, List.getElem?_map, List.getElem?_eq_getElem hml] at hz'
      have e1 : SeqAt.readOf s.heap its[m] = z' := Option.some.inj (show some (SeqAt.readOf s.heap its[m]) = some z' from hz')
      simpa using e1
    refine call_meets PySem.F.slot_tuple_index ⟨_, ho, rfl⟩ PySem.F.entry_tuple_index (PySem.F.args_tuple_index_2 _ _)
      (TI.tuple_indexAt _ its.toArray n dd sls uy (fun u => PyData.eqv (SeqAt.readOf s.heap u) d) j hj' ?_ ?_) ⟨ho, SeqAt.items_eqAt (vs := its.toArray) (show ReadsAll s.heap its.toArray.toList ds as from h4) r1 hxs (SeqAt.canLay_of_shaped sd) hroom, ?_⟩
    · show PyData.eqv (SeqAt.readOf s.heap its.toArray[j]) d = true
      rw [at_ j hj' z hz]
      exact hzj
    · intro m hm hmj
      have hmd : m < ds.length := by omega
      have hz' : ds[m]? = some ds[m] := List.getElem?_eq_getElem hmd
      show PyData.eqv (SeqAt.readOf s.heap its.toArray[m]) d = false
      rw [at_ m hm _ hz']
      exact hno m _ hmj hz'
    · exact ⟨.int (j : Nat), H, I.tok _, ⟨_, rfl⟩, q⟩
/-! ### a method of a value whose type shows when it is there -/
def tyW (K : PySem.W.Frag) (T : String) (x : V) (H : Hp) : Prop :=
  (T = "list" ∧ ∃ a vs, x = .ref a ∧ H a = some (.lst vs)) ∨ (T = "tuple" ∧ ∃ a vs, x = .ref a ∧ STup K H a vs) ∨ (T = "dict" ∧ ∃ a vs, x = .ref a ∧ Rd H a (.dK vs)) ∨ (T = "str" ∧ ∃ z, x = .str z)
theorem tyW_is {pins : List (Addr × Obj)} {σ : L2.St} {H : Hp} {s : Shared} {T : String} {x : V} {v : Value} (I : Inv X pins σ H s) (r : RelV x v) (ty : tyW X.K T x H) :
    s.TypeIs v T ∧ ∀ a, v = .ref a → ∃ ob, s.heap.get? a = some ob ∧ ob.dict = none := by
  rcases ty with ⟨rfl, a, vs, rfl, h⟩ | ⟨rfl, a, vs, rfl, h⟩ | ⟨rfl, a, vs, rfl, h⟩ | ⟨rfl, z, rfl⟩
  · exact tyV_is I r (T := "list") (.inl ⟨rfl, vs, SqL.of h⟩)
  · cases (show v = Value.ref a from r)
    rcases h with ⟨o, h, d⟩ | ⟨o, its, n, h1, h2, h3, _⟩
    · obtain ⟨e, _, its, _, o', e', hc, _⟩ := I.hok a _ h
      have : o' = o := Option.some.inj (e'.symm.trans e)
      subst this
      refine ⟨⟨o', e, hc⟩, fun b eb => ?_⟩
      cases eb
      exact ⟨o', e, d⟩
    · refine ⟨⟨o, I.kIn a o h1, h2⟩, fun b eb => ?_⟩
      cases eb
      exact ⟨o, I.kIn _ o h1, h3⟩
  · cases (show v = Value.ref a from r)
    obtain ⟨_, _, _, _, o, es, ep, e1, e2, _⟩ := dk_rd I.hok h
    refine ⟨⟨o, e1, e2.1⟩, fun b eb => ?_⟩
    cases eb
    exact ⟨o, e1, e2.2.1⟩
  · exact tyV_is I r (T := "str") rfl
/-- what a type has by that name -/
structure MeOk (X : Cx) (name : Str) (T id : String) (r : V → List V → Hp → VK → Prop) : Prop where
  pa : PlainAttrs T
  slot : Slot T name id
  ty : typeOf (.builtin id) = pure (.type "method_descriptor")
  mt : MtR X id r
def tMD (X : Cx) (name : Str) (to : TE) (t : TA) : TE := fun σ H Q => to σ H fun x H1 => ∃ T id r, MeOk X name T id r ∧ tyW X.K T x H1 ∧ t σ H1 fun vs H2 => r x vs H2 Q
section
variable {name : Str} {o e : Expr} {es : List Expr} {apos cpos : Pos} {to : TE} {t : TA}
theorem pe_md (ho : PE X o to) (ha : PA X (e :: es) t) (hbase : attributeBase o name X.env (eval o X.env) = eval o X.env)
    (hfew : ((backTo cpos (starEach (e :: es) X.env)).all (fun x => !x.1) && (backToKw cpos (keywordEach [] X.env)).all (fun x => x.1.isSome)
      && decide ((e :: es).length + ([] : List Keyword).length + (if ([] : List Keyword).isEmpty then 0 else 1) < 30)) = true)
    (hline : (apos.endLine == cpos.line) = true) (hs : starEach (e :: es) X.env = (false, eval e X.env) :: starEach es X.env) (hplain : (backTo cpos (starEach es X.env)).any (·.1) = false) :
    PE X (.Call (.Attribute o name apos) (e :: es) [] cpos) (tMD X name to t) := by
  refine ⟨fun pins s σ H Q I h => ?_⟩
  refine wpAny_Call_method_late hbase hfew hline rfl (thn (ho.run pins s σ H _ I h) fun v s1 ⟨x, H1, I1, r1, T, id, r, m, ty, q1⟩ => ?_)
  obtain ⟨h1, h2⟩ := tyW_is I1 r1 ty
  refine ⟨T, id, m.pa, m.slot, m.ty, h1, h2, ?_⟩
  have hA := ha.run cpos pins s1 σ H1 _ I1 q1
  rw [hs] at hA ⊢
  refine Calls.callWith_builtin (by show (false || (backTo cpos (starEach es X.env)).any (·.1)) = false; rw [hplain] <;> rfl) (Calls.evalArgs_plain ?_)
  exact thn hA fun us s2 ⟨vs, H2, I2, r2, q2⟩ => m.mt pins s2 σ H2 x vs v us Q I2 r1 r2 q2
theorem pe_md0 (ho : PE X o to) (hbase : attributeBase o name X.env (eval o X.env) = eval o X.env) (hline : (apos.endLine == cpos.line) = true) : PE X (.Call (.Attribute o name apos) [] [] cpos) (tMD X name to tNil) := by
  refine ⟨fun pins s σ H Q I h => ?_⟩
  refine wpAny_Call_method0_late hbase hline (thn (ho.run pins s σ H _ I h) fun v s1 ⟨x, H1, I1, r1, T, id, r, m, ty, q1⟩ => ?_)
  obtain ⟨h1, h2⟩ := tyW_is I1 r1 ty
  exact ⟨T, id, m.pa, m.slot, m.ty, h1, h2, Calls.callWith_builtin rfl (PySem.evalArgs_none (m.mt pins s1 σ H1 x [] v [] Q I1 r1 .nil q1))⟩
end
theorem Rw.tyL {K : PySem.W.Frag} {v : V} {ds : List D} (r : Rw K Hf H v (.list ds)) (s : Sub Hf H) : tyW K "list" v H := by
  obtain ⟨a, vs, rfl, ha, _⟩ := r.list s
  exact .inl ⟨rfl, a, vs, rfl, ha⟩
theorem Rw.tyT {K : PySem.W.Frag} {v : V} {ds : List D} (r : Rw K Hf H v (.tuple ds)) (s : Sub Hf H) : tyW K "tuple" v H := by
  obtain ⟨a, vs, rfl, ha, _⟩ := r.tup s
  exact .inr (.inl ⟨rfl, a, vs, rfl, ha⟩)
theorem Rw.tyD {K : PySem.W.Frag} {v : V} {ds : List (D × D)} (r : Rw K Hf H v (.dict ds)) (s : Sub Hf H) : tyW K "dict" v H := by
  obtain ⟨a, vs, rfl, ha, _⟩ := r.dict s
  exact .inr (.inr (.inl ⟨rfl, a, vs, rfl, ha⟩))
theorem me_indexL (c : Cok w k X) : MeOk X "index" "list" "list.index" (rIndexD X.K) := ⟨PySem.F.plainAttrs_list, PySem.F.slot_list_index, PySem.F.type_list_index, mt_indexD (by have := c.u; omega)⟩
theorem me_indexT (c : Cok w k X) : MeOk X "index" "tuple" "tuple.index" (rIdxT X.K) := ⟨PySem.F.plainAttrs_tuple, PySem.F.slot_tuple_index, PySem.F.type_tuple_index, mt_indexT c⟩
theorem ge_index (c : Cok w k X) {o e : Expr} {apos cpos : Pos} {f f' : EV} (ho : GE w X o f) (he : GE w X e f') (hbase : attributeBase o "index" X.env (eval o X.env) = eval o X.env := by rfl)
    (hfew : ((backTo cpos (starEach [e] X.env)).all (fun x => !x.1) && (backToKw cpos (keywordEach [] X.env)).all (fun x => x.1.isSome)
      && decide ([e].length + ([] : List Keyword).length + (if ([] : List Keyword).isEmpty then 0 else 1) < 30)) = true := by rfl)
    (hline : (apos.endLine == cpos.line) = true := by rfl) (hs : starEach [e] X.env = (false, eval e X.env) :: starEach [] X.env := by rfl) (hplain : (backTo cpos (starEach [] X.env)).any (·.1) = false := by rfl) :
    GE w X (.Call (.Attribute o "index" apos) [e] [] cpos) (kIndex f f') := by
  refine pe_imp (pe_md ho (pa_cons he pa_nil hs) hbase hfew hline hs hplain) fun σ H Q => ?_
  rintro ⟨Hf, s, φ, l, s', g, e, q⟩
  obtain ⟨⟨l1, s1⟩, h1, h2⟩ := R.bind_eq_ok.mp e
  obtain ⟨d0, h3, h4⟩ := R.bind_eq_ok.mp h2
  obtain ⟨⟨l2, s2⟩, h5, h6⟩ := R.bind_eq_ok.mp h4
  obtain ⟨d, h7, h8⟩ := R.bind_eq_ok.mp h6
  obtain ⟨e2, h9, h10⟩ := R.bind_eq_ok.mp h8
  simp only at h10
  split at h10
  · rename_i hq
    obtain ⟨l', h11, h12⟩ := R.bind_eq_ok.mp h10
    obtain ⟨e3, e4⟩ : l' = l ∧ s2 = s' := by cases h12; exact ⟨rfl, rfl⟩
    subst e3 e4
    clear h12
    refine ⟨Hf, s, φ, l1, s1, g, h1, fun v H1 Hf1 φ1 F1 g1 r1 k1 => ?_⟩
    have rest : ∀ (r : V → List V → Hp → VK → Prop), (∀ (v' : V) (H2 Hf2 : Hp) (φ2 : Nat → List Addr), Good w σ H2 Hf2 s2 φ2 → Rw w.K Hf2 H2 v d → Rw w.K Hf2 H2 v' e2 → PQ w σ H2 Hf2 s2 φ2 s2 l' Q → r v [v'] H2 Q) →
        tCons (tE w f') tNil σ H1 (fun vs H2 => r v vs H2 Q) := by
      intro r hr
      refine ⟨Hf1, s1, φ1, l2, s2, g1, h5, fun v' H2 Hf2 φ2 F2 g2 r2 k2 => ?_⟩
      exact hr v' H2 Hf2 φ2 g2 ((r1.stay (s' := s2) (φ' := φ2) k2 fun a => .inl).rw g2 h7) (r2.rw g2 h9) ((q.later k1 (fun a => .inl) g1).later k2 (fun a => .inl) g2)
    have w1 := r1.rw g1 h3
    cases d0 <;> cases d <;> first | cases hq | skip
    · refine ⟨"list", _, _, me_indexL c, by rw [c.K]; exact w1.tyL g1.sub, rest _ fun v' H2 Hf2 φ2 g2 w2 w3 q2 => ?_⟩
      simp only [pIndex] at h11
      split at h11
      · rename_i hb
        rw [Bool.and_eq_true] at hb
        split at h11
        · rename_i j hj
          cases h11
          obtain ⟨z, hz, hzj, hno⟩ := firstAt_ok hj
          have dp := w2.dp g2.sub (eqOk_lay hb.2)
          obtain ⟨a, vs, rfl, ha, _⟩ := w2.list g2.sub
          rw [c.K]
          exact ⟨a, v', _, _, j, z, rfl, rfl, dp, w3.dp g2.sub (eqOk_lay hb.1), hb.2, hb.1, hz, hzj, hno, q2.d g2 (.int _)⟩
        · cases h11
      · cases h11
    · refine ⟨"tuple", _, _, me_indexT c, by rw [c.K]; exact w1.tyT g1.sub, rest (rIdxT X.K) fun v' H2 Hf2 φ2 g2 w2 w3 q2 => ?_⟩
      simp only [pIndex] at h11
      split at h11
      · rename_i hb
        rw [Bool.and_eq_true] at hb
        split at h11
        · rename_i j hj
          cases h11
          unfold rIdxT
          rw [c.K]
          exact ⟨v', _, _, j, rfl, w2.dp g2.sub (eqOk_lay hb.2), hb.2, w3.dp g2.sub (eqOk_lay hb.1), hb.1, hj, q2.d g2 (.int _)⟩
        · cases h11
      · cases h11
  · cases h10
end
end KV

set_option Elab.async false
set_option linter.all false
set_option maxRecDepth 100000
set_option maxHeartbeats 2000000
/-! KVG: displays, stars, dicts made and asked, repetition. -/
namespace KV
open PySem L2
open PySem.Spec PyProof.Rows

section
variable {w : Wd} {k : Nat} {X : Cx} {pos : Pos} {σ : L2.St} {H Hf : Hp} {s s' : Sl} {φ : Nat → List Addr} {Q : VK}

/-! ### for good -/
theorem kD_ok {f : EV} {d : D} (h : kD f s = .ok (d, s')) : ∃ l s1, f s = .ok (l, s1) ∧ l.take s1 = .ok (d, s') := by
  obtain ⟨⟨l, s1⟩, h1, h2⟩ := R.bind_eq_ok.mp h
  exact ⟨l, s1, h1, h2⟩
/-- a value for good, and what follows -/
theorem tE_D {f : EV} {d : D} {R : V → Hp → Prop} (g : Good w σ H Hf s φ) (e : kD f s = .ok (d, s'))
    (h : ∀ v H' Hf' φ', Good w σ H' Hf' s' φ' → Rp w.K Hf' v d → Stp H Hf (Own s φ) H' Hf' (Own s' φ') → R v H') : tE w f σ H R := by
  obtain ⟨l, s1, h1, h2⟩ := kD_ok e
  refine ⟨Hf, s, φ, l, s1, g, h1, fun v H1 Hf1 φ1 F1 g1 r1 k1 => ?_⟩
  obtain ⟨Hf2, φ2, rp, g2, k2⟩ := r1.take g1 h2
  exact h v H1 Hf2 φ2 g2 rp (k1.trans k2 (fun _ => id) fun x hx => by
    rcases hx with hx | hx
    · exact g1.own_free hx
    · cases r1 with
      | d _ => cases hx
      | o _ => cases hx
      | t _ c => exact (c x hx).1)
theorem ga_nil : GA w X [] aNil := pa_imp pa_nil fun σ H Q => by
  rintro ⟨Hf, s, φ, ds, s', g, e, q⟩
  cases e
  exact q [] H Hf φ g .nil Stp.refl
theorem ga_cons {e : Expr} {es : List Expr} {f : EV} {g : AV} (he : GE w X e f) (hr : GA w X es g) (hs : starEach (e :: es) X.env = (false, eval e X.env) :: starEach es X.env := by rfl) : GA w X (e :: es) (aCons f g) := by
  refine pa_imp (pa_cons he hr hs) fun σ H Q => ?_
  rintro ⟨Hf, s, φ, ds, s', gd, e, q⟩
  obtain ⟨⟨d, s1⟩, h1, h2⟩ := R.bind_eq_ok.mp e
  obtain ⟨⟨es', s2⟩, h3, h4⟩ := R.bind_eq_ok.mp h2
  cases h4
  refine tE_D gd h1 fun v H1 Hf1 φ1 g1 r1 k1 => ⟨Hf1, s1, φ1, es', _, g1, h3, fun vs H2 Hf2 φ2 g2 r2 k2 => ?_⟩
  exact q (v :: vs) H2 Hf2 φ2 g2 (.cons (r1.mono k2.sub) r2) (k1.trans k2 (fun _ => id) fun x hx => g1.own_free hx)
theorem star_seqK {pins : List (Addr × Obj)} {st : Shared} {a : Addr} {vs : List V} {Q : List Value → Shared → Prop} {E : Value → Shared → Prop} (I : Inv X pins σ H st) (h : SqL X.K H a vs ∨ SqT X.K H a vs)
    (q : ∀ h' us, Inv X pins σ H { st with heap := h' } → Vals vs us → Q us { st with heap := h' }) : PySem.W.StarOf (model X.prog X.w) X.A E (.ref a) Q st := by
  unfold PySem.W.StarOf notIterableAtAll
  rcases h with h | h
  · obtain ⟨its, r, pl, hz⟩ := I.list h
    obtain ⟨o, ho, hc, n, hd⟩ := pl.isList
    exact wpAny_bind (wpAny_specialOf pl.isList.typeIs PySem.F.slot_list_iter.lookup (wpAny_pure ⟨rfl, wpAny_collect_seq a (.inl rfl) ho hc hd (fun h' hk => q h' _ (I.kept hk) (by simpa using r)) (by rw [List.size_toArray, ← r.length]; exact hz)⟩))
  · obtain ⟨its, r, ⟨o, ho, hc, n, hd⟩, hz⟩ := I.tuple h
    exact wpAny_bind (wpAny_specialOf ⟨o, ho, hc⟩ PySem.F.slot_tuple_iter.lookup (wpAny_pure ⟨rfl, wpAny_collect_seq a (.inr rfl) ho hc hd (fun h' hk => q h' _ (I.kept hk) (by simpa using r)) (by rw [List.size_toArray, ← r.length]; exact hz)⟩))
theorem pa_star {e : Expr} {es : List Expr} {p : Pos} {te : TE} {t : TA} (he : PE X e te) (hr : PA X es t) (hs : starEach (.Starred e p :: es) X.env = (true, eval e X.env) :: starEach es X.env := by rfl) :
    PA X (.Starred e p :: es) (fun σ H Q => te σ H fun x H1 => ∃ a vs, x = .ref a ∧ (SqL X.K H1 a vs ∨ SqT X.K H1 a vs) ∧ t σ H1 fun ws H2 => Q (vs ++ ws) H2) := by
  refine ⟨fun pos pins s σ H Q I h => ?_⟩
  refine PySem.W.items_star (thn (he.run pins s σ H _ I h) fun v s1 ⟨x, H1, I1, r1, a, vs, ex, hq, q⟩ => ?_) hs
  subst ex
  cases r1
  refine star_seqK I1 hq fun h' us I2 r2 => ?_
  exact thn (hr.run pos pins _ σ H1 _ I2 q) fun ws s2 ⟨zs, H2, I3, r3, q3⟩ => ⟨vs ++ zs, H2, I3, r2.append r3, q3⟩
theorem seqOf_ok {d : D} {xs : List D} (h : seqOf d = .ok xs) : d = .list xs ∨ d = .tuple xs := by
  unfold seqOf at h
  split at h
  · cases h; exact .inl rfl
  · cases h; exact .inr rfl
  · cases h
theorem ga_star (c : Cok w k X) {e : Expr} {es : List Expr} {p : Pos} {f : EV} {g : AV} (he : GE w X e f) (hr : GA w X es g) (hs : starEach (.Starred e p :: es) X.env = (true, eval e X.env) :: starEach es X.env := by rfl) : GA w X (.Starred e p :: es) (aStar f g) := by
  refine pa_imp (pa_star he hr hs) fun σ H Q => ?_
  rintro ⟨Hf, s, φ, ds, s', gd, e, q⟩
  obtain ⟨⟨d, s1⟩, h1, h2⟩ := R.bind_eq_ok.mp e
  obtain ⟨xs, h3, h4⟩ := R.bind_eq_ok.mp h2
  obtain ⟨⟨ys, s2⟩, h5, h6⟩ := R.bind_eq_ok.mp h4
  obtain ⟨l1, h7, h8⟩ := kG_ok h1
  cases h6
  refine ⟨Hf, s, φ, l1, s1, gd, h7, fun v H1 Hf1 φ1 F1 g1 r1 k1 => ?_⟩
  have w1 := r1.rw g1 h8
  have fin : ∀ vs, RpA w.K Hf1 vs xs → tA w g σ H1 fun ws H2 => Q (vs ++ ws) H2 := fun vs r => ⟨Hf1, s1, φ1, ys, _, g1, h5, fun ws H2 Hf2 φ2 g2 r2 k2 =>
    q (vs ++ ws) H2 Hf2 φ2 g2 ((r.mono k2.sub).append r2) ((k1.weak (P2 := Own s1 φ1) (fun _ h => .inl h)).trans k2 (fun _ => id) fun x hx => g1.own_free hx)⟩
  rcases seqOf_ok h3 with rfl | rfl
  · obtain ⟨a, vs, rfl, ha, r⟩ := w1.list g1.sub
    exact ⟨a, vs, rfl, .inl (SqL.of ha), fin vs r⟩
  · obtain ⟨a, vs, rfl, ha, r⟩ := w1.tup g1.sub
    exact ⟨a, vs, rfl, .inr (by rw [c.K]; exact ha.sq), fin vs r⟩

/-! ### displays -/
def tTupF (t : TA) : TE := fun σ H Q => t σ H fun xs H1 => xs.length ≤ sizeLine ∧ ∀ p, H1 p = none → ∀ o : Obj, o.dict = none → Q (.ref p) (upd H1 p (.frz o (.tup xs)))
theorem pe_tupF {x1 : Nat} {es : List Expr} {t : TA} (h : PA X es t) : PE X (.Tuple es x1 pos) (tTupF t) := by
  refine ⟨fun pins s σ H Q I hq => ?_⟩
  refine wpAny_Tuple_spliced (thn (h.run pos pins s σ H _ I hq) fun us s1 ⟨xs, H1, I1, r, z, q⟩ => ⟨by rw [← r.length]; exact z, ?_⟩)
  have hl := I1.laid (t' := s1.toks) (a := s1.heap.objs.size) (h' := s1.heap.push { cls := .type "tuple", data := .seq us.toArray }) (o := .frz { cls := .type "tuple", data := .seq us.toArray } (.tup xs)) (fun b u e => Heap.get?_push_of_some _ e) (Nat.le_refl _)
    ⟨Heap.get?_push_size _ rfl, z, us, r, ⟨_, Heap.get?_push_size _ rfl, rfl, _, rfl⟩⟩
  exact ⟨.ref s1.heap.objs.size, _, hl, rfl, q _ (I1.hok.fresh (Nat.le_refl _)) _ rfl⟩
theorem ge_tup {x1 : Nat} {es : List Expr} {g : AV} (h : GA w X es g) : GE w X (.Tuple es x1 pos) (kTup g) := by
  refine pe_imp (pe_tupF h) fun σ H Q => ?_
  rintro ⟨Hf, s, φ, l, s', gd, e, q⟩
  obtain ⟨⟨ds, s1⟩, h1, h2⟩ := R.bind_eq_ok.mp e
  simp only at h2
  split at h2
  · rename_i hz
    cases h2
    refine ⟨Hf, s, φ, ds, _, gd, h1, fun vs H1 Hf1 φ1 g1 r1 k1 => ⟨by rw [r1.length]; exact sz_line (szOk_le hz), fun p hp o ho => (q.later k1 (fun _ => id) g1).tup g1 r1 hp ho⟩⟩
  · cases h2
theorem ge_lst {es : List Expr} {g : AV} (h : GA w X es g) : GE w X (.List es pos) (kLst g) := by
  refine pe_imp (pe_lst h) fun σ H Q => ?_
  rintro ⟨Hf, s, φ, l, s', gd, e, q⟩
  obtain ⟨⟨ds, s1⟩, h1, h2⟩ := R.bind_eq_ok.mp e
  simp only at h2
  split at h2
  · rename_i hz
    cases h2
    refine ⟨Hf, s, φ, ds, _, gd, h1, fun vs H1 Hf1 φ1 g1 r1 k1 => ⟨by rw [r1.length]; exact sz_line (szOk_le hz), fun p hp => (q.later k1 (fun _ => id) g1).lst g1 r1 hp⟩⟩
  · cases h2

/-! ### dict(pairs), d.get -/
theorem pairs_rp {K : PySem.W.Frag} {H Hf : Hp} (sub : Sub Hf H) : ∀ {vs : List V} {ds : List D} {ps : List (D × D)}, RpA K Hf vs ds → pairsOf ds = some ps →
    ∃ (as : List Addr) (kvs : List (Key × V)), vs = as.map V.ref ∧ Paired (fun p kv => SqT K H p [kV kv.1, kv.2]) as kvs ∧ RpKv K Hf kvs ps
  | _, _, _, .nil, h => by cases h; exact ⟨[], [], rfl, .nil, .nil⟩
  | _, _, _, .cons (d := d) (ds := ds) r t, h => by
    unfold pairsOf at h
    split at h
    · rename_i e; cases e
    · rename_i e
      cases e
      split at h
      · rename_i hk
        obtain ⟨qs, h1, rfl⟩ := Option.map_eq_some_iff.mp h
        obtain ⟨as, kvs, rfl, h2, h3⟩ := pairs_rp sub t h1
        obtain ⟨ky, hk⟩ := Option.isSome_iff_exists.mp hk
        have e := keyOf_some hk
        subst e
        cases r with
        | tup hs ra =>
          cases ra with
          | cons r1 ra =>
            cases ra with
            | cons r2 ra =>
              cases ra
              have ev := (Rw.st (H := Hf) r1).key
              subst ev
              exact ⟨_ :: as, (ky, _) :: kvs, rfl, .cons (sub.sqT hs.sq) h2, .cons r2 h3⟩
      · cases h
    · cases h
theorem merge_rp {K : PySem.W.Frag} {H : Hp} : ∀ {kvs : List (Key × V)} {ps : List (D × D)} {acc : List (Key × V)} {ads : List (D × D)}, RpKv K H kvs ps → RpKv K H acc ads → RpKv K H (mergeK acc kvs) (mergeD ads ps)
  | _, _, _, _, .nil, r => r
  | _, _, _, _, .cons (k := k) (kvs := kvs) (ds := ps) h t, r => by
    exact merge_rp (kvs := kvs) (ps := ps) t (r.put k h)
theorem ge_dictL (hm : X.mg "dict" = none) (c : Cok w k X) {a : Expr} {f : EV} {px : Pos} (ha : GE w X a f) (hg : Gl X "dict" := by rfl) (he : starEach [a] X.env = (false, eval a X.env) :: starEach [] X.env := by rfl) : GE w X (.Call (.Name "dict" px) [a] [] pos) (k1 pDict f) := by
  refine ge_t1 (call_dictP c.calm) ?_ hm ha PyProof.Rows.boot_dict hg (by decide) (by decide) he
  intro σ H Hf s φ v d l Q g r hp q
  unfold pDict at hp
  split at hp
  · split at hp
    · rename_i ds ps hps
      cases hp
      obtain ⟨a, vs, rfl, ha, r⟩ := r.list g.sub
      obtain ⟨as, kvs, rfl, h2, h3⟩ := pairs_rp g.sub r hps
      rw [c.K]
      exact ⟨a, as, kvs, rfl, SqL.of ha, h2, fun p hp => q.dct g (merge_rp h3 .nil) hp⟩
    · cases hp
  · cases hp
theorem Vs.key {v : V} {d : D} (h : Vs v d) : ∃ ky, d = keyD ky ∧ v = kV ky := by
  cases h with
  | int i => exact ⟨.inl i, rfl, rfl⟩
  | str x => exact ⟨.inr x, rfl, rfl⟩
theorem m1_of {o e : Expr} {nm : Str} {apos cpos : Pos} (h1 : attributeBase o nm X.env (eval o X.env) = eval o X.env)
    (h2 : ((backTo cpos (starEach [e] X.env)).all (fun x => !x.1) && (backToKw cpos (keywordEach [] X.env)).all (fun x => x.1.isSome) && decide (([e] : List Expr).length + ([] : List Keyword).length + (if ([] : List Keyword).isEmpty then 0 else 1) < 30)) = true)
    (h3 : (apos.endLine == cpos.line) = true) (h4 : backTo cpos (starEach [e] X.env) = [(false, eval e X.env)]) : M1 X o nm apos e cpos := ⟨h1, h2, h3, h4⟩
theorem ge_get1 (c : Cok w k X) {o e : Expr} {apos cpos : Pos} {f f' : EV} (ho : GE w X o f) (he : GE w X e f') (m : M1 X o "get" apos e cpos := by exact ⟨rfl, rfl, rfl, rfl⟩) : GE w X (.Call (.Attribute o "get" apos) [e] [] cpos) (kGet1 f f') := by
  refine pe_imp (pe_dget1 (by have := c.u; omega) ho he m) fun σ H Q => ?_
  rintro ⟨Hf, s, φ, l, s', gd, e, q⟩
  obtain ⟨⟨l1, s1⟩, h1, h2⟩ := R.bind_eq_ok.mp e
  obtain ⟨d0, h3, h4⟩ := R.bind_eq_ok.mp h2
  simp only at h4
  split at h4
  · rename_i hd0
    obtain ⟨⟨kd, s2⟩, h5, h6⟩ := R.bind_eq_ok.mp h4
    obtain ⟨d, h7, h8⟩ := R.bind_eq_ok.mp h6
    obtain ⟨l2, h9, h10, h11⟩ := kS_ok h5
    simp only at h8
    split at h8
    · rename_i kvs
      obtain ⟨e3, e4⟩ : s2 = s' ∧ L.d ((lookD kvs kd).getD .none) = l := by cases h8; exact ⟨rfl, rfl⟩
      subst e3 e4
      refine ⟨Hf, s, φ, l1, s1, gd, h1, fun v H1 Hf1 φ1 F1 g1 r1 k1 => ?_⟩
      have w1 := r1.rw g1 h3
      cases d0 with
      | dict k0 =>
        obtain ⟨a, vs, rfl, ha, _⟩ := w1.dict g1.sub
        refine ⟨a, rfl, .inl ⟨vs, ha⟩, ⟨Hf1, s1, φ1, l2, s2, g1, h9, fun v' H2 Hf2 φ2 F2 g2 r2 k2 => ?_⟩⟩
        have w2 := (r1.stay (s' := s2) (φ' := φ2) k2 fun a => .inl).rw g2 h7
        obtain ⟨ky, rfl, rfl⟩ := (Vs.of (r2.rw g2 h10) h11).key
        obtain ⟨a', kvs', ea, ha', rk⟩ := w2.dict g2.sub
        cases ea
        have q2 := (q.later k1 (fun a => .inl) g1).later k2 (fun a => .inl) g2
        refine ⟨_, .inl ⟨_, _, ha', rfl, rfl⟩, ?_⟩
        rcases rk.look ky with ⟨e1, e2⟩ | ⟨d', v', e1, e2, r3⟩
        · rw [e1] at q2; rw [e2]; exact q2.d g2 .non
        · rw [e1] at q2; rw [e2]; exact q2.d g2 r3
      | none => cases hd0
      | bool b => cases hd0
      | int b => cases hd0
      | str b => cases hd0
      | list b => cases hd0
      | tuple b => cases hd0
    · cases h8
  · cases h4
theorem ge_get2 (c : Cok w k X) {o e e2 : Expr} {apos cpos : Pos} {f f' f'' : EV} (ho : GE w X o f) (he : GE w X e f') (hx : GE w X e2 f'') (m : M2 X o "get" apos e e2 cpos := by exact ⟨rfl, rfl, rfl, rfl⟩) : GE w X (.Call (.Attribute o "get" apos) [e, e2] [] cpos) (kGet2 f f' f'') := by
  refine pe_imp (pe_dget2 (by have := c.u; omega) ho he hx m) fun σ H Q => ?_
  rintro ⟨Hf, s, φ, l, s', gd, e, q⟩
  obtain ⟨⟨l1, s1⟩, h1, h2⟩ := R.bind_eq_ok.mp e
  obtain ⟨d0, h3, h4⟩ := R.bind_eq_ok.mp h2
  simp only at h4
  split at h4
  · rename_i hd0
    obtain ⟨⟨kd, s2⟩, h5, h6⟩ := R.bind_eq_ok.mp h4
    obtain ⟨⟨xd, s3⟩, h7, h8⟩ := R.bind_eq_ok.mp h6
    obtain ⟨d, h9, h10⟩ := R.bind_eq_ok.mp h8
    obtain ⟨l2, h11, h12, h13⟩ := kS_ok h5
    simp only at h10
    split at h10
    · rename_i kvs
      obtain ⟨e3, e4⟩ : s3 = s' ∧ L.d ((lookD kvs kd).getD xd) = l := by cases h10; exact ⟨rfl, rfl⟩
      subst e3 e4
      refine ⟨Hf, s, φ, l1, s1, gd, h1, fun v H1 Hf1 φ1 F1 g1 r1 k1 => ?_⟩
      have w1 := r1.rw g1 h3
      cases d0 with
      | dict k0 =>
        obtain ⟨a, vs, rfl, ha, _⟩ := w1.dict g1.sub
        refine ⟨a, rfl, .inl ⟨vs, ha⟩, ⟨Hf1, s1, φ1, l2, s2, g1, h11, fun v' H2 Hf2 φ2 F2 g2 r2 k2 => ?_⟩⟩
        obtain ⟨ky, rfl, rfl⟩ := (Vs.of (r2.rw g2 h12) h13).key
        refine tE_D g2 h7 fun v3 H3 Hf3 φ3 g3 r3 k3 => ?_
        have w3 := ((r1.stay (s' := s2) (φ' := φ2) k2 fun a => .inl).stay (s' := s3) (φ' := φ3) k3 fun _ => id).rw g3 h9
        obtain ⟨a', kvs', ea, ha', rk⟩ := w3.dict g3.sub
        cases ea
        have q3 := ((q.later k1 (fun a => .inl) g1).later k2 (fun a => .inl) g2).later k3 (fun _ => id) g3
        refine ⟨_, .inl ⟨_, _, ha', rfl, rfl⟩, ?_⟩
        rcases rk.look ky with ⟨e1, e2⟩ | ⟨d', v', e1, e2, r4⟩
        · rw [e1] at q3; rw [e2]; exact q3.d g3 r3
        · rw [e1] at q3; rw [e2]; exact q3.d g3 r4
      | none => cases hd0
      | bool b => cases hd0
      | int b => cases hd0
      | str b => cases hd0
      | list b => cases hd0
      | tuple b => cases hd0
    · cases h10
  · cases h4
end
end KV

set_option Elab.async false
set_option linter.all false
set_option maxRecDepth 100000
set_option maxHeartbeats 2000000
/-! KVH: slots that are set, statements, targets, loops. -/
namespace KV
open PySem L2
open PySem.Spec PyProof.Rows

section
variable {w : Wd} {k : Nat} {X : Cx} {pos : Pos} {σ : L2.St} {H Hf : Hp} {s s' : Sl} {φ : Nat → List Addr} {Q : VK} {io : List Nat}

theorem set_at {i j : Nat} {t u : T} {s : Sl} (q : (s.set i (some t))[j]? = some (some u)) : (j = i ∧ u = t ∧ i < s.length) ∨ (j ≠ i ∧ s[j]? = some (some u)) := by
  by_cases z : j = i
  · subst z
    by_cases h : j < s.length
    · rw [List.getElem?_set_self h] at q
      cases q
      exact .inl ⟨rfl, rfl, h⟩
    · rw [List.getElem?_eq_none (by rw [List.length_set]; omega)] at q; cases q
  · rw [List.getElem?_set_ne (Ne.symm z)] at q
    exact .inr ⟨z, q⟩
theorem clr_at {i j : Nat} {u : T} {s : Sl} (q : (s.set i none)[j]? = some (some u)) : j ≠ i ∧ s[j]? = some (some u) := by
  by_cases z : j = i
  · subst z
    by_cases h : j < s.length
    · rw [List.getElem?_set_self h] at q; cases q
    · rw [List.getElem?_eq_none (by rw [List.length_set]; omega)] at q; cases q
  · rw [List.getElem?_set_ne (Ne.symm z)] at q
    exact ⟨z, q⟩
def phi (φ : Nat → List Addr) (i : Nat) (F : List Addr) : Nat → List Addr := fun j => if j = i then F else φ j
theorem phi_same {i : Nat} {F : List Addr} : phi φ i F i = F := if_pos rfl
theorem phi_ne {i j : Nat} {F : List Addr} (h : j ≠ i) : phi φ i F j = φ j := if_neg h
theorem Good.set {v : V} {t : T} {F : List Addr} {i : Nat} (g : Good w σ H Hf s φ) (r : OR w Hf H v t F) (c : ∀ a ∈ F, Hf a = none ∧ ∀ j u, j ≠ i → s[j]? = some (some u) → a ∉ φ j) :
    Good w (σ.set i (some v)) H Hf (s.set i (some t)) (phi φ i F) ∧ ∀ a, Own (s.set i (some t)) (phi φ i F) a → Own s φ a ∨ a ∈ F := by
  refine ⟨⟨g.sub, by rw [List.length_set, List.length_set]; exact g.len, fun j u q => ?_, fun j u a q m => ?_, fun j k u u' a q1 q2 m1 m2 => ?_⟩, fun a q => ?_⟩
  · rcases set_at q with ⟨rfl, rfl, h⟩ | ⟨z, q⟩
    · rw [phi_same]
      exact ⟨v, List.getElem?_set_self (by rw [← g.len]; exact h), r⟩
    · rw [phi_ne z]
      obtain ⟨v', e, r'⟩ := g.here j u q
      exact ⟨v', by rw [List.getElem?_set_ne (Ne.symm z)]; exact e, r'⟩
  · rcases set_at q with ⟨rfl, rfl, h⟩ | ⟨z, q⟩
    · rw [phi_same] at m; exact (c a m).1
    · rw [phi_ne z] at m; exact g.fr j u a q m
  · rcases set_at q1 with ⟨e1, _, _⟩ | ⟨z1, p1⟩
    · rcases set_at q2 with ⟨e2, _, _⟩ | ⟨z2, p2⟩
      · rw [e1, e2]
      · rw [e1, phi_same] at m1; rw [phi_ne z2] at m2
        exact ((c a m1).2 k u' z2 p2 m2).elim
    · rcases set_at q2 with ⟨e2, _, _⟩ | ⟨z2, p2⟩
      · rw [e2, phi_same] at m2; rw [phi_ne z1] at m1
        exact ((c a m2).2 j u z1 p1 m1).elim
      · rw [phi_ne z1] at m1; rw [phi_ne z2] at m2
        exact g.dj j k u u' a p1 p2 m1 m2
  · obtain ⟨j, u, q, m⟩ := q
    rcases set_at q with ⟨e, _, _⟩ | ⟨z, q⟩
    · rw [e, phi_same] at m; exact .inr m
    · rw [phi_ne z] at m; exact .inl ⟨j, u, q, m⟩
theorem Good.clr {i : Nat} (g : Good w σ H Hf s φ) : Good w σ H Hf (s.set i none) φ ∧ ∀ a, Own (s.set i none) φ a → Own s φ a :=
  ⟨⟨g.sub, by rw [List.length_set]; exact g.len, fun j u q => g.here j u (clr_at q).2, fun j u a q m => g.fr j u a (clr_at q).2 m, fun j k u u' a q1 q2 m1 m2 => g.dj j k u u' a (clr_at q1).2 (clr_at q2).2 m1 m2⟩,
    fun a ⟨j, u, q, m⟩ => ⟨j, u, (clr_at q).2, m⟩⟩
/-- an object of nobody's slot is written -/
theorem Good.updO {a : Addr} {o : HO} (g : Good w σ H Hf s φ) (hf : Hf a = none) (no : ¬ Own s φ a) : Good w σ (upd H a o) Hf s φ := by
  refine ⟨fun x u e => ?_, g.len, fun i t e => ?_, g.fr, g.dj⟩
  · have : x ≠ a := fun z => by rw [z, hf] at e; cases e
    rw [upd_ne this]; exact g.sub x u e
  · obtain ⟨v, e1, r⟩ := g.here i t e
    refine ⟨v, e1, r.stay (Sub.refl _) fun x hx u q => ?_⟩
    have : x ≠ a := fun z => no ⟨i, t, e, z ▸ hx⟩
    rw [upd_ne this]; exact q
/-- a slot's own object is written -/
theorem Good.updS {a : Addr} {o : HO} {i : Nat} {t t' : T} (g : Good w σ H Hf s φ) (h : s[i]? = some (some t)) (e : φ i = [a]) {v : V} (hv : σ[i]? = some (some v)) (r : OR w Hf (upd H a o) v t' [a]) :
    Good w σ (upd H a o) Hf (s.set i (some t')) φ ∧ ∀ x, Own (s.set i (some t')) φ x → Own s φ x := by
  have hf : Hf a = none := g.fr i t a h (by rw [e]; simp)
  refine ⟨⟨fun x u q => ?_, by rw [List.length_set]; exact g.len, fun j u q => ?_, fun j u x q m => ?_, fun j k u u' x q1 q2 m1 m2 => ?_⟩, fun x q => ?_⟩
  · have : x ≠ a := fun z => by rw [z, hf] at q; cases q
    rw [upd_ne this]; exact g.sub x u q
  · rcases set_at q with ⟨rfl, rfl, _⟩ | ⟨z, q⟩
    · rw [e]; exact ⟨v, hv, r⟩
    · obtain ⟨v', e1, r'⟩ := g.here j u q
      refine ⟨v', e1, r'.stay (Sub.refl _) fun x hx u' q' => ?_⟩
      have : x ≠ a := fun y => z (g.dj j i u t x q h hx (by rw [e, y]; simp))
      rw [upd_ne this]; exact q'
  · rcases set_at q with ⟨rfl, _, _⟩ | ⟨z, q⟩
    · exact g.fr _ t x h m
    · exact g.fr j u x q m
  · have fix : ∀ {j : Nat} {u : T}, (s.set i (some t'))[j]? = some (some u) → ∃ u0, s[j]? = some (some u0) := fun {j u} q => by
      rcases set_at q with ⟨rfl, _, _⟩ | ⟨_, q⟩
      · exact ⟨_, h⟩
      · exact ⟨_, q⟩
    obtain ⟨u1, q1⟩ := fix q1
    obtain ⟨u2, q2⟩ := fix q2
    exact g.dj j k u1 u2 x q1 q2 m1 m2
  · obtain ⟨j, u, q, m⟩ := q
    rcases set_at q with ⟨rfl, _, _⟩ | ⟨_, q⟩
    · exact ⟨_, _, h, m⟩
    · exact ⟨_, _, q, m⟩
theorem Stp.updO {H1 Hf1 : Hp} {P P1 : Addr → Prop} {a : Addr} {o : HO} (c : Stp H Hf P H1 Hf1 P1) (hp : P1 a) (hn : Hf1 a = none) : Stp H Hf P (upd H1 a o) Hf1 P1 := by
  refine ⟨c.sub, fun x u e n => ?_, c.new⟩
  have : x ≠ a := fun z => by
    subst z
    rcases c.new x (.inl hp) with q | q | q
    · exact n q
    · cases e1 : Hf x with
      | none => exact q e1
      | some u' => have := c.sub x u' e1; rw [hn] at this; cases this
    · rw [e] at q; cases q
  rw [upd_ne this]; exact c.keep x u e n

/-! ### a value comes into a slot -/
theorem RL.put {v : V} {l : L} {F : List Addr} {i : Nat} (r : RL w σ Hf H s φ v l F) (g : Good w σ H Hf s φ) (e : setL i l s = .ok s') :
    ∃ φ', Good w (σ.set i (some v)) H Hf s' φ' ∧ ∀ a, Own s' φ' a → Own s φ a ∨ a ∈ F := by
  cases r with
  | d r =>
    cases e
    exact ⟨_, g.set (.val r) fun a ha => nomatch ha⟩
  | t r c =>
    cases e
    exact ⟨_, g.set r fun a ha => ⟨(c a ha).1, fun j u _ q m => (c a ha).2 ⟨j, u, q, m⟩⟩⟩
  | o h =>
    rename_i j
    simp only [setL] at e
    split at e
    · rename_i t ht
      cases e
      obtain ⟨v', e1, r⟩ := g.here j t ht
      rw [h] at e1; cases e1
      obtain ⟨g1, o1⟩ := g.clr (i := j)
      obtain ⟨g2, o2⟩ := g1.set (i := i) r fun a ha => ⟨g.fr j t a ht ha, fun k u _ q m => (clr_at q).1 (g.dj k j u t a (clr_at q).2 ht m ha)⟩
      refine ⟨_, g2, fun a q => ?_⟩
      rcases o2 a q with q | q
      · exact .inl (o1 a q)
      · exact .inl ⟨j, t, ht, q⟩
    · cases e

/-! ### statements -/
/-- the slots io hold what they held -/
def Kp (io : List Nat) (σ σ' : L2.St) : Prop := ∀ i ∈ io, σ'[i]? = σ[i]?
theorem Kp.refl {io : List Nat} {σ : L2.St} : Kp io σ σ := fun _ _ => rfl
theorem Kp.trans {io : List Nat} {σ σ1 σ2 : L2.St} (a : Kp io σ σ1) (b : Kp io σ1 σ2) : Kp io σ σ2 := fun i h => (b i h).trans (a i h)
theorem Kp.set {io : List Nat} {σ : L2.St} {i : Nat} {v : Option V} (h : i ∉ io) : Kp io σ (σ.set i v) := fun j hj => List.getElem?_set_ne fun z => h (by rw [z]; exact hj)
theorem Kp.of {io ts : List Nat} {σ σ' : L2.St} (h : ∀ i, i ∉ ts → σ'[i]? = σ[i]?) (d : ∀ i ∈ ts, i ∉ io) : Kp io σ σ' := fun i hi => h i fun z => d i z hi
/-- what follows a statement -/
def PP (w : Wd) (io : List Nat) (σ : L2.St) (H Hf : Hp) (s : Sl) (φ : Nat → List Addr) (D : Ends) : Fl → Sl → Prop
  | .nx, s' => ∀ σ' H' Hf' φ', Good w σ' H' Hf' s' φ' → Stp H Hf (Own s φ) H' Hf' (Own s' φ') → Kp io σ σ' → D.nx σ' H'
  | .bk, s' => ∀ σ' H' Hf' φ', Good w σ' H' Hf' s' φ' → Stp H Hf (Own s φ) H' Hf' (Own s' φ') → Kp io σ σ' → D.bk σ' H'
  | .ct, s' => ∀ σ' H' Hf' φ', Good w σ' H' Hf' s' φ' → Stp H Hf (Own s φ) H' Hf' (Own s' φ') → Kp io σ σ' → D.ct σ' H'
  | .rt t, s' => ∀ v σ' H' Hf' φ' F, Good w σ' H' Hf' s' φ' → OR w Hf' H' v t F → (∀ a ∈ F, Hf' a = none ∧ ¬ Own s' φ' a) → Stp H Hf (Own s φ) H' Hf' (fun a => Own s' φ' a ∨ a ∈ F) → Kp io σ σ' → D.rt v H'
def tS (w : Wd) (io : List Nat) (f : SV) : TS := fun D σ H => ∃ Hf s φ fl s', Good w σ H Hf s φ ∧ f s = .ok (fl, s') ∧ PP w io σ H Hf s φ D fl s'
abbrev GS (w : Wd) (io : List Nat) (X : Cx) (st : Stmt) (f : SV) : Prop := PS X st (tS w io f)
abbrev GSs (w : Wd) (io : List Nat) (X : Cx) (sts : List Stmt) (f : SV) : Prop := PSs X sts (tS w io f)
theorem ps_imp {X : Cx} {st : Stmt} {t t' : TS} (h : PS X st t) (i : ∀ D σ H, t' D σ H → t D σ H) : PS X st t' := ⟨fun pins s σ H D I q => h.run pins s σ H D I (i D σ H q)⟩
theorem pss_imp {X : Cx} {st : List Stmt} {t t' : TS} (h : PSs X st t) (i : ∀ D σ H, t' D σ H → t D σ H) : PSs X st t' := ⟨fun pins s σ H D I q => h.run pins s σ H D I (i D σ H q)⟩
theorem PP.later {D : Ends} {fl : Fl} {s1 : Sl} {H1 Hf1 : Hp} {σ1 : L2.St} {φ1 : Nat → List Addr} {P1 : Addr → Prop} (q : PP w io σ H Hf s φ D fl s') (k : Stp H Hf (Own s φ) H1 Hf1 P1) (hp : ∀ a, Own s1 φ1 a → P1 a) (g1 : Good w σ1 H1 Hf1 s1 φ1) (kp : Kp io σ σ1 := by exact Kp.refl) : PP w io σ1 H1 Hf1 s1 φ1 D fl s' := by
  cases fl with
  | nx => exact fun σ' H' Hf' φ' g k' kp' => q σ' H' Hf' φ' g (k.trans k' hp fun x hx => g1.own_free hx) (kp.trans kp')
  | bk => exact fun σ' H' Hf' φ' g k' kp' => q σ' H' Hf' φ' g (k.trans k' hp fun x hx => g1.own_free hx) (kp.trans kp')
  | ct => exact fun σ' H' Hf' φ' g k' kp' => q σ' H' Hf' φ' g (k.trans k' hp fun x hx => g1.own_free hx) (kp.trans kp')
  | rt t => exact fun v σ' H' Hf' φ' F g r c k' kp' => q v σ' H' Hf' φ' F g r c (k.trans k' hp fun x hx => g1.own_free hx) (kp.trans kp')
theorem gss_nil : GSs w io X [] sNil := pss_imp pss_nil fun D σ H => by
  rintro ⟨Hf, s, φ, fl, s', g, e, q⟩
  cases e
  exact q σ H Hf φ g Stp.refl Kp.refl
theorem gs_pass : GS w io X (.Pass pos) sNil := ps_imp ps_pass fun D σ H => by
  rintro ⟨Hf, s, φ, fl, s', g, e, q⟩
  cases e
  exact q σ H Hf φ g Stp.refl Kp.refl
theorem gs_brk : GS w io X (.Break pos) sBrk := ps_imp ps_break fun D σ H => by
  rintro ⟨Hf, s, φ, fl, s', g, e, q⟩
  cases e
  exact q σ H Hf φ g Stp.refl Kp.refl
theorem gs_cnt : GS w io X (.Continue pos) sCnt := ps_imp ps_continue fun D σ H => by
  rintro ⟨Hf, s, φ, fl, s', g, e, q⟩
  cases e
  exact q σ H Hf φ g Stp.refl Kp.refl
theorem tS_seq {f g : SV} {D : Ends} : tS w io (sCons f g) D σ H → tSeq (tS w io f) (tS w io g) D σ H := by
  rintro ⟨Hf, s, φ, fl, s', gd, e, q⟩
  obtain ⟨⟨f1, s1⟩, h1, h2⟩ := R.bind_eq_ok.mp e
  refine ⟨Hf, s, φ, f1, s1, gd, h1, ?_⟩
  cases f1 with
  | nx => exact fun σ1 H1 Hf1 φ1 g1 k1 kp => ⟨Hf1, s1, φ1, fl, s', g1, h2, q.later k1 (fun _ => id) g1 kp⟩
  | bk => cases h2; exact q
  | ct => cases h2; exact q
  | rt t => cases h2; exact q
theorem gss_cons {st : Stmt} {rest : List Stmt} {f g : SV} (h1 : GS w io X st f) (h2 : GSs w io X rest g) : GSs w io X (st :: rest) (sCons f g) := pss_imp (pss_cons h1 h2) fun _ _ _ => tS_seq
theorem gss_one {st : Stmt} {f : SV} (h1 : GS w io X st f) : GSs w io X [st] f := pss_one h1
theorem gs_if {c : Expr} {a b : List Stmt} {fc : BV} {f g : SV} (hc : GB w X c fc) (ha : GSs w io X a f) (hb : GSs w io X b g) : GS w io X (.If c a b pos) (sIf fc f g) := ps_imp (ps_if hc ha hb) fun D σ H => by
  rintro ⟨Hf, s, φ, fl, s', gd, e, q⟩
  obtain ⟨⟨b1, s1⟩, h1, h2⟩ := R.bind_eq_ok.mp e
  refine ⟨Hf, s, φ, b1, s1, gd, h1, fun H1 Hf1 φ1 g1 k1 => ?_⟩
  cases b1 with
  | true => exact ⟨Hf1, s1, φ1, fl, s', g1, h2, q.later k1 (fun _ => id) g1⟩
  | false => exact ⟨Hf1, s1, φ1, fl, s', g1, h2, q.later k1 (fun _ => id) g1⟩
theorem gs_drop {e : Expr} {f : EV} (he : GE w X e f) (hs : swapsWith e none pos.line X.env = pure false := by rfl) : GS w io X (.Expr e pos) (sDrop f) := ps_imp (ps_expr he hs) fun D σ H => by
  rintro ⟨Hf, s, φ, fl, s', gd, e, q⟩
  obtain ⟨⟨l, s1⟩, h1, h2⟩ := R.bind_eq_ok.mp e
  cases h2
  exact ⟨Hf, s, φ, l, s1, gd, h1, fun v H1 Hf1 φ1 F1 g1 r1 k1 => q σ H1 Hf1 φ1 g1 (k1.weak fun a => .inl) Kp.refl⟩
theorem gs_retN : GS w io X (.Return none pos) sRetN := ps_imp ps_retN fun D σ H => by
  rintro ⟨Hf, s, φ, fl, s', gd, e, q⟩
  cases e
  exact q .non σ H Hf φ [] gd (.val .non) (fun a h => nomatch h) (Stp.refl.weak fun a h => h.elim id fun z => nomatch z) Kp.refl
theorem gs_ret {e : Expr} {f : EV} (he : GE w X e f) : GS w io X (.Return (some e) pos) (sRet f) := ps_imp (ps_ret he) fun D σ H => by
  rintro ⟨Hf, s, φ, fl, s', gd, e, q⟩
  obtain ⟨⟨l, s1⟩, h1, h2⟩ := R.bind_eq_ok.mp e
  obtain ⟨t, h3, h4⟩ := R.bind_eq_ok.mp h2
  cases h4
  refine ⟨Hf, s, φ, l, s1, gd, h1, fun v H1 Hf1 φ1 F1 g1 r1 k1 => ?_⟩
  cases r1 with
  | d r => cases h3; exact q v σ H1 Hf1 φ1 [] g1 (.val r) (fun a h => nomatch h) k1 Kp.refl
  | t r c => cases h3; exact q v σ H1 Hf1 φ1 F1 g1 r c k1 Kp.refl
  | o h =>
    rename_i j
    simp only [retL] at h3
    split at h3
    · rename_i u hu
      cases h3
      obtain ⟨v', e1, r⟩ := g1.here j t hu
      rw [h] at e1; cases e1
      obtain ⟨g2, o2⟩ := g1.clr (i := j)
      refine q v σ H1 Hf1 φ1 (φ1 j) g2 r (fun a ha => ⟨g1.fr j t a hu ha, fun ⟨k, u', q', m⟩ => (clr_at q').1 (g1.dj k j u' t a (clr_at q').2 hu m ha)⟩) (k1.weak fun a z => .inl ?_) Kp.refl
      rcases z with z | z
      · exact o2 a z
      · exact ⟨j, t, hu, z⟩
    · cases h3
/-- name = e -/
theorem gs_set (i : Nat) {x : Str} {e : Expr} {f : EV} {pos' : Pos} (hN : X.N.Nodup) (he : GE w X e f) (hio : i ∉ io := by decide) (hi : X.N[i]? = some x := by rfl) (hx : Loc X.env.scope x := by first | exact .inl rfl | exact .inr rfl) (hs : swapsWith e (some (.Name x pos')) pos.line X.env = pure false := by rfl)
    (hf : X.fn x = true ∨ X.env.scope.names.lookup x = some .local := by first | exact .inl rfl | exact .inr rfl) : GS w io X (.Assign [.Name x pos'] e pos) (sSet i f) := ps_imp (ps_set hN hi hx he hs hf) fun D σ H => by
  rintro ⟨Hf, s, φ, fl, s', gd, e, q⟩
  obtain ⟨⟨l, s1⟩, h1, h2⟩ := R.bind_eq_ok.mp e
  obtain ⟨s2, h3, h4⟩ := R.bind_eq_ok.mp h2
  cases h4
  refine ⟨Hf, s, φ, l, s1, gd, h1, fun v H1 Hf1 φ1 F1 g1 r1 k1 => ?_⟩
  obtain ⟨φ2, g2, o2⟩ := r1.put g1 h3
  exact q _ H1 Hf1 φ2 g2 (k1.weak o2) (Kp.set hio)

/-! ### targets -/
/-- a target of a value that may be shared; it sets the slots ts only -/
def tG (w : Wd) (g : GV) (ts : List Nat) : TG := fun v σ H Q => ∃ Hf s φ d s', Good w σ H Hf s φ ∧ Rp w.K Hf v d ∧ g d s = .ok s' ∧
  ∀ σ' φ', Good w σ' H Hf s' φ' → (∀ a, Own s' φ' a → Own s φ a) → σ'.length = σ.length → (∀ i, i ∉ ts → σ'[i]? = σ[i]?) → Q σ' H
/-- .., of a tuple -/
def tG2 (w : Wd) (K : PySem.W.Frag) (gs : List GV) (ts : List Nat) : TG := fun v σ H Q => ∃ a vs Hf s φ ds s', v = .ref a ∧ SqT K H a vs ∧ Good w σ H Hf s φ ∧ RpA w.K Hf vs ds ∧ gAll gs ds s = .ok s' ∧
  ∀ σ' φ', Good w σ' H Hf s' φ' → (∀ a, Own s' φ' a → Own s φ a) → σ'.length = σ.length → (∀ i, i ∉ ts → σ'[i]? = σ[i]?) → Q σ' H
def tGs (w : Wd) (gs : List GV) (ts : List Nat) : TGs := fun vs σ H Q => ∃ Hf s φ ds s', Good w σ H Hf s φ ∧ RpA w.K Hf vs ds ∧ gAll gs ds s = .ok s' ∧
  ∀ σ' φ', Good w σ' H Hf s' φ' → (∀ a, Own s' φ' a → Own s φ a) → σ'.length = σ.length → (∀ i, i ∉ ts → σ'[i]? = σ[i]?) → Q σ' H
abbrev GG (w : Wd) (X : Cx) (tg : Expr) (g : GV) (ts : List Nat) : Prop := PG X tg (tG w g ts)
abbrev GG2 (w : Wd) (X : Cx) (tg : Expr) (gs : List GV) (ts : List Nat) : Prop := PG X tg (tG2 w X.K gs ts)
abbrev GGs (w : Wd) (X : Cx) (tgs : List Expr) (gs : List GV) (ts : List Nat) : Prop := PGs X tgs (tGs w gs ts)
theorem pg_imp {X : Cx} {e : Expr} {t t' : TG} (h : PG X e t) (i : ∀ v σ H Q, t' v σ H Q → t v σ H Q) : PG X e t' := ⟨fun pins s σ H v u Q I r q => h.run pins s σ H v u Q I r (i v σ H Q q)⟩
theorem pgs_imp {X : Cx} {e : List Expr} {t t' : TGs} (h : PGs X e t) (i : ∀ v σ H Q, t' v σ H Q → t v σ H Q) : PGs X e t' := ⟨fun pins s σ H v u Q I r q => h.run pins s σ H v u Q I r (i v σ H Q q)⟩
theorem gg_n (i : Nat) {x : Str} (hN : X.N.Nodup) (hi : X.N[i]? = some x := by rfl) (hx : Loc X.env.scope x := by first | exact .inl rfl | exact .inr rfl) (hf : X.fn x = true ∨ X.env.scope.names.lookup x = some .local := by first | exact .inl rfl | exact .inr rfl) : GG w X (.Name x pos) (gN i) [i] :=
  pg_imp (pg_name hN hi hx hf) fun v σ H Q => by
    rintro ⟨Hf, s, φ, d, s', gd, r, e, q⟩
    cases e
    obtain ⟨g1, o1⟩ := gd.set (i := i) (.val r) fun a ha => nomatch ha
    exact q _ _ g1 (fun a z => (o1 a z).elim id fun z => nomatch z) (by rw [List.length_set]) fun j hj => List.getElem?_set_ne (fun z => hj (by simp [z]))
theorem ggs_nil : GGs w X [] [] [] := pgs_imp pgs_nil fun v σ H Q => by
  rintro ⟨Hf, s, φ, ds, s', gd, r, e, q⟩
  cases r with
  | nil => cases e; exact ⟨rfl, q σ φ gd (fun _ => id) rfl fun _ _ => rfl⟩
  | cons _ _ => cases e
theorem ggs_cons {e : Expr} {es : List Expr} {g : GV} {gs : List GV} {ts us : List Nat} (h1 : GG w X e g ts) (h2 : GGs w X es gs us) (hs : (assignEach (e :: es) X.env).map (·.2) = assign e X.env :: (assignEach es X.env).map (·.2) := by rfl) : GGs w X (e :: es) (g :: gs) (ts ++ us) :=
  pgs_imp (pgs_cons h1 h2 hs) fun v σ H Q => by
    rintro ⟨Hf, s, φ, ds, s', gd, r, e, q⟩
    cases r with
    | nil => cases e
    | cons r rr =>
      obtain ⟨s1, h1, h2⟩ := R.bind_eq_ok.mp e
      refine ⟨_, _, rfl, Hf, s, φ, _, s1, gd, r, h1, fun σ1 φ1 g1 o1 l1 k1 => ⟨Hf, s1, φ1, _, s', g1, rr, h2, fun σ2 φ2 g2 o2 l2 k2 => ?_⟩⟩
      exact q σ2 φ2 g2 (fun a z => o1 a (o2 a z)) (l2.trans l1) fun i hi => by
        rw [List.mem_append, not_or] at hi
        exact (k2 i hi.2).trans (k1 i hi.1)
theorem gAll_len : ∀ {gs : List GV} {ds : List D} {s s' : Sl}, gAll gs ds s = .ok s' → ds.length = gs.length
  | [], [], _, _, _ => rfl
  | g :: gs, d :: ds, s, s', e => by
    obtain ⟨s1, _, h⟩ := R.bind_eq_ok.mp e
    rw [List.length_cons, List.length_cons, gAll_len h]
  | [], _ :: _, _, _, e => nomatch e
  | _ :: _, [], _, _, e => nomatch e
theorem gg_2 {es : List Expr} {k1 n : Nat} {gs : List GV} {ts : List Nat} (hc : X.calm = true) (h : GGs w X es gs ts) (hn : (assignEach es X.env).length = n := by rfl) (hl : gs.length = n := by rfl) (hst : (assignEach es X.env).findIdx? (·.1) = none := by rfl) : GG2 w X (.Tuple es k1 pos) gs ts :=
  pg_imp (pg_tup hc h hn hst) fun v σ H Q => by
    rintro ⟨a, vs, Hf, s, φ, ds, s', rfl, hq, gd, r, e, q⟩
    exact ⟨a, vs, rfl, hq, by rw [r.length, gAll_len e, hl], Hf, s, φ, ds, s', gd, r, e, q⟩
theorem gg_t {es : List Expr} {k1 n : Nat} {gs : List GV} {ts : List Nat} (c : Cok w k X) (h : GGs w X es gs ts) (hn : (assignEach es X.env).length = n := by rfl) (hl : gs.length = n := by rfl) (hst : (assignEach es X.env).findIdx? (·.1) = none := by rfl) : GG w X (.Tuple es k1 pos) (gT gs) ts :=
  pg_imp (gg_2 c.calm h hn hl hst) fun v σ H Q => by
    rintro ⟨Hf, s, φ, d, s', gd, r, e, q⟩
    cases r with
    | tup hs ra => exact ⟨_, _, Hf, s, φ, _, s', rfl, by rw [c.K]; exact gd.sub.sqT hs.sq, gd, ra, e, q⟩
    | non => cases e
    | bl _ => cases e
    | int _ => cases e
    | str _ => cases e
    | lst _ _ => cases e
    | dct _ _ => cases e
/-- a, b, .. = e -/
theorem gs_unp {tg e : Expr} {f : EV} {g : GV} {ts : List Nat} (he : GE w X e f) (hg : GG w X tg g ts) (hio : ∀ i ∈ ts, i ∉ io := by decide) (hs : swapsWithSole [tg] e pos.line X.env = pure false := by rfl) (hw : swappedStores [tg] e X.env = pure none := by rfl)
    (h1 : (assignEach [tg] X.env).map (·.2) = [assign tg X.env] := by rfl) : GS w io X (.Assign [tg] e pos) (sUnp g f) := ps_imp (ps_asg he hg hs hw h1) fun D σ H => by
  rintro ⟨Hf, s, φ, fl, s', gd, e, q⟩
  obtain ⟨⟨d, s1⟩, h1, h2⟩ := R.bind_eq_ok.mp e
  obtain ⟨s2, h3, h4⟩ := R.bind_eq_ok.mp h2
  cases h4
  exact tE_D gd h1 fun v H1 Hf1 φ1 g1 r1 k1 => ⟨Hf1, s1, φ1, d, _, g1, r1, h3, fun σ' φ' g' o' _ n' => q σ' H1 Hf1 φ' g' (k1.weak o') (Kp.of n' hio)⟩
end
end KV

set_option Elab.async false
set_option linter.all false
set_option maxRecDepth 100000
set_option maxHeartbeats 2000000
/-! KVI: what changes a list or a dict that a slot owns; assignments side by side; loops; comprehensions. -/
namespace KV
open PySem L2
open PySem.Spec PyProof.Rows

/-! ### denotations -/
def kApp (i : Nat) (f : EV) : EV := fun s => match s[i]? with
  | some (some (.lst _)) => (kD f s).bind fun r => (match r.2[i]? with
    | some (some (.lst xs)) => if szOk (xs.length + 1) then .ok (.d .none, r.2.set i (some (.lst (xs ++ [r.1])))) else .no
    | _ => .no)
  | _ => .no
def kExt (i : Nat) (f : EV) : EV := fun s => match s[i]? with
  | some (some (.lst _)) => (kD f s).bind fun r => (seqOf r.1).bind fun ys => (match r.2[i]? with
    | some (some (.lst xs)) => if szOk (xs.length + ys.length) then .ok (.d .none, r.2.set i (some (.lst (xs ++ ys)))) else .no
    | _ => .no)
  | _ => .no
def kPopL (i : Nat) : EV := fun s => match s[i]? with
  | some (some (.lst xs)) => (match xs[xs.length - 1]? with
    | some d => .ok (.d d, s.set i (some (.lst xs.dropLast)))
    | none => .no)
  | _ => .no
def kPopJ (i : Nat) (f : EV) : EV := fun s => match s[i]? with
  | some (some (.lst _)) => (kS f s).bind fun r => (match r.2[i]?, r.1 with
    | some (some (.lst xs)), .int j => if 0 ≤ j ∧ szOk xs.length = true then (match xs[j.toNat]? with
      | some d => .ok (.d d, r.2.set i (some (.lst (xs.eraseIdx j.toNat))))
      | none => .no) else .no
    | _, _ => .no)
  | _ => .no
/-- a value; what a slot owned is shared -/
def kF (f : EV) : EV := fun s => (f s).bind fun r => match r.1 with
  | .o i => (L.take (.o i) r.2).bind fun q => .ok (.d q.1, q.2)
  | l => .ok (l, r.2)
/-- x[k] = e -/
def sPt (i : Nat) (k f : EV) : SV := fun s => match s[i]? with
  | some (some _) => (kD f s).bind fun r => (kD k r.2).bind fun q => (match q.2[i]? with
    | some (some (.lst xs)) => (match q.1 with
      | .int j => (match ixD xs.length j with
        | some m => .ok (.nx, q.2.set i (some (.lst (xs.set m r.1))))
        | none => .no)
      | _ => .no)
    | some (some (.dct kvs)) => if (keyOf q.1).isSome && szOk (kvs.length + 1) then .ok (.nx, q.2.set i (some (.dct (putD kvs q.1 r.1)))) else .no
    | _ => .no)
  | _ => .no
abbrev LV := Sl → R (List L × Sl)
def lNil : LV := fun s => .ok ([], s)
def lCons (f : EV) (g : LV) : LV := fun s => (kF f s).bind fun r => (g r.2).bind fun q => .ok (r.1 :: q.1, q.2)
def putL : List Nat → List L → Sl → R Sl
  | [], [], s => .ok s
  | i :: is, .d x :: ls, s => putL is ls (s.set i (some (.val x)))
  | i :: is, .t x :: ls, s => putL is ls (s.set i (some x))
  | _, _, _ => .no
/-- a, b, .. = e, f, .. -/
def sPar (is : List Nat) (g : LV) : SV := fun s => (g s).bind fun r => (putL is r.1 r.2).bind fun s' => .ok (.nx, s')

section
variable {w : Wd} {k : Nat} {X : Cx} {pos : Pos} {σ : L2.St} {H Hf : Hp} {s s' : Sl} {φ : Nat → List Addr} {Q : VK} {io : List Nat}

theorem Good.lst (g : Good w σ H Hf s φ) {i : Nat} {xs : List D} (h : s[i]? = some (some (.lst xs))) : ∃ a vs, σ[i]? = some (some (.ref a)) ∧ φ i = [a] ∧ H a = some (.lst vs) ∧ RpA w.K Hf vs xs := by
  obtain ⟨v, e, r⟩ := g.here i _ h
  generalize hF : φ i = F at r
  cases r with
  | lst h r => exact ⟨_, _, e, rfl, h, r⟩
theorem Good.dct (g : Good w σ H Hf s φ) {i : Nat} {xs : List (D × D)} (h : s[i]? = some (some (.dct xs))) : ∃ a kvs, σ[i]? = some (some (.ref a)) ∧ φ i = [a] ∧ H a = some (.dK kvs) ∧ RpKv w.K Hf kvs xs := by
  obtain ⟨v, e, r⟩ := g.here i _ h
  generalize hF : φ i = F at r
  cases r with
  | dct h r => exact ⟨_, _, e, rfl, h, r⟩
/-- the slot's own list is written: what follows -/
theorem PQ.wr {i : Nat} {xs ys : List D} {a : Addr} {us : List V} {l : L} {v : V} {H1 Hf1 : Hp} {s1 : Sl} {φ1 : Nat → List Addr} (q : PQ w σ H Hf s φ (s1.set i (some (.lst ys))) l Q) (g1 : Good w σ H1 Hf1 s1 φ1) (k1 : Stp H Hf (Own s φ) H1 Hf1 (Own s1 φ1)) (h : s1[i]? = some (some (.lst xs)))
    (e : σ[i]? = some (some (.ref a))) (p : φ1 i = [a]) (r : RpA w.K Hf1 us ys) (hl : ∀ H', RL w σ Hf1 H' (s1.set i (some (.lst ys))) φ1 v l []) : Q v (upd H1 a (.lst us)) := by
  obtain ⟨g2, o2⟩ := g1.updS (o := .lst us) h p e (.lst upd_same r)
  exact q v _ Hf1 φ1 [] g2 (hl _) ((k1.updO ⟨i, _, h, by rw [p]; simp⟩ (g1.fr i _ a h (by rw [p]; simp))).weak fun x z => z.elim (o2 x) fun z => nomatch z)

section
variable {e : Expr} {f : EV} {x : Str} {px apos cpos : Pos}
theorem ge_app (i : Nat) (he : GE w X e f) (hN : X.N[i]? = some x := by rfl) (hv : Vis X.env.scope x := by first | exact Or.inl rfl | exact Or.inr (Or.inl rfl) | exact Or.inr (Or.inr rfl)) (hd : (x == ("__debug__" : Str)) = false := by decide) (hcd : (x == ("__classdict__" : Str)) = false := by decide)
    (hbase : attributeBase (.Name x px) "append" X.env (eval (.Name x px) X.env) = eval (.Name x px) X.env := by rfl)
    (hfew : ((backTo cpos (starEach [e] X.env)).all (fun x => !x.1) && (backToKw cpos (keywordEach [] X.env)).all (fun x => x.1.isSome)
      && decide ([e].length + ([] : List Keyword).length + (if ([] : List Keyword).isEmpty then 0 else 1) < 30)) = true := by rfl)
    (hline : (apos.endLine == cpos.line) = true := by rfl) (hs : starEach [e] X.env = (false, eval e X.env) :: starEach [] X.env := by rfl) (hplain : (backTo cpos (starEach [] X.env)).any (·.1) = false := by rfl) :
    GE w X (.Call (.Attribute (.Name x px) "append" apos) [e] [] cpos) (kApp i f) := by
  refine pe_imp (pe_bm PySem.F.plainAttrs_list PySem.F.slot_list_append PySem.F.type_list_append mt_append (pv i hN hv hd hcd) (pa_cons he pa_nil hs) hbase hfew hline hs hplain) fun σ H Q => ?_
  rintro ⟨Hf, s, φ, l, s', g, e, q⟩
  unfold kApp at e
  split at e
  · rename_i xs0 h0
    obtain ⟨⟨d, s1⟩, h1, h2⟩ := R.bind_eq_ok.mp e
    simp only at h2
    split at h2
    · rename_i xs hx
      split at h2
      · rename_i hz
        cases h2
        obtain ⟨a, vs0, e0, p0, a0, r0⟩ := g.lst h0
        refine ⟨.ref a, e0, .inl ⟨rfl, vs0, SqL.of a0⟩, tE_D g h1 fun v H1 Hf1 φ1 g1 r1 k1 => ?_⟩
        obtain ⟨a', vs, e1, p1, a1, r2⟩ := g1.lst hx
        rw [e0] at e1; cases e1
        exact ⟨a, vs, v, rfl, rfl, a1, by have := sz_line (szOk_le hz); rw [r2.length]; omega, q.wr g1 k1 hx e0 p1 (r2.append (.cons r1 .nil)) fun _ => .d .non⟩
      · cases h2
    · cases h2
  · cases e
theorem ge_pop (i : Nat) (hN : X.N[i]? = some x := by rfl) (hv : Vis X.env.scope x := by first | exact Or.inl rfl | exact Or.inr (Or.inl rfl) | exact Or.inr (Or.inr rfl)) (hd : (x == ("__debug__" : Str)) = false := by decide) (hcd : (x == ("__classdict__" : Str)) = false := by decide)
    (hbase : attributeBase (.Name x px) "pop" X.env (eval (.Name x px) X.env) = eval (.Name x px) X.env := by rfl) (hline : (apos.endLine == cpos.line) = true := by rfl) :
    GE w X (.Call (.Attribute (.Name x px) "pop" apos) [] [] cpos) (kPopL i) := by
  refine pe_imp (pe_bm0 PySem.F.plainAttrs_list PySem.F.slot_list_pop PySem.F.type_list_pop mt_pop (pv i hN hv hd hcd) hbase hline) fun σ H Q => ?_
  rintro ⟨Hf, s, φ, l, s', g, e, q⟩
  unfold kPopL at e
  split at e
  · rename_i xs h0
    split at e
    · rename_i d hd
      cases e
      obtain ⟨a, vs, e0, p0, a0, r0⟩ := g.lst h0
      obtain ⟨v, hv1, rv⟩ := r0.get hd
      exact ⟨.ref a, e0, .inl ⟨rfl, vs, SqL.of a0⟩, a, vs, v, rfl, rfl, a0, by rw [r0.length]; exact hv1, q.wr g Stp.refl h0 e0 p0 r0.dropLast fun _ => .d rv⟩
    · cases e
  · cases e
theorem ge_popJ (i : Nat) (he : GE w X e f) (hN : X.N[i]? = some x := by rfl) (hv : Vis X.env.scope x := by first | exact Or.inl rfl | exact Or.inr (Or.inl rfl) | exact Or.inr (Or.inr rfl)) (hd : (x == ("__debug__" : Str)) = false := by decide) (hcd : (x == ("__classdict__" : Str)) = false := by decide)
    (hbase : attributeBase (.Name x px) "pop" X.env (eval (.Name x px) X.env) = eval (.Name x px) X.env := by rfl)
    (hfew : ((backTo cpos (starEach [e] X.env)).all (fun x => !x.1) && (backToKw cpos (keywordEach [] X.env)).all (fun x => x.1.isSome)
      && decide ([e].length + ([] : List Keyword).length + (if ([] : List Keyword).isEmpty then 0 else 1) < 30)) = true := by rfl)
    (hline : (apos.endLine == cpos.line) = true := by rfl) (hs : starEach [e] X.env = (false, eval e X.env) :: starEach [] X.env := by rfl) (hplain : (backTo cpos (starEach [] X.env)).any (·.1) = false := by rfl) :
    GE w X (.Call (.Attribute (.Name x px) "pop" apos) [e] [] cpos) (kPopJ i f) := by
  refine pe_imp (pe_bm PySem.F.plainAttrs_list PySem.F.slot_list_pop PySem.F.type_list_pop mt_popAt (pv i hN hv hd hcd) (pa_cons he pa_nil hs) hbase hfew hline hs hplain) fun σ H Q => ?_
  rintro ⟨Hf, s, φ, l, s', g, e, q⟩
  unfold kPopJ at e
  split at e
  · rename_i xs0 h0
    obtain ⟨⟨d, s1⟩, h1, h2⟩ := R.bind_eq_ok.mp e
    obtain ⟨l2, h3, h4, hsc⟩ := kS_ok h1
    simp only at h2
    split at h2
    · rename_i _ xs j hx
      split at h2
      · rename_i hc
        split at h2
        · rename_i d hd
          cases h2
          obtain ⟨a, vs0, e0, p0, a0, r0⟩ := g.lst h0
          refine ⟨.ref a, e0, .inl ⟨rfl, vs0, SqL.of a0⟩, ⟨Hf, s, φ, l2, _, g, h3, fun v H1 Hf1 φ1 F1 g1 r1 k1 => ?_⟩⟩
          obtain ⟨a', vs, e1, p1, a1, r2⟩ := g1.lst hx
          rw [e0] at e1; cases e1
          cases (r1.rw g1 h4).int
          obtain ⟨y, hy, ry⟩ := r2.get hd
          have hlt : j.toNat < vs.length := (List.getElem?_eq_some_iff.mp hy).1
          have hle : xs.length ≤ 16000000 := szOk_le hc.2
          have hl := r2.length
          refine ⟨a, vs, j, j.toNat, y, rfl, rfl, a1, by omega, by omega, ?_, hy, q.wr g1 (k1.weak fun _ => .inl) hx e0 p1 (r2.erase _) fun _ => .d ry⟩
          exact seqIndex_of hc.1 (by omega)
        · cases h2
      · cases h2
    · cases h2
  · cases e

/-! ### extend, also by a tuple -/
theorem ext_tup (l : Addr) (items : Array Value) (n : Nat) (b : Addr) (items2 : Array Value) (n2 : Nat) (dd : Option Addr) (sl : Array (Option Value)) (hs0 : ¬(!items.isEmpty && Builtin.List.listTooLong (items.size + items2.size)) = true) (hs1 : items.size ≤ sizeLine) (hs2 : items.size + items2.size ≤ sizeLine + 1) :
    Meets (Builtin.«list.extend» ⟨[.ref l, .ref b], []⟩) (fun _ R s => s.heap.get? l = some { cls := .type "list", dict := none, data := .seq items n, slots := #[] } ∧ s.heap.get? b = some { cls := .type "tuple", dict := dd, data := .seq items2 n2, slots := sl } ∧
      R (.ok (.ret Value.none)) { s with heap := s.heap.update l (Obj.mapSeq fun x => x ++ items2), toks := s.toks }) :=
  .of_wp fun prog w A R s h => by
    obtain ⟨hp, g, d, tk, os⟩ := s
    obtain ⟨hl, hb, h⟩ := h
    have f1 := AutoSeq1.idx_int
    have f2 := AutoSeq1.sub_tuple_tuple
    have f3 := AutoSeq1.sub_list_list
    have f4 := AutoSeq1.sub_tuple_list
    have f5 := AutoSeq1.sub_list_tuple
    have hz' : (items ++ items2).size ≤ sizeLine + 1 := by rw [Array.size_append]; exact hs2
    wp_walk using (wpAny_updateSeq hl rfl (hz := hs1) (_hz' := hz')), AutoSeq1.wpAny_loadPart' hl, AutoSeq1.wpAny_loadPart' hb
    exact ⟨_, rfl, h⟩
def rExtA (K : PySem.W.Frag) : V → List V → Hp → VK → Prop := fun x vs H Q => ∃ l b xs zs, x = .ref l ∧ vs = [.ref b] ∧ H l = some (.lst xs) ∧ (H b = some (.lst zs) ∨ STup K H b zs) ∧ xs.length + zs.length ≤ sizeLine ∧ Q .non (upd H l (.lst (xs ++ zs)))
theorem mt_extA : MtR X "list.extend" (rExtA X.K) := by
  intro pins s σ H x vs v us Q I rx rv h
  obtain ⟨l, b, xs, zs, rfl, rfl, hH, hB, hz, q⟩ := h
  rcases hB with hB | hB
  · exact mt_extend pins s σ H _ _ v us Q I rx rv ⟨l, b, xs, zs, rfl, rfl, hH, hB, hz, q⟩
  · cases rx
    obtain ⟨u, rfl, ru⟩ := rv.one
    cases ru
    obtain ⟨z, its, n, r, hl, e⟩ := I.lstM hH
    obtain ⟨its2, r2, ⟨⟨cls, dd, data, sls⟩, ho, hc, n2, hd⟩, hz2⟩ := I.tuple hB.sq
    simp only at hc hd
    subst hc hd
    have hl2 := r2.length
    have hsz : its.toArray.size + its2.toArray.size ≤ sizeLine := by rw [List.size_toArray, List.size_toArray]; omega
    have hlong : ¬ (!its.toArray.isEmpty && Builtin.List.listTooLong (its.toArray.size + its2.toArray.size)) = true := by
      rw [notLongL hsz, Bool.and_false]
      exact Bool.false_ne_true
    refine call_meets PySem.F.slot_list_extend ⟨_, e, rfl⟩ PySem.F.entry_list_extend (PySem.F.args_list_extend_2 _ _) (ext_tup l its.toArray n b its2.toArray n2 dd sls hlong (by rw [List.size_toArray]; omega) (by omega)) ⟨e, ho, ?_⟩
    refine ⟨.non, _, I.lset (its' := its ++ its2) hH e (by simp) (r.append r2) ?_, rfl, q⟩
    rw [List.length_append]
    omega
theorem ge_ext (c : Cok w k X) (i : Nat) (he : GE w X e f) (hN : X.N[i]? = some x := by rfl) (hv : Vis X.env.scope x := by first | exact Or.inl rfl | exact Or.inr (Or.inl rfl) | exact Or.inr (Or.inr rfl)) (hd : (x == ("__debug__" : Str)) = false := by decide) (hcd : (x == ("__classdict__" : Str)) = false := by decide)
    (hbase : attributeBase (.Name x px) "extend" X.env (eval (.Name x px) X.env) = eval (.Name x px) X.env := by rfl)
    (hfew : ((backTo cpos (starEach [e] X.env)).all (fun x => !x.1) && (backToKw cpos (keywordEach [] X.env)).all (fun x => x.1.isSome)
      && decide ([e].length + ([] : List Keyword).length + (if ([] : List Keyword).isEmpty then 0 else 1) < 30)) = true := by rfl)
    (hline : (apos.endLine == cpos.line) = true := by rfl) (hs : starEach [e] X.env = (false, eval e X.env) :: starEach [] X.env := by rfl) (hplain : (backTo cpos (starEach [] X.env)).any (·.1) = false := by rfl) :
    GE w X (.Call (.Attribute (.Name x px) "extend" apos) [e] [] cpos) (kExt i f) := by
  refine pe_imp (pe_bm PySem.F.plainAttrs_list PySem.F.slot_list_extend PySem.F.type_list_extend mt_extA (pv i hN hv hd hcd) (pa_cons he pa_nil hs) hbase hfew hline hs hplain) fun σ H Q => ?_
  rintro ⟨Hf, s, φ, l, s', g, e, q⟩
  unfold kExt at e
  split at e
  · rename_i xs0 h0
    obtain ⟨⟨d, s1⟩, h1, h2⟩ := R.bind_eq_ok.mp e
    obtain ⟨ys, h3, h4⟩ := R.bind_eq_ok.mp h2
    simp only at h4
    split at h4
    · rename_i xs hx
      split at h4
      · rename_i hz
        cases h4
        obtain ⟨a, vs0, e0, p0, a0, r0⟩ := g.lst h0
        refine ⟨.ref a, e0, .inl ⟨rfl, vs0, SqL.of a0⟩, tE_D g h1 fun v H1 Hf1 φ1 g1 r1 k1 => ?_⟩
        obtain ⟨a', vs, e1, p1, a1, r2⟩ := g1.lst hx
        rw [e0] at e1; cases e1
        obtain ⟨b, zs, rfl, hb, rz⟩ : ∃ b zs, v = .ref b ∧ (H1 b = some (.lst zs) ∨ STup w.K H1 b zs) ∧ RpA w.K Hf1 zs ys := by
          rcases seqOf_ok h3 with rfl | rfl
          · cases r1 with
            | lst hb rz => exact ⟨_, _, rfl, .inl (g1.sub _ _ hb), rz⟩
          · cases r1 with
            | tup hb rz => exact ⟨_, _, rfl, .inr (g1.sub.stup hb), rz⟩
        exact ⟨a, b, vs, zs, rfl, rfl, a1, by rw [c.K]; exact hb, by have := sz_line (szOk_le hz); rw [r2.length, rz.length]; omega, q.wr g1 k1 hx e0 p1 (r2.append rz) fun _ => .d .non⟩
      · cases h4
    · cases h4
  · cases e
end

/-! ### x[k] = e -/
def rSetA : TSet := fun o i v H Q => rSetL o i v H Q ∨ ∃ a H', o = .ref a ∧ DPut H a i v H' ∧ Q H'
theorem set_any (c : Cok w k X) : PSet X rSetA := by
  intro pins s σ H o i v ov iv u Q I ro ri rv h
  rcases h with h | ⟨a, H', rfl, g, q⟩
  · exact set_list pins s σ H o i v ov iv u Q I ro ri rv h
  · obtain rfl : ov = Value.ref a := ro
    exact d_setItem (by have := c.u; omega) I g ri rv fun s4 I4 => ⟨H', I4, q⟩
theorem gs_put (c : Cok w k X) (i : Nat) {x : Str} {px spos : Pos} {ek e : Expr} {fk f : EV} (he : GE w X e f) (hk : GE w X ek fk) (hN : X.N[i]? = some x := by rfl) (hv : Vis X.env.scope x := by first | exact Or.inl rfl | exact Or.inr (Or.inl rfl) | exact Or.inr (Or.inr rfl))
    (hd : (x == ("__debug__" : Str)) = false := by decide) (hcd : (x == ("__classdict__" : Str)) = false := by decide)
    (ha : ∀ v, assign (.Subscript (.Name x px) ek spos) X.env v = (do
      let ov ← holding [v] (eval (.Name x px) X.env)
      let iv ← holding [v, ov] (eval ek X.env)
      standAt spos
      holding [v, ov, iv] (setItem ov iv v)
      release [v, ov, iv] []) := by intro _; rfl)
    (hs : swapsWithSole [.Subscript (.Name x px) ek spos] e pos.line X.env = pure false := by rfl) (hw : swappedStores [.Subscript (.Name x px) ek spos] e X.env = pure none := by rfl) (h1 : (assignEach [.Subscript (.Name x px) ek spos] X.env).map (·.2) = [assign (.Subscript (.Name x px) ek spos) X.env] := by rfl) :
    GS w io X (.Assign [.Subscript (.Name x px) ek spos] e pos) (sPt i fk f) := by
  refine ps_imp (ps_asg he (pg_sub (pv i hN hv hd hcd) hk (set_any c) ha) hs hw h1) fun D σ H => ?_
  rintro ⟨Hf, s, φ, fl, s', g, e, q⟩
  unfold sPt at e
  split at e
  · rename_i t0 h0
    obtain ⟨v0, e0, _⟩ := g.here i t0 h0
    obtain ⟨⟨d, s1⟩, h1, h2⟩ := R.bind_eq_ok.mp e
    obtain ⟨⟨kd, s2⟩, h3, h4⟩ := R.bind_eq_ok.mp h2
    refine tE_D g h1 fun v H1 Hf1 φ1 g1 r1 k1 => ⟨v0, e0, tE_D g1 h3 fun v2 H2 Hf2 φ2 g2 r2 k2 => ?_⟩
    have rv := r1.mono k2.sub
    have k12 := k1.trans k2 (fun _ => id) fun x hx => g1.own_free hx
    simp only at h4
    split at h4
    · rename_i xs hx
      split at h4
      · rename_i j
        split at h4
        · rename_i m hm
          cases h4
          obtain ⟨a, vs, e1, p1, a1, r3⟩ := g2.lst hx
          rw [e0] at e1; cases e1
          cases r2
          obtain ⟨g3, o3⟩ := g2.updS (o := .lst (vs.set m v)) (t' := .lst (xs.set m d)) hx p1 e0 (.lst upd_same (r3.set rv m))
          exact .inl ⟨a, vs, _, m, rfl, rfl, a1, by rw [r3.length]; exact hm, q σ _ Hf2 φ2 g3 ((k12.updO ⟨i, _, hx, by rw [p1]; simp⟩ (g2.fr i _ a hx (by rw [p1]; simp))).weak o3) Kp.refl⟩
        · cases h4
      · cases h4
    · rename_i kvs hx
      split at h4
      · rename_i hc
        cases h4
        obtain ⟨a, vs, e1, p1, a1, r3⟩ := g2.dct hx
        rw [e0] at e1; cases e1
        rw [Bool.and_eq_true] at hc
        obtain ⟨ky, hky⟩ := Option.isSome_iff_exists.mp hc.1
        have ek := keyOf_some hky
        subst ek
        have ev := (Rw.st (H := H2) r2).key
        subst ev
        obtain ⟨g3, o3⟩ := g2.updS (o := .dK (putK vs ky v)) (t' := .dct (putD kvs (keyD ky) d)) hx p1 e0 (.dct upd_same (r3.put ky rv))
        refine .inr ⟨a, _, rfl, DPut.k a1 (by have := sz_line (szOk_le hc.2); rw [r3.length]; omega), q σ _ Hf2 φ2 g3 ((k12.updO ⟨i, _, hx, by rw [p1]; simp⟩ (g2.fr i _ a hx (by rw [p1]; simp))).weak o3) Kp.refl⟩
      · cases h4
    · cases h4
  · cases e

/-! ### assignments side by side -/
inductive RLs (w : Wd) (σ : L2.St) (Hf H : Hp) (s : Sl) (φ : Nat → List Addr) : List V → List L → List Addr → Prop
  | nil : RLs w σ Hf H s φ [] [] []
  | cons {v : V} {l : L} {F F' : List Addr} {vs : List V} {ls : List L} : RL w σ Hf H s φ v l F → RLs w σ Hf H s φ vs ls F' → (∀ a ∈ F, a ∉ F') → RLs w σ Hf H s φ (v :: vs) (l :: ls) (F ++ F')
def tL (w : Wd) (g : LV) : TA := fun σ H Q => ∃ Hf s φ ls s', Good w σ H Hf s φ ∧ g s = .ok (ls, s') ∧
  ∀ vs H' Hf' φ' F, Good w σ H' Hf' s' φ' → RLs w σ Hf' H' s' φ' vs ls F → Stp H Hf (Own s φ) H' Hf' (fun a => Own s' φ' a ∨ a ∈ F) → Q vs H'
abbrev GL (w : Wd) (X : Cx) (es : List Expr) (g : LV) : Prop := PA X es (tL w g)
theorem tE_F {f : EV} {l : L} {Z : V → Hp → Prop} (g : Good w σ H Hf s φ) (e : kF f s = .ok (l, s'))
    (h : ∀ v H' Hf' φ' F, Good w σ H' Hf' s' φ' → RL w σ Hf' H' s' φ' v l F → Stp H Hf (Own s φ) H' Hf' (fun a => Own s' φ' a ∨ a ∈ F) → Z v H') : tE w f σ H Z := by
  obtain ⟨⟨l1, s1⟩, h1, h2⟩ := R.bind_eq_ok.mp e
  refine ⟨Hf, s, φ, l1, s1, g, h1, fun v H1 Hf1 φ1 F1 g1 r1 k1 => ?_⟩
  cases l1 with
  | d x => cases h2; exact h v H1 Hf1 φ1 F1 g1 r1 k1
  | t x => cases h2; exact h v H1 Hf1 φ1 F1 g1 r1 k1
  | o i =>
    obtain ⟨⟨d, s2⟩, h3, h4⟩ := R.bind_eq_ok.mp h2
    cases h4
    obtain ⟨Hf2, φ2, rp, g2, k2⟩ := r1.take g1 h3
    refine h v H1 Hf2 φ2 [] g2 (.d rp) ((k1.trans k2 (fun _ => id) fun x hx => ?_).weak fun a z => z.elim id fun z => nomatch z)
    rcases hx with hx | hx
    · exact g1.own_free hx
    · cases r1; cases hx
theorem gl_nil : GL w X [] lNil := pa_imp pa_nil fun σ H Q => by
  rintro ⟨Hf, s, φ, ds, s', g, e, q⟩
  cases e
  exact q [] H Hf φ [] g .nil (Stp.refl.weak fun a z => z.elim id fun z => nomatch z)
theorem gl_cons {e : Expr} {es : List Expr} {f : EV} {g : LV} (he : GE w X e f) (hr : GL w X es g) (hs : starEach (e :: es) X.env = (false, eval e X.env) :: starEach es X.env := by rfl) : GL w X (e :: es) (lCons f g) := by
  refine pa_imp (pa_cons he hr hs) fun σ H Q => ?_
  rintro ⟨Hf, s, φ, ds, s', gd, e, q⟩
  obtain ⟨⟨l, s1⟩, h1, h2⟩ := R.bind_eq_ok.mp e
  obtain ⟨⟨ls, s2⟩, h3, h4⟩ := R.bind_eq_ok.mp h2
  cases h4
  refine tE_F gd h1 fun v H1 Hf1 φ1 F1 g1 r1 k1 => ⟨Hf1, s1, φ1, ls, _, g1, h3, fun vs H2 Hf2 φ2 F2 g2 r2 k2 => ?_⟩
  have new1 : ∀ a, a ∈ F1 → (∃ o, H1 a = some o) ∧ Hf1 a = none ∧ ¬ Own s1 φ1 a := fun a ha => by
    cases r1 with
    | d _ => cases ha
    | o _ => cases ha
    | t r c => exact ⟨r.there a ha, c a ha⟩
  have nof : ∀ a, a ∈ F1 → ¬ (Own s2 φ2 a ∨ a ∈ F2) := fun a ha z => by
    obtain ⟨⟨o, e1⟩, e2, e3⟩ := new1 a ha
    rcases k2.new a (.inl z) with z | z | z
    · exact e3 z
    · exact z e2
    · rw [e1] at z; cases z
  refine q (v :: vs) H2 Hf2 φ2 (F1 ++ F2) g2 (.cons (r1.stay k2 fun a => .inl) r2 fun a ha z => nof a ha (.inr z)) ?_
  refine ⟨k1.sub.trans k2.sub, fun a o h n => k2.keep a o (k1.keep a o h n) fun z => ?_, fun a z => ?_⟩
  · rcases k1.new a (.inl (.inl z)) with z | z | z
    · exact n z
    · cases e1 : Hf a with
      | none => exact z e1
      | some u =>
        have := k1.sub a u e1
        rw [g1.own_free (by assumption)] at this; cases this
    · rw [h] at z; cases z
  · have back : ∀ x, (Own s1 φ1 x ∨ x ∈ F1) ∨ Hf1 x ≠ none → Own s φ x ∨ Hf x ≠ none ∨ H x = none := fun x => k1.new x
    have main : (Own s2 φ2 a ∨ a ∈ F2) ∨ Hf2 a ≠ none → Own s φ a ∨ Hf a ≠ none ∨ H a = none := fun z => by
      rcases k2.new a z with z | z | z
      · exact back a (.inl (.inl z))
      · exact back a (.inr z)
      · by_cases n : Own s φ a
        · exact .inl n
        · cases e : H a with
          | none => exact .inr (.inr rfl)
          | some u => rw [k1.keep a u e n] at z; cases z
    rcases z with (z | z) | z
    · exact main (.inl (.inl z))
    · rcases List.mem_append.mp z with z | z
      · exact back a (.inl (.inr z))
      · exact main (.inl (.inr z))
    · exact main (.inr z)
theorem RLs.free {vs : List V} {ls : List L} {F : List Addr} (r : RLs w σ Hf H s φ vs ls F) : ∀ a ∈ F, ¬ Own s φ a := by
  induction r with
  | nil => exact fun a h => nomatch h
  | cons r _ _ ih =>
    intro a h
    rcases List.mem_append.mp h with h | h
    · cases r with
      | d _ => cases h
      | o _ => cases h
      | t _ c => exact (c a h).2
    · exact ih a h
theorem RLs.moved {vs : List V} {ls : List L} {F : List Addr} {σ1 : L2.St} {s1 : Sl} {φ1 : Nat → List Addr} (r : RLs w σ Hf H s φ vs ls F) (no : ∀ l ∈ ls, ∀ j, l ≠ .o j) (h : ∀ a ∈ F, ¬ Own s1 φ1 a) : RLs w σ1 Hf H s1 φ1 vs ls F := by
  induction r with
  | nil => exact .nil
  | cons r _ dj ih =>
    refine .cons ?_ (ih (fun l hl => no l (List.mem_cons_of_mem _ hl)) fun a ha => h a (List.mem_append_right _ ha)) dj
    cases r with
    | d r => exact .d r
    | o _ => exact (no _ (List.mem_cons_self ..) _ rfl).elim
    | t r c => exact .t r fun a ha => ⟨(c a ha).1, h a (List.mem_append_left _ ha)⟩
theorem putL_no : ∀ {is : List Nat} {ls : List L} {s s' : Sl}, putL is ls s = .ok s' → ∀ l ∈ ls, ∀ j, l ≠ .o j
  | [], [], _, _, _ => fun l hl => nomatch hl
  | i :: is, .d x :: ls, s, s', e => fun l hl j z => by
    rcases List.mem_cons.mp hl with h | h
    · subst h; cases z
    · exact putL_no (is := is) (ls := ls) e l h j z
  | i :: is, .t x :: ls, s, s', e => fun l hl j z => by
    rcases List.mem_cons.mp hl with h | h
    · subst h; cases z
    · exact putL_no (is := is) (ls := ls) e l h j z
  | [], _ :: _, _, _, e => nomatch e
  | _ :: _, [], _, _, e => nomatch e
  | _ :: _, .o _ :: _, _, _, e => nomatch e
def setsV : List Nat → List V → L2.St → L2.St
  | i :: is, v :: vs, σ => setsV is vs (σ.set i (some v))
  | _, _, σ => σ
theorem Kp.sets : ∀ {is : List Nat} {vs : List V} {σ : L2.St}, (∀ i ∈ is, i ∉ io) → Kp io σ (setsV is vs σ)
  | [], _, _, _ => Kp.refl
  | _ :: _, [], _, _ => Kp.refl
  | i :: is, v :: vs, σ, h => (Kp.set (v := some v) (h i (List.mem_cons_self ..))).trans (Kp.sets (is := is) (vs := vs) fun j hj => h j (List.mem_cons_of_mem _ hj))
theorem RLs.put {vs : List V} {ls : List L} {F : List Addr} : ∀ {is : List Nat} {σ : L2.St} {s s' : Sl} {φ : Nat → List Addr}, RLs w σ Hf H s φ vs ls F → Good w σ H Hf s φ → putL is ls s = .ok s' →
    ∃ φ', is.length = vs.length ∧ Good w (setsV is vs σ) H Hf s' φ' ∧ ∀ a, Own s' φ' a → Own s φ a ∨ a ∈ F := by
  induction vs generalizing ls F with
  | nil =>
    intro is σ s s' φ r g e
    cases r
    cases is with
    | nil => cases e; exact ⟨φ, rfl, g, fun a => .inl⟩
    | cons _ _ => cases e
  | cons v vs ih =>
    intro is σ s s' φ r g e
    cases r with
    | cons r rr dj =>
      rename_i l F1 F2 ls
      cases is with
      | nil => cases e
      | cons i is =>
        have key : ∀ s1, setL i l s = .ok s1 → putL is ls s1 = .ok s' → ∃ φ', (i :: is).length = (v :: vs).length ∧ Good w (setsV (i :: is) (v :: vs) σ) H Hf s' φ' ∧ ∀ a, Own s' φ' a → Own s φ a ∨ a ∈ F1 ++ F2 := by
          intro s1 e1 e2
          obtain ⟨φ1, g1, o1⟩ := r.put g e1
          have rr1 : RLs w (σ.set i (some v)) Hf H s1 φ1 vs ls F2 := rr.moved (putL_no e2) fun a ha z => by
            rcases o1 a z with z | z
            · exact rr.free a ha z
            · exact dj a z ha
          obtain ⟨φ2, l2, g2, o2⟩ := ih rr1 g1 e2
          refine ⟨φ2, by rw [List.length_cons, List.length_cons, l2], g2, fun a z => ?_⟩
          rcases o2 a z with z | z
          · rcases o1 a z with z | z
            · exact .inl z
            · exact .inr (List.mem_append_left _ z)
          · exact .inr (List.mem_append_right _ z)
        cases l with
        | d x => exact key _ rfl e
        | t x => exact key _ rfl e
        | o j => cases e
theorem gs_par2 (hN : X.N.Nodup) (c : Cok w k X) (i j : Nat) {x y : Str} {a b : Expr} {g : LV} {px py pt : Pos} {kt k2 : Nat} {pt2 : Pos} (ha : GL w X [a, b] g) (hio : ∀ m ∈ [i, j], m ∉ io := by decide) (hi : X.N[i]? = some x := by rfl) (hj : X.N[j]? = some y := by rfl) (hij : i ≠ j := by decide)
    (hx : X.env.scope.names.lookup x = some .local := by rfl) (hy : X.env.scope.names.lookup y = some .local := by rfl)
    (hw : swappedStores [.Tuple [.Name x px, .Name y py] kt pt] (.Tuple [a, b] k2 pt2) X.env = pure (some [x, y]) := by rfl)
    (hs : swapsWithSole [.Tuple [.Name x px, .Name y py] kt pt] (.Tuple [a, b] k2 pt2) pos.line X.env = pure false := by rfl) :
    GS w io X (.Assign [.Tuple [.Name x px, .Name y py] kt pt] (.Tuple [a, b] k2 pt2) pos) (sPar [i, j] g) := ps_imp (ps_par c.calm hN hi hj hij hx hy ha hw hs) fun D σ H => by
  rintro ⟨Hf, s, φ, fl, s', gd, e, q⟩
  obtain ⟨⟨ls, s1⟩, h1, h2⟩ := R.bind_eq_ok.mp e
  obtain ⟨s2, h3, h4⟩ := R.bind_eq_ok.mp h2
  cases h4
  refine ⟨Hf, s, φ, ls, s1, gd, h1, fun vs H1 Hf1 φ1 F1 g1 r1 k1 => ?_⟩
  obtain ⟨φ2, hl, g2, o2⟩ := r1.put g1 h3
  match vs, hl with
  | [v, u], _ => exact ⟨v, u, rfl, q _ H1 Hf1 φ2 g2 (k1.weak o2) (Kp.sets (vs := [v, u]) hio)⟩
theorem gs_par3 (hN : X.N.Nodup) (c : Cok w k X) (i j l : Nat) {x y z : Str} {a b d : Expr} {g : LV} {px py pz pt : Pos} {kt k2 : Nat} {pt2 : Pos} (ha : GL w X [a, b, d] g) (hio : ∀ m ∈ [i, j, l], m ∉ io := by decide) (hi : X.N[i]? = some x := by rfl) (hj : X.N[j]? = some y := by rfl) (hl : X.N[l]? = some z := by rfl) (hij : i ≠ j := by decide) (hil : i ≠ l := by decide) (hjl : j ≠ l := by decide)
    (hx : X.env.scope.names.lookup x = some .local := by rfl) (hy : X.env.scope.names.lookup y = some .local := by rfl) (hz : X.env.scope.names.lookup z = some .local := by rfl)
    (hw : swappedStores [.Tuple [.Name x px, .Name y py, .Name z pz] kt pt] (.Tuple [a, b, d] k2 pt2) X.env = pure (some [x, y, z]) := by rfl)
    (hs : swapsWithSole [.Tuple [.Name x px, .Name y py, .Name z pz] kt pt] (.Tuple [a, b, d] k2 pt2) pos.line X.env = pure false := by rfl) :
    GS w io X (.Assign [.Tuple [.Name x px, .Name y py, .Name z pz] kt pt] (.Tuple [a, b, d] k2 pt2) pos) (sPar [i, j, l] g) := ps_imp (ps_par3 c.calm hN hi hj hl hij hil hjl hx hy hz ha hw hs) fun D σ H => by
  rintro ⟨Hf, s, φ, fl, s', gd, e, q⟩
  obtain ⟨⟨ls, s1⟩, h1, h2⟩ := R.bind_eq_ok.mp e
  obtain ⟨s2, h3, h4⟩ := R.bind_eq_ok.mp h2
  cases h4
  refine ⟨Hf, s, φ, ls, s1, gd, h1, fun vs H1 Hf1 φ1 F1 g1 r1 k1 => ?_⟩
  obtain ⟨φ2, hl, g2, o2⟩ := r1.put g1 h3
  match vs, hl with
  | [v, u, t], _ => exact ⟨v, u, t, rfl, q _ H1 Hf1 φ2 g2 (k1.weak o2) (Kp.sets (vs := [v, u, t]) hio)⟩
/-- .., by a new tuple (names that are not plain locals, four and more) -/
def tNames (is : List Nat) : TGs := fun vs σ H Q => is.length = vs.length ∧ Q (setsV is vs σ) H
theorem pgs_n0 : PGs X [] (tNames []) := pgs_imp pgs_nil fun vs σ H Q => by
  rintro ⟨h, q⟩
  cases vs with
  | nil => exact ⟨rfl, q⟩
  | cons _ _ => cases h
theorem pgs_n (i : Nat) {x : Str} {px : Pos} {es : List Expr} {is : List Nat} (hN : X.N.Nodup) (hr : PGs X es (tNames is)) (hi : X.N[i]? = some x := by rfl) (hx : Loc X.env.scope x := by first | exact .inl rfl | exact .inr rfl) (hf : X.fn x = true ∨ X.env.scope.names.lookup x = some .local := by first | exact .inl rfl | exact .inr rfl)
    (hs : (assignEach (.Name x px :: es) X.env).map (·.2) = assign (.Name x px) X.env :: (assignEach es X.env).map (·.2) := by rfl) : PGs X (.Name x px :: es) (tNames (i :: is)) :=
  pgs_imp (pgs_cons (pg_name hN hi hx hf) hr hs) fun vs σ H Q => by
    rintro ⟨h, q⟩
    cases vs with
    | nil => cases h
    | cons v vs => exact ⟨v, vs, rfl, by simpa using h, q⟩
theorem gs_parN (hN : X.N.Nodup) (c : Cok w k X) {es ts : List Expr} {is : List Nat} {g : LV} {pt : Pos} {kt k2 n : Nat} {pt2 : Pos} (ha : GL w X es g) (ht : PGs X ts (tNames is)) (hio : ∀ m ∈ is, m ∉ io := by decide) (hn : (assignEach ts X.env).length = n := by rfl) (hl : is.length = n := by rfl) (hz : is.length ≤ 100 := by decide) (hst : (assignEach ts X.env).findIdx? (·.1) = none := by rfl)
    (hw : swappedStores [.Tuple ts kt pt] (.Tuple es k2 pt2) X.env = pure none := by rfl) (hs : swapsWithSole [.Tuple ts kt pt] (.Tuple es k2 pt2) pos.line X.env = pure false := by rfl) (h1 : (assignEach [.Tuple ts kt pt] X.env).map (·.2) = [assign (.Tuple ts kt pt) X.env] := by rfl) :
    GS w io X (.Assign [.Tuple ts kt pt] (.Tuple es k2 pt2) pos) (sPar is g) := ps_imp (ps_asg (pe_tupF ha) (pg_tup c.calm ht hn hst) hs hw h1) fun D σ H => by
  rintro ⟨Hf, s, φ, fl, s', gd, e, q⟩
  obtain ⟨⟨ls, s1⟩, h1, h2⟩ := R.bind_eq_ok.mp e
  obtain ⟨s2, h3, h4⟩ := R.bind_eq_ok.mp h2
  cases h4
  refine ⟨Hf, s, φ, ls, s1, gd, h1, fun vs H1 Hf1 φ1 F1 g1 r1 k1 => ?_⟩
  obtain ⟨φ2, hv, g2, o2⟩ := r1.put g1 h3
  refine ⟨sz_line (by omega), fun p hp o ho => ⟨p, vs, rfl, .inl (.inr ⟨o, upd_same⟩), by rw [← hv, hl], hv, ?_⟩⟩
  exact q _ _ Hf1 φ2 (g2.updH hp) ((k1.weak o2).trans (Stp.updH hp fun a => .inl) (fun _ => id) fun x hx => g2.own_free hx) (Kp.sets hio)
end
end KV

set_option Elab.async false
set_option linter.all false
set_option maxRecDepth 100000
set_option maxHeartbeats 2000000
/-! KVJ: what is walked; for, while, comprehensions. -/
namespace KV
open PySem L2
open PySem.Spec PyProof.Rows

section
variable {w : Wd} {k : Nat} {X : Cx} {pos : Pos} {σ : L2.St} {H Hf : Hp} {s s' : Sl} {φ : Nat → List Addr} {Q : VK} {io : List Nat}

/-- J walks ds, values that may be shared -/
structure Wk (w : Wd) (J : It) (ds : List D) (Hf : Hp) : Prop where
  goes : ∀ i H Hf2, Sub Hf Hf2 → Sub Hf2 H → i < ds.length → J.go i H
  stops : ∀ H Hf2, Sub Hf Hf2 → Sub Hf2 H → J.stop ds.length H
  yields : ∀ i H Hf2 x H' d, Sub Hf Hf2 → Sub Hf2 H → ds[i]? = some d → J.yld i H x H' → H' = H ∧ Rp w.K Hf2 x d
/-- .., as new tuples -/
structure Wk2 (w : Wd) (J : It) (ds : List D) (Hf : Hp) : Prop where
  goes : ∀ i H Hf2, Sub Hf Hf2 → Sub Hf2 H → i < ds.length → J.go i H
  stops : ∀ H Hf2, Sub Hf Hf2 → Sub Hf2 H → J.stop ds.length H
  yields : ∀ i H Hf2 x H' d, Sub Hf Hf2 → Sub Hf2 H → ds[i]? = some d → J.yld i H x H' → ∃ p vs es, x = .ref p ∧ H p = none ∧ H' = upd H p (.tup vs) ∧ d = .tuple es ∧ RpA w.K Hf2 vs es
def tI (w : Wd) (it : IV) : TI := fun σ H Rv => ∃ Hf s φ ds s', Good w σ H Hf s φ ∧ it s = .ok (ds, s') ∧ ∀ J H' Hf' φ', Good w σ H' Hf' s' φ' → Stp H Hf (Own s φ) H' Hf' (Own s' φ') → Wk w J ds Hf' → Rv J H'
def tI2 (w : Wd) (it : IV) : TI := fun σ H Rv => ∃ Hf s φ ds s', Good w σ H Hf s φ ∧ it s = .ok (ds, s') ∧ ∀ J H' Hf' φ', Good w σ H' Hf' s' φ' → Stp H Hf (Own s φ) H' Hf' (Own s' φ') → Wk2 w J ds Hf' → Rv J H'
abbrev GI (w : Wd) (X : Cx) (tg it : Expr) (f : IV) : Prop := PI X tg it (tI w f)
abbrev GI2 (w : Wd) (X : Cx) (tg it : Expr) (f : IV) : Prop := PI X tg it (tI2 w f)
theorem pi_imp {X : Cx} {tg e : Expr} {t t' : TI} (h : PI X tg e t) (i : ∀ σ H Rv, t' σ H Rv → t σ H Rv) : PI X tg e t' := ⟨fun pins s σ H Rv I q => h.run pins s σ H Rv I (i σ H Rv q)⟩

/-! ### for -/
/-- a turn's target and body, the walk's next place wanted behind it -/
theorem turn_for {tg : TG} {g : GV} {b : SV} {D0 : Ends} {fl : Fl} {x0 : D} {xs : List D} {σ1 : L2.St} {H1 Hf1 H1' : Hp} {s1 : Sl} {φ1 : Nat → List Addr} {N : L2.St → Hp → Prop} {v : V}
    (e : forD g b (x0 :: xs) s1 = .ok (fl, s')) (q : PP w io σ H Hf s φ D0 fl s') (g1 : Good w σ1 H1 Hf1 s1 φ1) (k1 : Stp H Hf (Own s φ) H1 Hf1 (Own s1 φ1))
    (hN : ∀ σ2 H2 Hf2 s2 φ2, Good w σ2 H2 Hf2 s2 φ2 → Stp H Hf (Own s φ) H2 Hf2 (Own s2 φ2) → Kp io σ σ2 → forD g b xs s2 = .ok (fl, s') → N σ2 H2) :
    ∃ s2, g x0 s1 = .ok s2 ∧ ∀ σ2 φ2 H2, Good w σ2 H2 Hf1 s2 φ2 → Stp H Hf (Own s φ) H2 Hf1 (Own s2 φ2) → Kp io σ σ2 → tS w io b { D0 with nx := N, ct := N, bk := D0.nx } σ2 H2 := by
  obtain ⟨s2, h1, h2⟩ := R.bind_eq_ok.mp e
  obtain ⟨⟨f1, s3⟩, h3, h4⟩ := R.bind_eq_ok.mp h2
  refine ⟨s2, h1, fun σ2 φ2 H2 g2 k2 kp => ⟨Hf1, s2, φ2, f1, s3, g2, h3, ?_⟩⟩
  cases f1 with
  | nx => exact fun σ3 H3 Hf3 φ3 g3 k3 kp3 => hN σ3 H3 Hf3 s3 φ3 g3 (k2.trans k3 (fun _ => id) fun x hx => g2.own_free hx) (kp.trans kp3) h4
  | ct => exact fun σ3 H3 Hf3 φ3 g3 k3 kp3 => hN σ3 H3 Hf3 s3 φ3 g3 (k2.trans k3 (fun _ => id) fun x hx => g2.own_free hx) (kp.trans kp3) h4
  | bk =>
    cases h4
    exact q.later k2 (fun _ => id) g2 kp
  | rt t =>
    cases h4
    exact q.later k2 (fun _ => id) g2 kp
theorem drop_at {ds : List D} {i : Nat} (h : i < ds.length) : ds.drop i = ds[i] :: ds.drop (i + 1) := List.drop_eq_getElem_cons h
theorem for_1 {J : It} {g : GV} {b : SV} {ts : List Nat} {D0 : Ends} {fl : Fl} {ds : List D} (hio : ∀ i ∈ ts, i ∉ io) (gd : Good w σ H Hf s φ) (wk : Wk w J ds Hf) (e : forD g b ds s = .ok (fl, s')) (q : PP w io σ H Hf s φ D0 fl s') :
    ∃ W : Nat → Nat → L2.St → Hp → Prop, (∃ m, W 0 m σ H) ∧ ∀ i m σ H, W i m σ H → (J.stop i H ∧ D0.nx σ H) ∨ (J.go i H ∧ ∃ N : L2.St → Hp → Prop, (∀ σ' H', N σ' H' → ∃ m', m' < m ∧ W (i + 1) m' σ' H') ∧
      ∀ x H', J.yld i H x H' → tG w g ts x σ H' fun σ2 H2 => tS w io b { D0 with nx := N, ct := N, bk := D0.nx } σ2 H2) := by
  refine ⟨fun i m σ1 H1 => m = ds.length - i ∧ i ≤ ds.length ∧ ∃ Hf1 s1 φ1, Good w σ1 H1 Hf1 s1 φ1 ∧ Stp H Hf (Own s φ) H1 Hf1 (Own s1 φ1) ∧ Kp io σ σ1 ∧ forD g b (ds.drop i) s1 = .ok (fl, s'), ⟨ds.length, by simp, Nat.zero_le _, Hf, s, φ, gd, Stp.refl, Kp.refl, e⟩, ?_⟩
  rintro i m σ1 H1 ⟨rfl, hi, Hf1, s1, φ1, g1, k1, kp1, e1⟩
  by_cases hlt : i < ds.length
  · rw [drop_at hlt] at e1
    refine .inr ⟨wk.goes i H1 Hf1 k1.sub g1.sub hlt, fun σ2 H2 => ds.length - (i + 1) = ds.length - (i + 1) ∧ i + 1 ≤ ds.length ∧ ∃ Hf1 s1 φ1, Good w σ2 H2 Hf1 s1 φ1 ∧ Stp H Hf (Own s φ) H2 Hf1 (Own s1 φ1) ∧ Kp io σ σ2 ∧ forD g b (ds.drop (i + 1)) s1 = .ok (fl, s'),
      fun σ' H' n => ⟨ds.length - (i + 1), by omega, n⟩, fun x H' y => ?_⟩
    obtain ⟨rfl, rx⟩ := wk.yields i H1 Hf1 x H' ds[i] k1.sub g1.sub (List.getElem?_eq_getElem hlt) y
    obtain ⟨s2, h2, h3⟩ := turn_for (tg := tG w g ts) (v := x) (H1' := H') (N := fun σ2 H2 => ds.length - (i + 1) = ds.length - (i + 1) ∧ i + 1 ≤ ds.length ∧ ∃ Hf1 s1 φ1, Good w σ2 H2 Hf1 s1 φ1 ∧ Stp H Hf (Own s φ) H2 Hf1 (Own s1 φ1) ∧ Kp io σ σ2 ∧ forD g b (ds.drop (i + 1)) s1 = .ok (fl, s'))
      e1 q g1 k1 fun σ2 H2 Hf2 s2 φ2 g2 k2 kp2 e2 => ⟨rfl, hlt, Hf2, s2, φ2, g2, k2, kp2, e2⟩
    exact ⟨Hf1, s1, φ1, ds[i], s2, g1, rx, h2, fun σ2 φ2 g2 o2 _ n2 => h3 σ2 φ2 _ g2 (k1.weak o2) (kp1.trans (Kp.of n2 hio))⟩
  · have : i = ds.length := by omega
    subst this
    rw [List.drop_length] at e1
    cases e1
    exact .inl ⟨wk.stops H1 Hf1 k1.sub g1.sub, q σ1 H1 Hf1 φ1 g1 k1 kp1⟩
theorem for_2 {J : It} {K : PySem.W.Frag} {gs : List GV} {b : SV} {ts : List Nat} {D0 : Ends} {fl : Fl} {ds : List D} (hio : ∀ i ∈ ts, i ∉ io) (gd : Good w σ H Hf s φ) (wk : Wk2 w J ds Hf) (e : forD (gT gs) b ds s = .ok (fl, s')) (q : PP w io σ H Hf s φ D0 fl s') :
    ∃ W : Nat → Nat → L2.St → Hp → Prop, (∃ m, W 0 m σ H) ∧ ∀ i m σ H, W i m σ H → (J.stop i H ∧ D0.nx σ H) ∨ (J.go i H ∧ ∃ N : L2.St → Hp → Prop, (∀ σ' H', N σ' H' → ∃ m', m' < m ∧ W (i + 1) m' σ' H') ∧
      ∀ x H', J.yld i H x H' → tG2 w K gs ts x σ H' fun σ2 H2 => tS w io b { D0 with nx := N, ct := N, bk := D0.nx } σ2 H2) := by
  refine ⟨fun i m σ1 H1 => m = ds.length - i ∧ i ≤ ds.length ∧ ∃ Hf1 s1 φ1, Good w σ1 H1 Hf1 s1 φ1 ∧ Stp H Hf (Own s φ) H1 Hf1 (Own s1 φ1) ∧ Kp io σ σ1 ∧ forD (gT gs) b (ds.drop i) s1 = .ok (fl, s'), ⟨ds.length, by simp, Nat.zero_le _, Hf, s, φ, gd, Stp.refl, Kp.refl, e⟩, ?_⟩
  rintro i m σ1 H1 ⟨rfl, hi, Hf1, s1, φ1, g1, k1, kp1, e1⟩
  by_cases hlt : i < ds.length
  · rw [drop_at hlt] at e1
    refine .inr ⟨wk.goes i H1 Hf1 k1.sub g1.sub hlt, fun σ2 H2 => ds.length - (i + 1) = ds.length - (i + 1) ∧ i + 1 ≤ ds.length ∧ ∃ Hf1 s1 φ1, Good w σ2 H2 Hf1 s1 φ1 ∧ Stp H Hf (Own s φ) H2 Hf1 (Own s1 φ1) ∧ Kp io σ σ2 ∧ forD (gT gs) b (ds.drop (i + 1)) s1 = .ok (fl, s'),
      fun σ' H' n => ⟨ds.length - (i + 1), by omega, n⟩, fun x H' y => ?_⟩
    obtain ⟨p, vs, es, rfl, hp, rfl, ed, rx⟩ := wk.yields i H1 Hf1 x H' ds[i] k1.sub g1.sub (List.getElem?_eq_getElem hlt) y
    obtain ⟨s2, h2, h3⟩ := turn_for (tg := tG2 w K gs ts) (v := .ref p) (H1' := H1) (N := fun σ2 H2 => ds.length - (i + 1) = ds.length - (i + 1) ∧ i + 1 ≤ ds.length ∧ ∃ Hf1 s1 φ1, Good w σ2 H2 Hf1 s1 φ1 ∧ Stp H Hf (Own s φ) H2 Hf1 (Own s1 φ1) ∧ Kp io σ σ2 ∧ forD (gT gs) b (ds.drop (i + 1)) s1 = .ok (fl, s'))
      e1 q g1 k1 fun σ2 H2 Hf2 s2 φ2 g2 k2 kp2 e2 => ⟨rfl, hlt, Hf2, s2, φ2, g2, k2, kp2, e2⟩
    rw [ed] at h2
    refine ⟨p, vs, Hf1, s1, φ1, es, s2, rfl, .inl (.inl upd_same), g1.updH hp, rx, h2, fun σ2 φ2 g2 o2 _ n2 => h3 σ2 φ2 _ g2 ?_ (kp1.trans (Kp.of n2 hio))⟩
    exact (k1.trans (Stp.updH hp fun a => .inl) (fun _ => id) fun x hx => g1.own_free hx).weak o2
  · have : i = ds.length := by omega
    subst this
    rw [List.drop_length] at e1
    cases e1
    exact .inl ⟨wk.stops H1 Hf1 k1.sub g1.sub, q σ1 H1 Hf1 φ1 g1 k1 kp1⟩
theorem gs_for {tg it : Expr} {body : List Stmt} {fi : IV} {g : GV} {ts : List Nat} {b : SV} (c : Cok w k X) (hp : PassesOwn (model X.prog X.w) X.A X.env X.xe) (hi : GI w X tg it fi) (hg : GG w X tg g ts) (hb : GSs w io X body b) (hio : ∀ i ∈ ts, i ∉ io := by decide)
    (hs : ∀ x, foldedSetIterable it X.env x = pure x := by intro _; rfl) : GS w io X (.For tg it body [] pos) (sFor fi g b) := ps_imp (ps_for hp c.calm hi hg hb hs) fun D0 σ H => by
  rintro ⟨Hf, s, φ, fl, s', gd, e, q⟩
  obtain ⟨⟨ds, s1⟩, h1, h2⟩ := R.bind_eq_ok.mp e
  exact ⟨Hf, s, φ, ds, s1, gd, h1, fun J H1 Hf1 φ1 g1 k1 wk => for_1 hio g1 wk h2 (q.later k1 (fun _ => id) g1)⟩
theorem gs_for2 {tg it : Expr} {body : List Stmt} {fi : IV} {gs : List GV} {ts : List Nat} {b : SV} (c : Cok w k X) (hp : PassesOwn (model X.prog X.w) X.A X.env X.xe) (hi : GI2 w X tg it fi) (hg : GG2 w X tg gs ts) (hb : GSs w io X body b) (hio : ∀ i ∈ ts, i ∉ io := by decide)
    (hs : ∀ x, foldedSetIterable it X.env x = pure x := by intro _; rfl) : GS w io X (.For tg it body [] pos) (sFor fi (gT gs) b) := ps_imp (ps_for hp c.calm hi hg hb hs) fun D0 σ H => by
  rintro ⟨Hf, s, φ, fl, s', gd, e, q⟩
  obtain ⟨⟨ds, s1⟩, h1, h2⟩ := R.bind_eq_ok.mp e
  exact ⟨Hf, s, φ, ds, s1, gd, h1, fun J H1 Hf1 φ1 g1 k1 wk => for_2 hio g1 wk h2 (q.later k1 (fun _ => id) g1)⟩

/-! ### while -/
theorem gs_while {ce : Expr} {body : List Stmt} {fc : BV} {b : SV} (hp : PassesOwn (model X.prog X.w) X.A X.env X.xe) (hc : GB w X ce fc) (hb : GSs w io X body b) : GS w io X (.While ce body [] pos) (sWhile fc b) := ps_imp (ps_while hp hc hb) fun D0 σ H => by
  rintro ⟨Hf, s, φ, fl, s', gd, e, q⟩
  refine ⟨fun m σ1 H1 => ∃ Hf1 s1 φ1, Good w σ1 H1 Hf1 s1 φ1 ∧ Stp H Hf (Own s φ) H1 Hf1 (Own s1 φ1) ∧ Kp io σ σ1 ∧ whileD fc b m s1 = .ok (fl, s'), ⟨fuel, Hf, s, φ, gd, Stp.refl, Kp.refl, e⟩, ?_⟩
  rintro m σ1 H1 ⟨Hf1, s1, φ1, g1, k1, kp1, e1⟩
  cases m with
  | zero => cases e1
  | succ m =>
    obtain ⟨⟨t, s2⟩, h1, h2⟩ := R.bind_eq_ok.mp e1
    refine ⟨Hf1, s1, φ1, t, s2, g1, h1, fun H2 Hf2 φ2 g2 k2 => ?_⟩
    have k12 := k1.trans k2 (fun _ => id) fun x hx => g1.own_free hx
    cases t with
    | false =>
      cases h2
      exact q σ1 H2 Hf2 φ2 g2 k12 kp1
    | true =>
      obtain ⟨⟨f1, s3⟩, h3, h4⟩ := R.bind_eq_ok.mp h2
      simp only [if_true]
      refine ⟨fun σ3 H3 => ∃ Hf1 s1 φ1, Good w σ3 H3 Hf1 s1 φ1 ∧ Stp H Hf (Own s φ) H3 Hf1 (Own s1 φ1) ∧ Kp io σ σ3 ∧ whileD fc b m s1 = .ok (fl, s'), fun σ' H' n => ⟨m, by omega, n⟩, Hf2, s2, φ2, f1, s3, g2, h3, ?_⟩
      cases f1 with
      | nx => exact fun σ3 H3 Hf3 φ3 g3 k3 kp3 => ⟨Hf3, s3, φ3, g3, k12.trans k3 (fun _ => id) fun x hx => g2.own_free hx, kp1.trans kp3, h4⟩
      | ct => exact fun σ3 H3 Hf3 φ3 g3 k3 kp3 => ⟨Hf3, s3, φ3, g3, k12.trans k3 (fun _ => id) fun x hx => g2.own_free hx, kp1.trans kp3, h4⟩
      | bk => cases h4; exact q.later k12 (fun _ => id) g2 kp1
      | rt t => cases h4; exact q.later k12 (fun _ => id) g2 kp1
end
end KV

set_option Elab.async false
set_option linter.all false
set_option maxRecDepth 100000
set_option maxHeartbeats 2000000
/-! KVK: what is walked: lists and tuples, ranges, enumerate, zip. -/
namespace KV
open PySem L2
open PySem.Spec PyProof.Rows

/-! ### enumerate(a tuple) -/
theorem enum_newT {v : Value} {o : Obj} {Z : Heap → Prop} (B : Begins v o Z) :
    Meets (Builtin.«enumerate.__new__» ⟨[.type "enumerate", v], []⟩) (fun _ R s => Z s.heap ∧
      R (.ok (.ret (.ref (s.heap.push o).objs.size))) { s with heap := (s.heap.push o).push { cls := .type "enumerate", data := .fields #[.none, .bool false, .ref s.heap.objs.size, rawInt 0, .none, .none] } }) :=
  .of_wp fun prog w A R s h => by
    obtain ⟨hp, g, d, tk, os⟩ := s
    obtain ⟨h1, h⟩ := h
    have hsub := sub_enumerate
    have q1 : ∀ {A' : Around} {E : Value → Shared → Prop} {Q : Value → Shared → Prop}, Q (.ref hp.objs.size) ⟨hp.push o, g, d, tk, os⟩ → wpAny (model prog w) A' (pyIter v) Q E ⟨hp, g, d, tk, os⟩ :=
      fun q => B.iter prog w _ _ ⟨hp, g, d, tk, os⟩ _ h1 q
    wp_walk using q1
    refine wpAny_stack_any fun st => wpAny_pure ?_
    split
    · rename_i c _ _ _ _ _
      cases (c == Value.type "enumerate")
      · wp_walk using q1
        exact ⟨_, rfl, h⟩
      · wp_walk using q1
        exact ⟨_, rfl, h⟩
    · wp_walk using q1
      exact ⟨_, rfl, h⟩
theorem call_enumT {prog : Program} {w : World} {A : Around} {E : Value → Shared → Prop} {s : Shared} {v : Value} {o : Obj} {Z : Heap → Prop} {Q : Value → Shared → Prop} (B : Begins v o Z) (h1 : Z s.heap)
    (h : ∀ h', IsEnum h' (s.heap.objs.size + 1) s.heap.objs.size 0 .none → h'.get? s.heap.objs.size = some o → (∀ b o, s.heap.get? b = some o → h'.get? b = some o) → Q (.ref (s.heap.objs.size + 1)) { s with heap := h' }) :
    wpAny (model prog w) A (call (.type "enumerate") [v]) Q E s := by
  refine callType_new PySem.F.called_enumerate (by decide) (PySem.F.typeCall_enumerate_1 _) (PySem.F.newCall_enumerate_1 _) (fun obj => PySem.F.args_object_init_2 obj _) PySem.F.entry_enumerate_new (enum_newT B) ⟨h1, ?_⟩
  have hz : (s.heap.push o).objs.size = s.heap.objs.size + 1 := Heap.size_push ..
  show _ ∧ _
  rw [hz]
  have he : IsEnum ((s.heap.push o).push { cls := .type "enumerate", data := .fields #[.none, .bool false, .ref s.heap.objs.size, rawInt 0, .none, .none] }) (s.heap.objs.size + 1) s.heap.objs.size 0 .none := by
    have := Heap.get?_push_size (s.heap.push o) (o := { cls := .type "enumerate", data := .fields #[.none, .bool false, .ref s.heap.objs.size, rawInt 0, .none, .none] }) rfl
    rw [hz] at this; exact this
  exact ⟨⟨_, he, rfl⟩, h _ he (Heap.get?_push_of_some _ (Heap.get?_push_size _ B.free)) fun b o x => Heap.get?_push_of_some _ (Heap.get?_push_of_some _ x)⟩
def IteT (K : PySem.W.Frag) (a : Addr) : It :=
  ⟨fun i H => ∃ (xs : List V) (x : V), SqT K H a xs ∧ xs[i]? = some x, fun i H v H' => ∃ T x, v = .ref T ∧ H T = none ∧ H' = upd H T (.tup [.int (i : Nat), x]) ∧ ∀ xs, SqT K H a xs → xs[i]? = some x, fun i H => ∃ xs : List V, SqT K H a xs ∧ xs.length = i⟩
theorem turn_enumT {P : Program} {w : World} {K : PySem.W.Frag} {elts : List Expr} {kk : Nat} {tpos : Pos} (a e it : Addr) :
    Turn P w K (.Tuple elts kk tpos) (IteT K a) [e, it] e (fun i h => (∃ old, IsEnum h e it ((i : Nat) : Int) old) ∧ h.IsTupleIter it a i ∧ e ≠ it ∧ a ≠ it ∧ a ≠ e) where
  mem := by simp
  obj := fun i h st b hb => by
    obtain ⟨⟨old, he⟩, ⟨o, ho, hc, hd⟩, _⟩ := st
    have e' : b = e ∨ b = it := by simpa using hb
    rcases e' with z | z
    · rw [z]; exact ⟨_, he, fun v q => nomatch q⟩
    · rw [z]; exact ⟨o, ho, fun v q => by rw [hd] at q; cases q⟩
  keep := fun i h h' st k => let ⟨⟨old, he⟩, hi, hne⟩ := st; ⟨⟨old, k e (by simp) _ he⟩, hi.at fun o q => k it (by simp) o q, hne⟩
  item := by
    intro X hP hw hK hc i pins s σ H E I hf st hg
    subst hP hw hK
    obtain ⟨⟨old, he⟩, hit, hne, ha1, ha2⟩ := st
    obtain ⟨xs, x, hq, hx⟩ := hg
    obtain ⟨its, rv, p, hz⟩ := I.tuple hq
    obtain ⟨u, hu, ru⟩ := rv.get hx
    have hel : e < s.heap.objs.size := Heap.lt_size he
    have hil : it < s.heap.objs.size := by obtain ⟨_, q, _⟩ := hit; exact Heap.lt_size q
    have hlt : i < its.toArray.size := by
      have := (List.getElem?_eq_some_iff.mp hu).1
      simpa using this
    refine wpAny_pyNext_enum_itemD (A := X.A) (Draws.tuple (A := X.A.in1) (show X.A.in1.handled = none from I.ok.hd hc) it a ha1 its.toArray) he ⟨hit, p⟩ hlt hne (by simp [hne, Ne.symm ha2]) fun x' h' tk hP ho hst' hT hsz hk => ?_
    have eu : x' = u := by
      have h1 : its[i]? = some x' := by simpa using hP
      rw [hu] at h1
      exact (Option.some.inj h1).symm
    subst eu
    refine ⟨_, rfl, wpAny_letOwnedTupleGo_enum (s := { s with heap := h', toks := tk + 1 }) ho fun h'' he' sb => ?_⟩
    have hT2 : h''.get? s.heap.objs.size = some { cls := .type "tuple", data := .seq #[.int i tk, x'] } := (sb.2 _ (Nat.ne_of_gt hel)).trans hT
    have new : ObjOk X.prog X.w (upd H s.heap.objs.size (.tup [.int (i : Nat), x])) h'' s.heap.objs.size (.tup [.int (i : Nat), x]) :=
      ⟨by show 2 ≤ sizeLine; decide, [.int i tk, x'], .cons ⟨_, rfl⟩ (.cons ru .nil), ⟨_, hT2, rfl, _, rfl⟩⟩
    have I1 : Inv X pins σ (upd H s.heap.objs.size (.tup [.int (i : Nat), x])) { s with heap := h'', toks := tk + 1 } :=
      I.turnedNew (ch := [e, it]) (fun b ob hb q => (sb.2 b (fun z => hb (by simp [z]))).trans (hk b ob (fun z => hb (by simp [z])) (fun z => hb (by simp [z])) q)) hf (Nat.le_refl _) new
    refine ⟨.ref s.heap.objs.size, _, I1, rfl, ⟨_, x, rfl, I.hok.fresh (Nat.le_refl _), rfl, fun ys hy => by rw [I.tuple_inj hy hq]; exact hx⟩, ⟨⟨x', ?_⟩, hst'.1.at fun o q => (sb.2 it (Ne.symm hne)).trans q, hne, ha1, ha2⟩, fun b hb => ?_⟩
    · have e1 : ((i + 1 : Nat) : Int) = (i : Int) + 1 := by omega
      rw [e1]; exact he'
    · have hb' : b < s.heap.objs.size := by
        have e' : b = e ∨ b = it := by simpa using hb
        rcases e' with z | z
        · rw [z]; exact hel
        · rw [z]; exact hil
      rw [upd_ne (Nat.ne_of_lt hb')]
      exact (hf b hb).1
  done := by
    intro X hP hw hK hc i pins s σ H E I hf st hg
    subst hP hw hK
    obtain ⟨⟨old, he⟩, hit, hne, ha1, ha2⟩ := st
    obtain ⟨xs, hq, hx⟩ := hg
    obtain ⟨its, rv, p, hz⟩ := I.tuple hq
    obtain ⟨f0, f1, f2, f3, f4, f5⟩ := hf it (by simp)
    have hn : its.toArray.size = i := by rw [List.size_toArray, ← rv.length, hx]
    subst hn
    exact wpAny_pyNext_enum_endD (A := X.A) (Draws.tuple (A := X.A.in1) (show X.A.in1.handled = none from I.ok.hd hc) it a ha1 its.toArray) he ⟨hit, p⟩ fun h' eb => ⟨rfl, I.turned (t' := s.toks) (fun b o hb q => eb b o hb q) f0 f1 f3 f4 f5⟩
  self := fun _ _ _ _ _ st h => let ⟨⟨_, he⟩, _⟩ := st; wpAny_pyIter_enum he h
def iEnumA (K : PySem.W.Frag) (te : TE) : TI := fun σ H Rv => te σ H fun v H1 => ∃ u, [v] = [u] ∧ ∃ a xs, u = .ref a ∧ ((SqL K H1 a xs ∧ Rv (Ite K a) H1) ∨ (SqT K H1 a xs ∧ Rv (IteT K a) H1))
theorem pi_enumA {X : Cx} {e : Expr} {te : TE} {p pos tpos : Pos} {elts : List Expr} {kk : Nat} (hg : Gl X "enumerate") (hm : X.mg "enumerate" = none) (he : PE X e te) (hs : starEach [e] X.env = [(false, eval e X.env)]) :
    PI X (.Tuple elts kk tpos) (.Call (.Name "enumerate" p) [e] [] pos) (iEnumA X.K te) := by
  refine ⟨fun pins s σ H R I h => ?_⟩
  have h0 : tCons te tNil σ H (fun vs H1 => ∃ v, vs = [v] ∧ ∃ a xs, v = .ref a ∧ ((SqL X.K H1 a xs ∧ R (Ite X.K a) H1) ∨ (SqT X.K H1 a xs ∧ R (IteT X.K a) H1))) := h
  refine Call_ (ld_blt I hg hm boot_enumerate (PyProof.Rows.callWith_type1 (thn ((pa_cons he pa_nil hs).run pos pins s σ H _ I h0) fun us s1 ⟨vs, H1, I1, r1, q1⟩ => ?_) hs rfl))
  obtain ⟨v, rfl, a, xs, rfl, q⟩ := q1
  cases r1 with
  | cons r rr =>
    cases rr
    cases r
    have fresh : ∀ b ∈ [s1.heap.objs.size + 1, s1.heap.objs.size], FpOk X pins H1 b := fun b hb => by
      have e' : b = s1.heap.objs.size + 1 ∨ b = s1.heap.objs.size := by simpa using hb
      have hle : s1.heap.objs.size ≤ b := by
        rcases e' with z | z
        · rw [z]; exact Nat.le_add_right _ _
        · rw [z]; exact Nat.le_refl _
      exact I1.fpOk hle (I1.hok.fresh hle)
    rcases q with ⟨hq, q⟩ | ⟨hq, q⟩
    · obtain ⟨its, rv, p', hz⟩ := I1.list hq
      refine call_enumerate_list p'.isList fun h' he hit hsz hk => wpAny_pyIter_enum he ?_
      have I2 : Inv X pins σ H1 { s1 with heap := h' } := I1.kept (t' := s1.toks) hk
      exact ⟨s1.heap.objs.size + 1, [s1.heap.objs.size + 1, s1.heap.objs.size], _, _, H1, rfl, I2, turn_enum a (s1.heap.objs.size + 1) s1.heap.objs.size, ⟨⟨.none, he⟩, hit, Nat.succ_ne_self _⟩, fresh, q⟩
    · obtain ⟨its, rv, p', hz⟩ := I1.tuple hq
      have hlt : a < s1.heap.objs.size := by obtain ⟨_, e, _⟩ := p'; exact Heap.lt_size e
      refine call_enumT (begins_tuple a its.toArray) p' fun h' he hit hk => wpAny_pyIter_enum he ?_
      have I2 : Inv X pins σ H1 { s1 with heap := h' } := I1.kept (t' := s1.toks) hk
      exact ⟨s1.heap.objs.size + 1, [s1.heap.objs.size + 1, s1.heap.objs.size], _, _, H1, rfl, I2, turn_enumT a (s1.heap.objs.size + 1) s1.heap.objs.size, ⟨⟨.none, he⟩, ⟨_, hit, rfl, rfl⟩, Nat.succ_ne_self _, Nat.ne_of_lt hlt, Nat.ne_of_lt (Nat.lt_succ_of_lt hlt)⟩, fresh, q⟩

section
variable {w : Wd} {k : Nat} {X : Cx} {pos : Pos} {σ : L2.St} {H Hf : Hp} {s s' : Sl} {φ : Nat → List Addr} {Q : VK}
/-! ### a list, a tuple -/
def iAny (K : PySem.W.Frag) (te : TE) : TI := fun σ H Rv => te σ H fun v H1 => ∃ a xs, v = .ref a ∧ ((SqL K H1 a xs ∧ Rv (Itl K a) H1) ∨ (SqT K H1 a xs ∧ Rv (Itt K a) H1))
theorem pi_any {tg l : Expr} {tl : TE} (hl : PE X l tl) : PI X tg l (iAny X.K tl) := by
  refine ⟨fun pins s σ H R I h => ?_⟩
  refine thn (hl.run pins s σ H _ I h) fun v s1 ⟨x, H1, I1, r1, q1⟩ => ?_
  obtain ⟨a, xs, e, q⟩ := q1
  subst e
  cases r1
  rcases q with ⟨hq, q⟩ | ⟨hq, q⟩
  · obtain ⟨its, rv, p, hz⟩ := I1.list hq
    refine wpAny_pyIter_list p.isList ?_
    refine ⟨s1.heap.objs.size, [s1.heap.objs.size], _, _, H1, rfl, I1.kept (t' := s1.toks) fun b o e => Heap.get?_push_of_some _ e, turn_list a _, ⟨_, Heap.get?_push_size _ rfl, rfl, rfl⟩, fun b hb => ?_, q⟩
    have e : b = s1.heap.objs.size := by simpa using hb
    subst e
    exact I1.fpOk (Nat.le_refl _) (I1.hok.fresh (Nat.le_refl _))
  · obtain ⟨its, rv, p, hz⟩ := I1.tuple hq
    refine wpAny_pyIter_tuple (show s1.heap.IsTuple a its.toArray from p) ?_
    refine ⟨s1.heap.objs.size, [s1.heap.objs.size], _, _, H1, rfl, I1.kept (t' := s1.toks) fun b o e => Heap.get?_push_of_some _ e, turn_tuple a _, ⟨_, Heap.get?_push_size _ rfl, rfl, rfl⟩, fun b hb => ?_, q⟩
    have e : b = s1.heap.objs.size := by simpa using hb
    subst e
    exact I1.fpOk (Nat.le_refl _) (I1.hok.fresh (Nat.le_refl _))
theorem wk_list {a : Addr} {vs : List V} {ds : List D} (h : Hf a = some (.lst vs)) (r : RpA w.K Hf vs ds) : Wk w (Itl w.K a) ds Hf := by
  refine ⟨fun i H Hf2 s1 s2 hi => ?_, fun H Hf2 s1 s2 => ?_, fun i H Hf2 x H' d s1 s2 hd y => ?_⟩
  · obtain ⟨v, hv, _⟩ := r.get (List.getElem?_eq_getElem hi)
    exact ⟨vs, v, SqL.of (s2 _ _ (s1 _ _ h)), hv⟩
  · exact ⟨vs, SqL.of (s2 _ _ (s1 _ _ h)), by rw [r.length]; exact Nat.le_refl _⟩
  · obtain ⟨v, hv, rv⟩ := r.get hd
    have := y.2 vs (SqL.of (s2 _ _ (s1 _ _ h)))
    rw [hv] at this
    cases this
    exact ⟨y.1, rv.mono s1⟩
theorem wk_tup {a : Addr} {vs : List V} {ds : List D} (h : STup w.K Hf a vs) (r : RpA w.K Hf vs ds) : Wk w (Itt w.K a) ds Hf := by
  refine ⟨fun i H Hf2 s1 s2 hi => ?_, fun H Hf2 s1 s2 => ?_, fun i H Hf2 x H' d s1 s2 hd y => ?_⟩
  · obtain ⟨v, hv, _⟩ := r.get (List.getElem?_eq_getElem hi)
    exact ⟨vs, v, (s2.stup (s1.stup h)).sq, hv⟩
  · exact ⟨vs, (s2.stup (s1.stup h)).sq, by rw [r.length]; exact Nat.le_refl _⟩
  · obtain ⟨v, hv, rv⟩ := r.get hd
    have := y.2 vs (s2.stup (s1.stup h)).sq
    rw [hv] at this
    cases this
    exact ⟨y.1, rv.mono s1⟩
theorem gi_seq (c : Cok w k X) {tg e : Expr} {f : EV} (he : GE w X e f) : GI w X tg e (iSeq f) := by
  refine pi_imp (pi_any he) fun σ H Rv => ?_
  rintro ⟨Hf, s, φ, ds, s', gd, e, q⟩
  obtain ⟨⟨d, s1⟩, h1, h2⟩ := R.bind_eq_ok.mp e
  obtain ⟨xs, h3, h4⟩ := R.bind_eq_ok.mp h2
  cases h4
  refine tE_D gd h1 fun v H1 Hf1 φ1 g1 r1 k1 => ?_
  rcases seqOf_ok h3 with rfl | rfl
  · cases r1 with
    | lst h r => exact ⟨_, _, rfl, .inl ⟨SqL.of (g1.sub _ _ h), by rw [c.K]; exact q _ H1 Hf1 φ1 g1 k1 (wk_list h r)⟩⟩
  · cases r1 with
    | tup h r => exact ⟨_, _, rfl, .inr ⟨by rw [c.K]; exact (g1.sub.stup h).sq, by rw [c.K]; exact q _ H1 Hf1 φ1 g1 k1 (wk_tup h r)⟩⟩

/-! ### ranges -/
theorem intR_len {lo : Int} {n : Nat} : (intR lo n).length = n := by simp [intR]
theorem intR_at {lo : Int} {n i : Nat} {d : D} (h : (intR lo n)[i]? = some d) : d = .int (lo + (i : Nat)) ∧ i < n := by
  simp only [intR, List.getElem?_map, List.getElem?_range, Option.map_eq_some_iff] at h
  obtain ⟨j, h1, rfl⟩ := h
  have h2 := List.getElem?_eq_some_iff.mp h1
  obtain ⟨h3, h4⟩ := h2
  simp at h3 h4
  subst h4
  exact ⟨rfl, h3⟩
theorem wk_rng {lo : Int} {n : Nat} : Wk w (Itr lo n) (intR lo n) Hf := by
  refine ⟨fun i H Hf2 s1 s2 hi => by rw [intR_len] at hi; exact hi, fun H Hf2 s1 s2 => by rw [intR_len]; exact Nat.le_refl _, fun i H Hf2 x H' d s1 s2 hd y => ?_⟩
  obtain ⟨rfl, _⟩ := intR_at hd
  obtain ⟨rfl, rfl⟩ := y
  exact ⟨rfl, .int _⟩
theorem gi_rg1 {tg a : Expr} {f : EV} {p : Pos} (hm : X.mg "range" = none) (ha : GE w X a f) (hg : Gl X "range" := by rfl) (hs : starEach [a] X.env = [(false, eval a X.env)] := by rfl) : GI w X tg (.Call (.Name "range" p) [a] [] pos) (iRg1 f) := by
  refine pi_imp (pi_range1 hg hm (pa_cons ha pa_nil hs) hs) fun σ H Rv => ?_
  rintro ⟨Hf, s, φ, ds, s', gd, e, q⟩
  obtain ⟨⟨d, s1⟩, h1, h2⟩ := R.bind_eq_ok.mp e
  refine tE_D gd h1 fun v H1 Hf1 φ1 g1 r1 k1 => ?_
  simp only at h2
  split at h2
  · split at h2
    · rename_i hb
      cases h2
      cases r1
      exact ⟨_, rfl, by omega, by omega, q _ H1 Hf1 φ1 g1 k1 wk_rng⟩
    · cases h2
  · cases h2
theorem gi_rg2 {tg a b : Expr} {f f' : EV} {p : Pos} (hm : X.mg "range" = none) (ha : GE w X a f) (hb : GE w X b f') (hg : Gl X "range" := by rfl) (hs : starEach [a, b] X.env = [(false, eval a X.env), (false, eval b X.env)] := by rfl) (hs2 : starEach [b] X.env = [(false, eval b X.env)] := by rfl) :
    GI w X tg (.Call (.Name "range" p) [a, b] [] pos) (iRg2 f f') := by
  refine pi_imp (pi_range2 hg hm (pa_cons ha (pa_cons hb pa_nil hs2) (by rw [hs, hs2])) hs hs2) fun σ H Rv => ?_
  rintro ⟨Hf, s, φ, ds, s', gd, e, q⟩
  obtain ⟨⟨d, s1⟩, h1, h2⟩ := R.bind_eq_ok.mp e
  obtain ⟨⟨d2, s2⟩, h3, h4⟩ := R.bind_eq_ok.mp h2
  refine tE_D gd h1 fun v H1 Hf1 φ1 g1 r1 k1 => tE_D g1 h3 fun v2 H2 Hf2 φ2 g2 r2 k2 => ?_
  simp only at h4
  split at h4
  · split at h4
    · rename_i hb
      cases h4
      cases r1
      cases r2
      exact ⟨_, _, rfl, by omega, q _ H2 Hf2 φ2 g2 (k1.trans k2 (fun _ => id) fun x hx => g1.own_free hx) wk_rng⟩
    · cases h4
  · cases h4

/-! ### enumerate -/
theorem enumD_at : ∀ {ds : List D} {k i : Nat} {d : D}, (enumD k ds)[i]? = some d → ∃ x, ds[i]? = some x ∧ d = .tuple [.int ((k + i : Nat) : Int), x]
  | [], k, i, d, h => by simp [enumD] at h
  | x :: r, k, 0, d, h => by
    simp [enumD] at h
    exact ⟨x, rfl, by simp [← h]⟩
  | x :: r, k, i + 1, d, h => by
    obtain ⟨y, h1, h2⟩ := enumD_at (ds := r) (k := k + 1) (i := i) (by simpa [enumD] using h)
    exact ⟨y, by simpa using h1, by rw [h2]; simp [Nat.add_assoc, Nat.add_comm 1 i]⟩
theorem enumD_len : ∀ {ds : List D} {k : Nat}, (enumD k ds).length = ds.length
  | [], _ => rfl
  | _ :: r, k => by rw [enumD, List.length_cons, List.length_cons, enumD_len]
theorem wk_enumL {a : Addr} {vs : List V} {ds : List D} (h : Hf a = some (.lst vs)) (r : RpA w.K Hf vs ds) : Wk2 w (Ite w.K a) (enumD 0 ds) Hf := by
  refine ⟨fun i H Hf2 s1 s2 hi => ?_, fun H Hf2 s1 s2 => ?_, fun i H Hf2 x H' d s1 s2 hd y => ?_⟩
  · rw [enumD_len] at hi
    obtain ⟨v, hv, _⟩ := r.get (List.getElem?_eq_getElem hi)
    exact ⟨vs, v, SqL.of (s2 _ _ (s1 _ _ h)), hv⟩
  · exact ⟨vs, SqL.of (s2 _ _ (s1 _ _ h)), by rw [enumD_len, r.length]; exact Nat.le_refl _⟩
  · obtain ⟨z, hz, rfl⟩ := enumD_at hd
    obtain ⟨v, hv, rv⟩ := r.get hz
    obtain ⟨p, x', rfl, hp, rfl, hx⟩ := y
    have := hx vs (SqL.of (s2 _ _ (s1 _ _ h)))
    rw [hv] at this
    cases this
    exact ⟨p, _, _, rfl, hp, rfl, rfl, by rw [Nat.zero_add]; exact .cons (.int _) (.cons (rv.mono s1) .nil)⟩
theorem wk_enumT {a : Addr} {vs : List V} {ds : List D} (h : STup w.K Hf a vs) (r : RpA w.K Hf vs ds) : Wk2 w (IteT w.K a) (enumD 0 ds) Hf := by
  refine ⟨fun i H Hf2 s1 s2 hi => ?_, fun H Hf2 s1 s2 => ?_, fun i H Hf2 x H' d s1 s2 hd y => ?_⟩
  · rw [enumD_len] at hi
    obtain ⟨v, hv, _⟩ := r.get (List.getElem?_eq_getElem hi)
    exact ⟨vs, v, (s2.stup (s1.stup h)).sq, hv⟩
  · exact ⟨vs, (s2.stup (s1.stup h)).sq, by rw [enumD_len, r.length]⟩
  · obtain ⟨z, hz, rfl⟩ := enumD_at hd
    obtain ⟨v, hv, rv⟩ := r.get hz
    obtain ⟨p, x', rfl, hp, rfl, hx⟩ := y
    have := hx vs (s2.stup (s1.stup h)).sq
    rw [hv] at this
    cases this
    exact ⟨p, _, _, rfl, hp, rfl, rfl, by rw [Nat.zero_add]; exact .cons (.int _) (.cons (rv.mono s1) .nil)⟩
theorem gi_enum (c : Cok w k X) {e : Expr} {f : EV} {p tpos : Pos} {elts : List Expr} {kk : Nat} (hm : X.mg "enumerate" = none) (he : GE w X e f) (hg : Gl X "enumerate" := by rfl) (hs : starEach [e] X.env = [(false, eval e X.env)] := by rfl) :
    GI2 w X (.Tuple elts kk tpos) (.Call (.Name "enumerate" p) [e] [] pos) (iEnum f) := by
  refine pi_imp (pi_enumA hg hm he hs) fun σ H Rv => ?_
  rintro ⟨Hf, s, φ, ds, s', gd, e, q⟩
  obtain ⟨⟨xs, s1⟩, e1, e2⟩ := R.bind_eq_ok.mp e
  cases e2
  obtain ⟨⟨d, s1⟩, h1, h2⟩ := R.bind_eq_ok.mp e1
  obtain ⟨xs, h3, h4⟩ := R.bind_eq_ok.mp h2
  cases h4
  refine tE_D gd h1 fun v H1 Hf1 φ1 g1 r1 k1 => ?_
  rcases seqOf_ok h3 with rfl | rfl
  · cases r1 with
    | lst h r => exact ⟨_, rfl, _, _, rfl, .inl ⟨SqL.of (g1.sub _ _ h), by rw [c.K]; exact q _ H1 Hf1 φ1 g1 k1 (wk_enumL h r)⟩⟩
  · cases r1 with
    | tup h r => exact ⟨_, rfl, _, _, rfl, .inr ⟨by rw [c.K]; exact (g1.sub.stup h).sq, by rw [c.K]; exact q _ H1 Hf1 φ1 g1 k1 (wk_enumT h r)⟩⟩

/-! ### zip -/
theorem zipD_at : ∀ {ds es : List D} {i : Nat} {d : D}, (zipD ds es)[i]? = some d → ∃ x y, ds[i]? = some x ∧ es[i]? = some y ∧ d = .tuple [x, y]
  | [], es, i, d, h => by simp [zipD] at h
  | x :: r, [], i, d, h => by simp [zipD] at h
  | x :: r, y :: t, 0, d, h => by
    simp [zipD] at h
    exact ⟨x, y, rfl, rfl, by simp [← h]⟩
  | x :: r, y :: t, i + 1, d, h => by
    obtain ⟨a, b, h1, h2, h3⟩ := zipD_at (ds := r) (es := t) (i := i) (by simpa [zipD] using h)
    exact ⟨a, b, by simpa using h1, by simpa using h2, h3⟩
theorem zipD_len : ∀ {ds es : List D}, (zipD ds es).length = min ds.length es.length
  | [], es => by simp [zipD]
  | x :: r, [] => by simp [zipD]
  | x :: r, y :: t => by simp [zipD, zipD_len (ds := r) (es := t)]
theorem wk_zipL {a b : Addr} {vs us : List V} {ds es : List D} (h : Hf a = some (.lst vs)) (r : RpA w.K Hf vs ds) (h' : Hf b = some (.lst us)) (r' : RpA w.K Hf us es) : Wk2 w (Itz w.K a b) (zipD ds es) Hf := by
  refine ⟨fun i H Hf2 s1 s2 hi => ?_, fun H Hf2 s1 s2 => ?_, fun i H Hf2 x H' d s1 s2 hd y => ?_⟩
  · rw [zipD_len] at hi
    obtain ⟨v, hv, _⟩ := r.get (List.getElem?_eq_getElem (show i < ds.length by omega))
    obtain ⟨u, hu, _⟩ := r'.get (List.getElem?_eq_getElem (show i < es.length by omega))
    exact ⟨vs, us, v, u, SqL.of (s2 _ _ (s1 _ _ h)), SqL.of (s2 _ _ (s1 _ _ h')), hv, hu⟩
  · refine ⟨vs, us, SqL.of (s2 _ _ (s1 _ _ h)), SqL.of (s2 _ _ (s1 _ _ h')), ?_⟩
    rw [zipD_len, r.length, r'.length]
    omega
  · obtain ⟨z, z', hz, hz', rfl⟩ := zipD_at hd
    obtain ⟨v, hv, rv⟩ := r.get hz
    obtain ⟨u, hu, ru⟩ := r'.get hz'
    obtain ⟨p, x', y', rfl, hp, rfl, hx, hy⟩ := y
    have e1 := hx vs (SqL.of (s2 _ _ (s1 _ _ h)))
    have e2 := hy us (SqL.of (s2 _ _ (s1 _ _ h')))
    rw [hv] at e1
    rw [hu] at e2
    cases e1
    cases e2
    exact ⟨p, _, _, rfl, hp, rfl, rfl, .cons (rv.mono s1) (.cons (ru.mono s1) .nil)⟩
theorem wk_zipT {a b : Addr} {vs us : List V} {ds es : List D} (h : STup w.K Hf a vs) (r : RpA w.K Hf vs ds) (h' : STup w.K Hf b us) (r' : RpA w.K Hf us es) : Wk2 w (RZ.ItzT w.K a b) (zipD ds es) Hf := by
  refine ⟨fun i H Hf2 s1 s2 hi => ?_, fun H Hf2 s1 s2 => ?_, fun i H Hf2 x H' d s1 s2 hd y => ?_⟩
  · rw [zipD_len] at hi
    obtain ⟨v, hv, _⟩ := r.get (List.getElem?_eq_getElem (show i < ds.length by omega))
    obtain ⟨u, hu, _⟩ := r'.get (List.getElem?_eq_getElem (show i < es.length by omega))
    exact ⟨vs, us, v, u, (s2.stup (s1.stup h)).sq, (s2.stup (s1.stup h')).sq, hv, hu⟩
  · refine ⟨vs, us, (s2.stup (s1.stup h)).sq, (s2.stup (s1.stup h')).sq, ?_⟩
    rw [zipD_len, r.length, r'.length]
    omega
  · obtain ⟨z, z', hz, hz', rfl⟩ := zipD_at hd
    obtain ⟨v, hv, rv⟩ := r.get hz
    obtain ⟨u, hu, ru⟩ := r'.get hz'
    obtain ⟨p, x', y', rfl, hp, rfl, hx, hy⟩ := y
    have e1 := hx vs (s2.stup (s1.stup h)).sq
    have e2 := hy us (s2.stup (s1.stup h')).sq
    rw [hv] at e1
    rw [hu] at e2
    cases e1
    cases e2
    exact ⟨p, _, _, rfl, hp, rfl, rfl, .cons (rv.mono s1) (.cons (ru.mono s1) .nil)⟩
theorem gi_zip (c : Cok w k X) {e e2 : Expr} {f f' : EV} {p tpos : Pos} {elts : List Expr} {kk : Nat} (hm : X.mg "zip" = none) (he : GE w X e f) (he2 : GE w X e2 f') (hg : Gl X "zip" := by rfl)
    (hs : starEach [e, e2] X.env = (false, eval e X.env) :: starEach [e2] X.env := by rfl) (hs2 : starEach [e2] X.env = (false, eval e2 X.env) :: starEach [] X.env := by rfl) (hpl : (backTo pos (starEach [e2] X.env)).any (·.1) = false := by rfl) :
    GI2 w X (.Tuple elts kk tpos) (.Call (.Name "zip" p) [e, e2] [] pos) (iZip f f') := by
  refine pi_imp (RZ.pi_zipA hg hm (pa_cons he (pa_cons he2 pa_nil hs2) hs) hs hpl) fun σ H Rv => ?_
  rintro ⟨Hf, s, φ, ds, s', gd, e, q⟩
  obtain ⟨⟨d, s1⟩, h1, h2⟩ := R.bind_eq_ok.mp e
  obtain ⟨⟨d2, s2⟩, h3, h4⟩ := R.bind_eq_ok.mp h2
  refine tE_D gd h1 fun v H1 Hf1 φ1 g1 r1 k1 => tE_D g1 h3 fun v2 H2 Hf2 φ2 g2 r2 k2 => ?_
  have k12 := k1.trans k2 (fun _ => id) fun x hx => g1.own_free hx
  have r1' := r1.mono k2.sub
  simp only at h4
  split at h4
  · cases h4
    cases r1' with
    | lst h r =>
      cases r2 with
      | lst h' r' => exact ⟨_, _, _, _, rfl, .inl ⟨SqL.of (g2.sub _ _ h), SqL.of (g2.sub _ _ h'), by rw [c.K]; exact q _ H2 Hf2 φ2 g2 k12 (wk_zipL h r h' r')⟩⟩
  · cases h4
    cases r1' with
    | tup h r =>
      cases r2 with
      | tup h' r' => exact ⟨_, _, _, _, rfl, .inr ⟨by rw [c.K]; exact (g2.sub.stup h).sq, by rw [c.K]; exact (g2.sub.stup h').sq, by rw [c.K]; exact q _ H2 Hf2 φ2 g2 k12 (wk_zipT h r h' r')⟩⟩
  · cases h4
end
end KV

set_option Elab.async false
set_option linter.all false
set_option maxRecDepth 100000
set_option maxHeartbeats 2000000
/-! KVL: comprehensions. -/
namespace KV
open PySem L2
open PySem.Spec PyProof.Rows

section
variable {w : Wd} {k : Nat} {X : Cx} {pos : Pos} {σ : L2.St} {H Hf : Hp} {s s' : Sl} {φ : Nat → List Addr} {Q : VK}

theorem Cok.blk (c : Cok w k X) {s0 : Shared} {H0 : Hp} {scope : Scope} {cenv : Env} {fp : List Addr} : Cok w k (X.blk s0 H0 scope cenv fp) := ⟨c.K, c.calm, c.nd, c.room, c.gd⟩
theorem wipeD_length (s : Sl) : ∀ vs : List Nat, (wipeD s vs).length = s.length
  | [] => rfl
  | v :: vs => by unfold wipeD; rw [List.length_set, wipeD_length s vs]
theorem wipeD_some {s : Sl} {i : Nat} {x : T} : ∀ {vs : List Nat}, (wipeD s vs)[i]? = some (some x) → s[i]? = some (some x) ∧ i ∉ vs
  | [], h => ⟨h, by simp⟩
  | v :: vs, h => by
    unfold wipeD at h
    obtain ⟨z, h⟩ := clr_at h
    obtain ⟨h1, h2⟩ := wipeD_some h
    exact ⟨h1, by simp only [List.mem_cons, not_or]; exact ⟨z, h2⟩⟩
theorem wipe_out {σ : L2.St} {i : Nat} : ∀ {vs : List Nat}, i ∉ vs → (wipe σ vs)[i]? = σ[i]?
  | [], _ => rfl
  | v :: vs, h => by
    simp only [List.mem_cons, not_or] at h
    unfold wipe
    rw [List.getElem?_set_ne (Ne.symm h.1), wipe_out h.2]
theorem wipe_in {σ : L2.St} {i : Nat} : ∀ {vs : List Nat}, i ∈ vs → (wipe σ vs)[i]? = if i < σ.length then some none else none
  | [], h => nomatch h
  | v :: vs, h => by
    unfold wipe
    by_cases e : v = i
    · subst e
      by_cases hl : v < σ.length
      · rw [List.getElem?_set_self (by rw [wipe_length]; exact hl), if_pos hl]
      · rw [List.getElem?_eq_none (by rw [List.length_set, wipe_length]; omega), if_neg hl]
    · rw [List.getElem?_set_ne e]
      exact wipe_in ((List.mem_cons.mp h).resolve_left fun z => e z.symm)
theorem wipe_eq {σ σ2 : L2.St} {vs ts : List Nat} (hl : σ2.length = (wipe σ vs).length) (h : ∀ i, i ∉ ts → σ2[i]? = (wipe σ vs)[i]?) (ht : ∀ i ∈ ts, i ∈ vs) : wipe σ2 vs = wipe σ vs := by
  apply List.ext_getElem?
  intro i
  by_cases hi : i ∈ vs
  · rw [wipe_in hi, wipe_in hi, hl, wipe_length]
  · rw [wipe_out hi]
    exact h i fun z => hi (ht i z)
theorem Good.wipe {σ' : L2.St} {vs : List Nat} (g : Good w σ H Hf s φ) (hl : σ'.length = σ.length) (h : ∀ i, i ∉ vs → σ'[i]? = σ[i]?) : Good w σ' H Hf (wipeD s vs) φ ∧ ∀ a, Own (wipeD s vs) φ a → Own s φ a := by
  refine ⟨⟨g.sub, by rw [wipeD_length, g.len, hl], fun i t e => ?_, fun i t a e m => g.fr i t a (wipeD_some e).1 m, fun i j t u a e1 e2 m1 m2 => g.dj i j t u a (wipeD_some e1).1 (wipeD_some e2).1 m1 m2⟩, fun a ⟨i, t, e, m⟩ => ⟨i, t, (wipeD_some e).1, m⟩⟩
  obtain ⟨e1, e2⟩ := wipeD_some e
  obtain ⟨v, h1, h2⟩ := g.here i t e1
  exact ⟨v, by rw [h i e2]; exact h1, h2⟩
def tC (w : Wd) : Option BV → TT
  | none => tYes
  | some b => tB w b
def bOf : Option BV → BV
  | none => fun s => .ok (true, s)
  | some b => b
theorem compD_cons {g : GV} {c : Option BV} {f : EV} {own : List Nat} {x : D} {xs : List D} : compD g c f own (x :: xs) s = (g x (wipeD s own)).bind fun s1 => (bOf c s1).bind fun r =>
      if r.1 then (kD f r.2).bind fun q => (compD g c f own xs (wipeD q.2 own)).bind fun t => .ok (q.1 :: t.1, t.2)
      else compD g c f own xs (wipeD r.2 own) := by
  cases c <;> rfl
theorem tC_of {c : Option BV} {b : Bool} {P : Bool → Hp → Prop} (g : Good w σ H Hf s φ) (e : bOf c s = .ok (b, s')) (h : ∀ H' Hf' φ', Good w σ H' Hf' s' φ' → Stp H Hf (Own s φ) H' Hf' (Own s' φ') → P b H') : tC w c σ H P := by
  cases c with
  | none => cases e; exact h H Hf φ g Stp.refl
  | some f => exact ⟨Hf, s, φ, b, s', g, e, h⟩
/-- where a comprehension stands: its list at A holds das -/
structure At (w : Wd) (σ : L2.St) (H0 Hf0 : Hp) (P0 : Addr → Prop) (A : Addr) (das : List D) (H Hf : Hp) (s : Sl) (φ : Nat → List Addr) : Prop where
  g : Good w σ H Hf s φ
  r : RL w σ Hf H s φ (.ref A) (.t (.lst das)) [A]
  k : Stp H0 Hf0 P0 H Hf (fun a => Own s φ a ∨ a ∈ [A])
theorem At.lst {H0 Hf0 : Hp} {P0 : Addr → Prop} {A : Addr} {das : List D} (a : At w σ H0 Hf0 P0 A das H Hf s φ) : ∃ acc, H A = some (.lst acc) ∧ RpA w.K Hf acc das ∧ Hf A = none ∧ ¬ Own s φ A := by
  cases a.r with
  | t r c =>
    obtain ⟨c1, c2⟩ := c A (by simp)
    cases r with
    | lst h r => exact ⟨_, h, r, c1, c2⟩
theorem At.step {σ2 : L2.St} {H0 Hf0 : Hp} {P0 : Addr → Prop} {A : Addr} {das : List D} {H1 Hf1 : Hp} {s1 : Sl} {φ1 : Nat → List Addr} (a : At w σ H0 Hf0 P0 A das H Hf s φ) (g1 : Good w σ2 H1 Hf1 s1 φ1) (k1 : Stp H Hf (Own s φ) H1 Hf1 (Own s1 φ1)) : At w σ2 H0 Hf0 P0 A das H1 Hf1 s1 φ1 := by
  obtain ⟨acc, h1, h2, h3, h4⟩ := a.lst
  have r1 : RL w σ2 Hf H s φ (.ref A) (.t (.lst das)) [A] := .t (.lst h1 h2) fun x hx => by rw [List.mem_singleton] at hx; subst hx; exact ⟨h3, h4⟩
  have hA : H1 A = some (.lst acc) := k1.keep A _ h1 h4
  have noP : ¬ (Own s1 φ1 A ∨ Hf1 A ≠ none) := fun z => by
    rcases k1.new A z with z | z | z
    · exact h4 z
    · exact z h3
    · rw [h1] at z; cases z
  refine ⟨g1, r1.stay (s' := s1) (φ' := φ1) k1 fun _ => id, ⟨a.k.sub.trans k1.sub, fun x o e n => ?_, fun x z => ?_⟩⟩
  · have e1 := a.k.keep x o e n
    refine k1.keep x o e1 fun q => ?_
    rcases a.k.new x (.inl (.inl q)) with z | z | z
    · exact n z
    · have := a.g.own_free q
      cases e2 : Hf0 x with
      | none => exact z e2
      | some u => have e3 := a.k.sub x u e2; rw [this] at e3; cases e3
    · rw [e] at z; cases z
  · rcases z with (z | z) | z
    · rcases k1.new x (.inl z) with z | z | z
      · exact a.k.new x (.inl (.inl z))
      · exact a.k.new x (.inr z)
      · by_cases n : P0 x
        · exact .inl n
        · cases e : H0 x with
          | none => exact .inr (.inr rfl)
          | some u => rw [a.k.keep x u e n] at z; cases z
    · exact a.k.new x (.inl (.inr z))
    · rcases k1.new x (.inr z) with z | z | z
      · exact a.k.new x (.inl (.inl z))
      · exact a.k.new x (.inr z)
      · by_cases n : P0 x
        · exact .inl n
        · cases e : H0 x with
          | none => exact .inr (.inr rfl)
          | some u => rw [a.k.keep x u e n] at z; cases z
theorem At.push {H0 Hf0 : Hp} {P0 : Addr → Prop} {A : Addr} {das : List D} {acc : List V} {v : V} {d : D} (a : At w σ H0 Hf0 P0 A das H Hf s φ) (h : H A = some (.lst acc)) (r : Rp w.K Hf v d) : At w σ H0 Hf0 P0 A (das ++ [d]) (upd H A (.lst (acc ++ [v]))) Hf s φ := by
  obtain ⟨acc', h1, h2, h3, h4⟩ := a.lst
  rw [h] at h1
  cases h1
  refine ⟨a.g.updO h3 h4, .t (.lst upd_same (h2.append (.cons r .nil))) fun x hx => by rw [List.mem_singleton] at hx; subst hx; exact ⟨h3, h4⟩, a.k.updO (.inr (by simp)) h3⟩
theorem At.wipe {σ' : L2.St} {vs : List Nat} {H0 Hf0 : Hp} {P0 : Addr → Prop} {A : Addr} {das : List D} (a : At w σ H0 Hf0 P0 A das H Hf s φ) (hl : σ'.length = σ.length) (h : ∀ i, i ∉ vs → σ'[i]? = σ[i]?) : At w σ' H0 Hf0 P0 A das H Hf (wipeD s vs) φ := by
  obtain ⟨g, o⟩ := a.g.wipe hl h
  exact a.step g (Stp.refl.weak o)
/-- a turn, behind its target -/
theorem turn_lc {g : GV} {c : Option BV} {f : EV} {vs : List Nat} {x0 : D} {xs das rest : List D} {σ2 : L2.St} {H0 Hf0 : Hp} {P0 : Addr → Prop} {A : Addr} {send : Sl} {Nx : Hp → Prop}
    (e : compD g c f vs (x0 :: xs) s = .ok (rest, send)) (hz : das.length + rest.length ≤ 16000000)
    (hN : ∀ das' rest' H3 Hf3 s3 φ3, At w σ H0 Hf0 P0 A das' H3 Hf3 s3 φ3 → compD g c f vs xs s3 = .ok (rest', send) → das' ++ rest' = das ++ rest → Nx H3) :
    ∃ s2, g x0 (wipeD s vs) = .ok s2 ∧ ∀ H2 Hf2 φ2, At w σ2 H0 Hf0 P0 A das H2 Hf2 s2 φ2 → wipe σ2 vs = wipe σ vs →
      tC w c σ2 H2 fun b H3 => if b = true then tE w f σ2 H3 (fun y H4 => ∃ acc, H4 A = some (.lst acc) ∧ acc.length < sizeLine ∧ Nx (upd H4 A (.lst (acc ++ [y])))) else Nx H3 := by
  rw [compD_cons] at e
  obtain ⟨s2, h1, h2⟩ := R.bind_eq_ok.mp e
  obtain ⟨⟨b, s3⟩, h3, h4⟩ := R.bind_eq_ok.mp h2
  refine ⟨s2, h1, fun H2 Hf2 φ2 a2 hw => tC_of a2.g h3 fun H3 Hf3 φ3 g3 k3 => ?_⟩
  have a3 := a2.step g3 k3
  have hlen : σ.length = σ2.length := by
    have := congrArg List.length hw
    rw [wipe_length, wipe_length] at this
    exact this.symm
  have hout : ∀ i, i ∉ vs → σ[i]? = σ2[i]? := fun i hi => by
    have := congrArg (fun z : L2.St => z[i]?) hw
    simp only [wipe_out hi] at this
    exact this.symm
  cases b with
  | false =>
    simp only [Bool.false_eq_true, if_false] at h4 ⊢
    exact hN das rest H3 Hf3 _ φ3 (a3.wipe hlen hout) h4 rfl
  | true =>
    simp only [if_true] at h4 ⊢
    obtain ⟨⟨d, s4⟩, h5, h6⟩ := R.bind_eq_ok.mp h4
    obtain ⟨⟨rest', s5⟩, h7, h8⟩ := R.bind_eq_ok.mp h6
    cases h8
    refine tE_D g3 h5 fun v H4 Hf4 φ4 g4 r4 k4 => ?_
    have a4 := a3.step g4 k4
    obtain ⟨acc, e1, e2, _, _⟩ := a4.lst
    refine ⟨acc, e1, ?_, hN (das ++ [d]) rest' _ Hf4 _ φ4 ((a4.push e1 r4).wipe hlen hout) h7 (by simp)⟩
    rw [e2.length, sizeLine_eq]
    rw [List.length_cons] at hz
    omega
theorem lc_1 {J : It} {g : GV} {c : Option BV} {f : EV} {vs ts : List Nat} {ds rest : List D} {H1 Hf1 : Hp} {s1 : Sl} {φ1 : Nat → List Addr} {A : Addr} (g1 : Good w σ H1 Hf1 s1 φ1) (k1 : Stp H Hf (Own s φ) H1 Hf1 (Own s1 φ1)) (hA : H1 A = none) (wk : Wk w J ds Hf1) (ht : ∀ i ∈ ts, i ∈ vs)
    (e : compD g c f vs ds s1 = .ok (rest, s')) (hz : rest.length ≤ 16000000) (q : PQ w σ H Hf s φ s' (.t (.lst rest)) Q) :
    ∃ W : Nat → Nat → Hp → Prop, (∃ m, W 0 m (upd H1 A (.lst []))) ∧ ∀ i m H, W i m H → (J.stop i H ∧ Q (.ref A) H) ∨ (J.go i H ∧ ∃ Nx : Hp → Prop, (∀ H', Nx H' → ∃ m', m' < m ∧ W (i + 1) m' H') ∧
      ∀ x H', J.yld i H x H' → tG w g ts x (wipe σ vs) H' fun σ2 H2 => wipe σ2 vs = wipe σ vs ∧ tC w c σ2 H2 fun b H3 => if b = true then tE w f σ2 H3 (fun y H4 => ∃ acc, H4 A = some (.lst acc) ∧ acc.length < sizeLine ∧ Nx (upd H4 A (.lst (acc ++ [y])))) else Nx H3) := by
  have kA : Stp H Hf (Own s φ) (upd H1 A (.lst [])) Hf1 (fun a => Own s1 φ1 a ∨ a ∈ [A]) := k1.trans (Stp.updH hA fun a z => z.imp id fun z => by simpa using z) (fun _ => id) fun x hx => g1.own_free hx
  have fA : ∀ x, (Own s1 φ1 x ∨ x ∈ [A]) → Hf1 x = none := fun x z => by
    rcases z with z | z
    · exact g1.own_free z
    · rw [List.mem_singleton] at z; subst z; exact g1.hf_none hA
  have at0 : At w σ (upd H1 A (.lst [])) Hf1 (fun a => Own s1 φ1 a ∨ a ∈ [A]) A [] (upd H1 A (.lst [])) Hf1 s1 φ1 :=
    ⟨g1.updH hA, .t (.lst upd_same .nil) fun x hx => by rw [List.mem_singleton] at hx; subst hx; exact ⟨g1.hf_none hA, g1.own_ne hA⟩, Stp.refl⟩
  let Inv1 : Nat → Hp → Prop := fun i Hc => ∃ das rest' Hfc sc φc, At w σ (upd H1 A (.lst [])) Hf1 (fun a => Own s1 φ1 a ∨ a ∈ [A]) A das Hc Hfc sc φc ∧ compD g c f vs (ds.drop i) sc = .ok (rest', s') ∧ das ++ rest' = rest
  refine ⟨fun i m Hc => m = ds.length - i ∧ i ≤ ds.length ∧ Inv1 i Hc, ⟨ds.length, by simp, Nat.zero_le _, [], rest, Hf1, s1, φ1, at0, e, rfl⟩, ?_⟩
  rintro i m Hc ⟨rfl, hi, das, rest', Hfc, sc, φc, ac, ec, er⟩
  by_cases hlt : i < ds.length
  · rw [drop_at hlt] at ec
    refine .inr ⟨wk.goes i Hc Hfc ac.k.sub ac.g.sub hlt, fun H' => Inv1 (i + 1) H', fun H' n => ⟨ds.length - (i + 1), by omega, rfl, hlt, n⟩, fun x H' y => ?_⟩
    have hz2 : das.length + rest'.length ≤ 16000000 := by rw [← er, List.length_append] at hz; exact hz
    obtain ⟨rfl, rx⟩ := wk.yields i Hc Hfc x H' ds[i] ac.k.sub ac.g.sub (List.getElem?_eq_getElem hlt) y
    obtain ⟨gw, ow⟩ := ac.g.wipe (σ' := wipe σ vs) (vs := vs) (wipe_length _ _) fun i hi => wipe_out hi
    have key := fun σ2 => turn_lc (σ := σ) (σ2 := σ2) (das := das) (A := A) (H0 := upd H1 A (.lst [])) (Hf0 := Hf1) (P0 := fun a => Own s1 φ1 a ∨ a ∈ [A]) (Nx := fun H' => Inv1 (i + 1) H') (w := w) ec hz2 fun das' rest'' H3 Hf3 s3 φ3 a3 e3 er3 => ⟨das', rest'', Hf3, s3, φ3, a3, e3, er3.trans er⟩
    obtain ⟨s2, h2, _⟩ := key σ
    refine ⟨Hfc, _, φc, ds[i], s2, gw, rx, h2, fun σ2 φ2 g2 o2 l2 n2 => ?_⟩
    have hw := wipe_eq l2 n2 ht
    refine ⟨hw, ?_⟩
    obtain ⟨s2', h2', h3⟩ := key σ2
    rw [h2] at h2'
    cases h2'
    exact h3 H' Hfc φ2 (ac.step g2 (Stp.refl.weak fun a z => ow a (o2 a z))) hw
  · have : i = ds.length := by omega
    subst this
    rw [List.drop_length] at ec
    cases ec
    rw [List.append_nil] at er
    subst er
    exact .inl ⟨wk.stops Hc Hfc ac.k.sub ac.g.sub, q _ Hc Hfc φc [A] ac.g ac.r (kA.trans ac.k (fun _ => id) fA)⟩
theorem lc_2 {J : It} {K : PySem.W.Frag} {gs : List GV} {c : Option BV} {f : EV} {vs ts : List Nat} {ds rest : List D} {H1 Hf1 : Hp} {s1 : Sl} {φ1 : Nat → List Addr} {A : Addr} (g1 : Good w σ H1 Hf1 s1 φ1) (k1 : Stp H Hf (Own s φ) H1 Hf1 (Own s1 φ1)) (hA : H1 A = none) (wk : Wk2 w J ds Hf1) (ht : ∀ i ∈ ts, i ∈ vs)
    (e : compD (gT gs) c f vs ds s1 = .ok (rest, s')) (hz : rest.length ≤ 16000000) (q : PQ w σ H Hf s φ s' (.t (.lst rest)) Q) :
    ∃ W : Nat → Nat → Hp → Prop, (∃ m, W 0 m (upd H1 A (.lst []))) ∧ ∀ i m H, W i m H → (J.stop i H ∧ Q (.ref A) H) ∨ (J.go i H ∧ ∃ Nx : Hp → Prop, (∀ H', Nx H' → ∃ m', m' < m ∧ W (i + 1) m' H') ∧
      ∀ x H', J.yld i H x H' → tG2 w K gs ts x (wipe σ vs) H' fun σ2 H2 => wipe σ2 vs = wipe σ vs ∧ tC w c σ2 H2 fun b H3 => if b = true then tE w f σ2 H3 (fun y H4 => ∃ acc, H4 A = some (.lst acc) ∧ acc.length < sizeLine ∧ Nx (upd H4 A (.lst (acc ++ [y])))) else Nx H3) := by
  have kA : Stp H Hf (Own s φ) (upd H1 A (.lst [])) Hf1 (fun a => Own s1 φ1 a ∨ a ∈ [A]) := k1.trans (Stp.updH hA fun a z => z.imp id fun z => by simpa using z) (fun _ => id) fun x hx => g1.own_free hx
  have fA : ∀ x, (Own s1 φ1 x ∨ x ∈ [A]) → Hf1 x = none := fun x z => by
    rcases z with z | z
    · exact g1.own_free z
    · rw [List.mem_singleton] at z; subst z; exact g1.hf_none hA
  have at0 : At w σ (upd H1 A (.lst [])) Hf1 (fun a => Own s1 φ1 a ∨ a ∈ [A]) A [] (upd H1 A (.lst [])) Hf1 s1 φ1 :=
    ⟨g1.updH hA, .t (.lst upd_same .nil) fun x hx => by rw [List.mem_singleton] at hx; subst hx; exact ⟨g1.hf_none hA, g1.own_ne hA⟩, Stp.refl⟩
  let Inv1 : Nat → Hp → Prop := fun i Hc => ∃ das rest' Hfc sc φc, At w σ (upd H1 A (.lst [])) Hf1 (fun a => Own s1 φ1 a ∨ a ∈ [A]) A das Hc Hfc sc φc ∧ compD (gT gs) c f vs (ds.drop i) sc = .ok (rest', s') ∧ das ++ rest' = rest
  refine ⟨fun i m Hc => m = ds.length - i ∧ i ≤ ds.length ∧ Inv1 i Hc, ⟨ds.length, by simp, Nat.zero_le _, [], rest, Hf1, s1, φ1, at0, e, rfl⟩, ?_⟩
  rintro i m Hc ⟨rfl, hi, das, rest', Hfc, sc, φc, ac, ec, er⟩
  by_cases hlt : i < ds.length
  · rw [drop_at hlt] at ec
    refine .inr ⟨wk.goes i Hc Hfc ac.k.sub ac.g.sub hlt, fun H' => Inv1 (i + 1) H', fun H' n => ⟨ds.length - (i + 1), by omega, rfl, hlt, n⟩, fun x H' y => ?_⟩
    have hz2 : das.length + rest'.length ≤ 16000000 := by rw [← er, List.length_append] at hz; exact hz
    obtain ⟨p, us, es, rfl, hp, rfl, ed, rx⟩ := wk.yields i Hc Hfc x H' ds[i] ac.k.sub ac.g.sub (List.getElem?_eq_getElem hlt) y
    obtain ⟨gw, ow⟩ := ac.g.wipe (σ' := wipe σ vs) (vs := vs) (wipe_length _ _) fun i hi => wipe_out hi
    have key := fun σ2 => turn_lc (σ := σ) (σ2 := σ2) (das := das) (A := A) (H0 := upd H1 A (.lst [])) (Hf0 := Hf1) (P0 := fun a => Own s1 φ1 a ∨ a ∈ [A]) (Nx := fun H' => Inv1 (i + 1) H') (w := w) ec hz2 fun das' rest'' H3 Hf3 s3 φ3 a3 e3 er3 => ⟨das', rest'', Hf3, s3, φ3, a3, e3, er3.trans er⟩
    obtain ⟨s2, h2, _⟩ := key σ
    have h2e := h2
    rw [ed] at h2e
    refine ⟨p, us, Hfc, _, φc, es, s2, rfl, .inl (.inl upd_same), gw.updH hp, rx, h2e, fun σ2 φ2 g2 o2 l2 n2 => ?_⟩
    have hw := wipe_eq l2 n2 ht
    refine ⟨hw, ?_⟩
    obtain ⟨s2', h2', h3⟩ := key σ2
    rw [h2] at h2'
    cases h2'
    exact h3 _ Hfc φ2 (ac.step g2 ((Stp.updH hp fun a => .inl).weak fun a z => ow a (o2 a z))) hw
  · have : i = ds.length := by omega
    subst this
    rw [List.drop_length] at ec
    cases ec
    rw [List.append_nil] at er
    subst er
    exact .inl ⟨wk.stops Hc Hfc ac.k.sub ac.g.sub, q _ Hc Hfc φc [A] ac.g ac.r (kA.trans ac.k (fun _ => id) fA)⟩

abbrev GC (w : Wd) (X : Cx) (ifs : List Expr) (c : Option BV) : Prop := PTs X ifs (tC w c)
theorem gc_no : GC w X [] none := pts_nil
theorem gc_if {e : Expr} {b : BV} (h : GB w X e b) : GC w X [e] (some b) := pts_one h
theorem tLc_1 {it : IV} {g : GV} {c : Option BV} {f : EV} {vs ts : List Nat} (ht : ∀ i ∈ ts, i ∈ vs) : tE w (kComp it g c f vs) σ H Q → tLc (tI w it) (tG w g ts) (tC w c) (tE w f) vs σ H Q := by
  rintro ⟨Hf, s, φ, l, s', gd, e, q⟩
  obtain ⟨⟨ds, s1⟩, h1, h2⟩ := R.bind_eq_ok.mp e
  obtain ⟨⟨rest, s2⟩, h3, h4⟩ := R.bind_eq_ok.mp h2
  simp only at h4
  split at h4
  · rename_i hz
    cases h4
    exact ⟨Hf, s, φ, ds, s1, gd, h1, fun J H1 Hf1 φ1 g1 k1 wk A hA => lc_1 g1 k1 hA wk ht h3 (szOk_le hz) q⟩
  · cases h4
theorem tLc_2 {it : IV} {K : PySem.W.Frag} {gs : List GV} {c : Option BV} {f : EV} {vs ts : List Nat} (ht : ∀ i ∈ ts, i ∈ vs) : tE w (kComp it (gT gs) c f vs) σ H Q → tLc (tI2 w it) (tG2 w K gs ts) (tC w c) (tE w f) vs σ H Q := by
  rintro ⟨Hf, s, φ, l, s', gd, e, q⟩
  obtain ⟨⟨ds, s1⟩, h1, h2⟩ := R.bind_eq_ok.mp e
  obtain ⟨⟨rest, s2⟩, h3, h4⟩ := R.bind_eq_ok.mp h2
  simp only at h4
  split at h4
  · rename_i hz
    cases h4
    exact ⟨Hf, s, φ, ds, s1, gd, h1, fun J H1 Hf1 φ1 g1 k1 wk A hA => lc_2 g1 k1 hA wk ht h3 (szOk_le hz) q⟩
  · cases h4
section
variable {elt tg iter : Expr} {ifs : List Expr} {scope : Scope} {fi : IV} {g : GV} {gs : List GV} {c0 : Option BV} {f : EV} {ts : List Nat}
/-- what the parts of a comprehension are told in -/
structure Blk (w : Wd) (k : Nat) (X Y : Cx) (scope : Scope) : Prop where
  c : Cok w k Y
  K : Y.K = X.K
theorem ge_lc (own : List (Str × Nat)) (c : Cok w k X) (hi : GI w X tg iter fi) (ok : blkC X.N X.env.scope scope own = true)
    (hg : ∀ (s : Shared) (H : Hp) (C : Addr) (cl : List (Str × Addr)) (fp : List Addr), GG w (X.blk s H scope (compEnvC scope cl C X.env) fp) tg g ts) (ht : ∀ (s : Shared) (H : Hp) (C : Addr) (cl : List (Str × Addr)) (fp : List Addr), GC w (X.blk s H scope (compEnvC scope cl C X.env) fp) ifs c0)
    (he : ∀ (s : Shared) (H : Hp) (C : Addr) (cl : List (Str × Addr)) (fp : List Addr), GE w (X.blk s H scope (compEnvC scope cl C X.env) fp) elt f) (hts : ∀ i ∈ ts, i ∈ own.map (·.2) := by decide) (hs : ∀ x, foldedSetIterable iter X.env x = pure x := by intro _; rfl) :
    GE w X (.ListComp elt [⟨tg, iter, ifs, 0⟩] scope pos) (kComp fi g c0 f (own.map (·.2))) := pe_imp (pe_lc c.calm c.nd hi (blkOk_by ok) hg ht he hs) fun _ _ _ => tLc_1 hts
theorem ge_lc2 (own : List (Str × Nat)) (c : Cok w k X) (hi : GI2 w X tg iter fi) (ok : blkC X.N X.env.scope scope own = true)
    (hg : ∀ (s : Shared) (H : Hp) (C : Addr) (cl : List (Str × Addr)) (fp : List Addr), GG2 w (X.blk s H scope (compEnvC scope cl C X.env) fp) tg gs ts) (ht : ∀ (s : Shared) (H : Hp) (C : Addr) (cl : List (Str × Addr)) (fp : List Addr), GC w (X.blk s H scope (compEnvC scope cl C X.env) fp) ifs c0)
    (he : ∀ (s : Shared) (H : Hp) (C : Addr) (cl : List (Str × Addr)) (fp : List Addr), GE w (X.blk s H scope (compEnvC scope cl C X.env) fp) elt f) (hts : ∀ i ∈ ts, i ∈ own.map (·.2) := by decide) (hs : ∀ x, foldedSetIterable iter X.env x = pure x := by intro _; rfl) :
    GE w X (.ListComp elt [⟨tg, iter, ifs, 0⟩] scope pos) (kComp fi (gT gs) c0 f (own.map (·.2))) := pe_imp (pe_lc c.calm c.nd hi (blkOk_by ok) hg ht he hs) fun _ _ _ => tLc_2 hts
/-- name = [..] on one line -/
theorem tS_set {io : List Nat} {i : Nat} {f : EV} {D0 : Ends} (hio : i ∉ io) : tS w io (sSet i f) D0 σ H → tAsg (tE w f) (gName i) D0 σ H := by
  rintro ⟨Hf, s, φ, fl, s', gd, e, q⟩
  obtain ⟨⟨l, s1⟩, h1, h2⟩ := R.bind_eq_ok.mp e
  obtain ⟨s2, h3, h4⟩ := R.bind_eq_ok.mp h2
  cases h4
  refine ⟨Hf, s, φ, l, s1, gd, h1, fun v H1 Hf1 φ1 F1 g1 r1 k1 => ?_⟩
  obtain ⟨φ2, g2, o2⟩ := r1.put g1 h3
  exact q _ H1 Hf1 φ2 g2 (k1.weak o2) (Kp.set hio)
theorem ps_setLcI {io : List Nat} {i : Nat} {y : Str} {py : Pos} {own : List (Str × Nat)} {spos : Pos} {wi : TI} {tg0 : TG} {tt : TT} (hio : i ∉ io) (hc : X.calm = true) (hN : X.N.Nodup) (hy : X.N[i]? = some y) (hyl : X.env.scope.names.lookup y = some .local)
    (hsw : swapsWith (.ListComp elt [⟨tg, iter, ifs, 0⟩] scope pos) (some (.Name y py)) spos.line X.env = pure true) (hi : PI X tg iter wi) (ok : BlkOk X.N X.env.scope scope own)
    (hg : ∀ (s : Shared) (H : Hp) (C : Addr) (cl : List (Str × Addr)) (fp : List Addr), PG (X.blk s H scope (compEnvC scope cl C X.env) fp) tg tg0) (ht : ∀ (s : Shared) (H : Hp) (C : Addr) (cl : List (Str × Addr)) (fp : List Addr), PTs (X.blk s H scope (compEnvC scope cl C X.env) fp) ifs tt)
    (he : ∀ (s : Shared) (H : Hp) (C : Addr) (cl : List (Str × Addr)) (fp : List Addr), GE w (X.blk s H scope (compEnvC scope cl C X.env) fp) elt f) (hs : ∀ x, foldedSetIterable iter X.env x = pure x) {kf : EV} (im : ∀ σ H Q, tE w kf σ H Q → tLc wi tg0 tt (tE w f) (own.map (·.2)) σ H Q) :
    GS w io X (.Assign [.Name y py] (.ListComp elt [⟨tg, iter, ifs, 0⟩] scope pos) spos) (sSet i kf) :=
  ps_imp (ps_setLc hc hN hy hyl hsw hi ok hg ht he hs) fun D0 σ H h => by
    have h1 := tS_set hio h
    exact im σ H _ h1
theorem gs_setLc {io : List Nat} (i : Nat) (own : List (Str × Nat)) {y : Str} {py : Pos} {spos : Pos} (c : Cok w k X) (hi : GI w X tg iter fi) (ok : blkC X.N X.env.scope scope own = true)
    (hg : ∀ (s : Shared) (H : Hp) (C : Addr) (cl : List (Str × Addr)) (fp : List Addr), GG w (X.blk s H scope (compEnvC scope cl C X.env) fp) tg g ts) (ht : ∀ (s : Shared) (H : Hp) (C : Addr) (cl : List (Str × Addr)) (fp : List Addr), GC w (X.blk s H scope (compEnvC scope cl C X.env) fp) ifs c0)
    (he : ∀ (s : Shared) (H : Hp) (C : Addr) (cl : List (Str × Addr)) (fp : List Addr), GE w (X.blk s H scope (compEnvC scope cl C X.env) fp) elt f) (hio : i ∉ io := by decide) (hy : X.N[i]? = some y := by rfl) (hyl : X.env.scope.names.lookup y = some .local := by rfl)
    (hsw : swapsWith (.ListComp elt [⟨tg, iter, ifs, 0⟩] scope pos) (some (.Name y py)) spos.line X.env = pure true := by rfl) (hts : ∀ i ∈ ts, i ∈ own.map (·.2) := by decide) (hs : ∀ x, foldedSetIterable iter X.env x = pure x := by intro _; rfl) :
    GS w io X (.Assign [.Name y py] (.ListComp elt [⟨tg, iter, ifs, 0⟩] scope pos) spos) (sSet i (kComp fi g c0 f (own.map (·.2)))) :=
  ps_setLcI hio c.calm c.nd hy hyl hsw hi (blkOk_by ok) hg ht he hs fun _ _ _ => tLc_1 hts
theorem gs_setLc2 {io : List Nat} (i : Nat) (own : List (Str × Nat)) {y : Str} {py : Pos} {spos : Pos} (c : Cok w k X) (hi : GI2 w X tg iter fi) (ok : blkC X.N X.env.scope scope own = true)
    (hg : ∀ (s : Shared) (H : Hp) (C : Addr) (cl : List (Str × Addr)) (fp : List Addr), GG2 w (X.blk s H scope (compEnvC scope cl C X.env) fp) tg gs ts) (ht : ∀ (s : Shared) (H : Hp) (C : Addr) (cl : List (Str × Addr)) (fp : List Addr), GC w (X.blk s H scope (compEnvC scope cl C X.env) fp) ifs c0)
    (he : ∀ (s : Shared) (H : Hp) (C : Addr) (cl : List (Str × Addr)) (fp : List Addr), GE w (X.blk s H scope (compEnvC scope cl C X.env) fp) elt f) (hio : i ∉ io := by decide) (hy : X.N[i]? = some y := by rfl) (hyl : X.env.scope.names.lookup y = some .local := by rfl)
    (hsw : swapsWith (.ListComp elt [⟨tg, iter, ifs, 0⟩] scope pos) (some (.Name y py)) spos.line X.env = pure true := by rfl) (hts : ∀ i ∈ ts, i ∈ own.map (·.2) := by decide) (hs : ∀ x, foldedSetIterable iter X.env x = pure x := by intro _; rfl) :
    GS w io X (.Assign [.Name y py] (.ListComp elt [⟨tg, iter, ifs, 0⟩] scope pos) spos) (sSet i (kComp fi (gT gs) c0 f (own.map (·.2)))) :=
  ps_setLcI hio c.calm c.nd hy hyl hsw hi (blkOk_by ok) hg ht he hs fun _ _ _ => tLc_2 hts
end
end
end KV

set_option Elab.async false
set_option linter.all false
set_option maxRecDepth 100000
set_option maxHeartbeats 2000000
/-! KVM: calls of defs of the text. -/
namespace KV
open PySem L2
open PySem.Spec PyProof.Rows

/-- a slot that is lent -/
def cMv (i : Nat) (g : CV) : CV := fun s => match s[i]? with
  | some (some _) => (g s).bind fun q => .ok (.io i :: q.1, q.2)
  | _ => .no
def isIo : AR → Bool
  | .io _ => true
  | _ => false
/-- the places of what is lent -/
def ioAt : Nat → List Bool → List Nat
  | _, [] => []
  | n, true :: r => n :: ioAt (n + 1) r
  | n, false :: r => ioAt (n + 1) r

section
variable {w : Wd} {k : Nat} {X : Cx} {pos : Pos} {σ : L2.St} {H Hf : Hp} {s s' : Sl} {φ : Nat → List Addr} {Q : VK} {io : List Nat}

inductive RA1 (w : Wd) (σ : L2.St) (Hf H : Hp) : V → AR → Prop
  | v {v : V} {d : D} : Rp w.K Hf v d → RA1 w σ Hf H v (.v d)
  | io {v : V} {i : Nat} : σ[i]? = some (some v) → RA1 w σ Hf H v (.io i)
  | f {v : V} {t : T} : OR w Hf H v t [] → RA1 w σ Hf H v (.f t)
inductive RAs (w : Wd) (σ : L2.St) (Hf H : Hp) : List V → List AR → Prop
  | nil : RAs w σ Hf H [] []
  | cons {v : V} {a : AR} {vs : List V} {as : List AR} : RA1 w σ Hf H v a → RAs w σ Hf H vs as → RAs w σ Hf H (v :: vs) (a :: as)
theorem RA1.mono {v : V} {a : AR} {H1 Hf1 : Hp} (r : RA1 w σ Hf H v a) (s : Sub Hf Hf1) : RA1 w σ Hf1 H1 v a := by
  cases r with
  | v r => exact .v (r.mono s)
  | io e => exact .io e
  | f r => exact .f (r.stay s fun a h => nomatch h)
theorem RAs.length : ∀ {vs : List V} {as : List AR}, RAs w σ Hf H vs as → vs.length = as.length
  | _, _, .nil => rfl
  | _, _, .cons _ r => by simp [RAs.length r]
def tR (w : Wd) (g : CV) (p : List Bool) : TA := fun σ H Q => ∃ Hf s φ as s', Good w σ H Hf s φ ∧ g s = .ok (as, s') ∧
  ∀ vs H' Hf' φ', Good w σ H' Hf' s' φ' → RAs w σ Hf' H' vs as → as.map isIo = p → Stp H Hf (Own s φ) H' Hf' (Own s' φ') → Q vs H'
abbrev GR (w : Wd) (X : Cx) (es : List Expr) (g : CV) (p : List Bool) : Prop := PA X es (tR w g p)
theorem gr_nil : GR w X [] cNil [] := pa_imp pa_nil fun σ H Q => by
  rintro ⟨Hf, s, φ, as, s', g, e, q⟩
  cases e
  exact q [] H Hf φ g .nil rfl Stp.refl
theorem gr_v {e : Expr} {es : List Expr} {f : EV} {g : CV} {p : List Bool} (he : GE w X e f) (hr : GR w X es g p) (hs : starEach (e :: es) X.env = (false, eval e X.env) :: starEach es X.env := by rfl) : GR w X (e :: es) (cV f g) (false :: p) := by
  refine pa_imp (pa_cons he hr hs) fun σ H Q => ?_
  rintro ⟨Hf, s, φ, as, s', gd, e, q⟩
  obtain ⟨⟨d, s1⟩, h1, h2⟩ := R.bind_eq_ok.mp e
  obtain ⟨⟨as', s2⟩, h3, h4⟩ := R.bind_eq_ok.mp h2
  cases h4
  refine tE_D gd h1 fun v H1 Hf1 φ1 g1 r1 k1 => ⟨Hf1, s1, φ1, as', _, g1, h3, fun vs H2 Hf2 φ2 g2 r2 p2 k2 => ?_⟩
  exact q (v :: vs) H2 Hf2 φ2 g2 (.cons (.v (r1.mono k2.sub)) r2) (by rw [List.map_cons, p2]; rfl) (k1.trans k2 (fun _ => id) fun x hx => g1.own_free hx)
theorem gr_io (i : Nat) {x : Str} {px : Pos} {es : List Expr} {g : CV} {p : List Bool} (hr : GR w X es g p) (hN : X.N[i]? = some x := by rfl) (hv : Vis X.env.scope x := by first | exact Or.inl rfl | exact Or.inr (Or.inl rfl) | exact Or.inr (Or.inr rfl)) (hd : (x == ("__debug__" : Str)) = false := by decide) (hcd : (x == ("__classdict__" : Str)) = false := by decide)
    (hs : starEach (.Name x px :: es) X.env = (false, eval (.Name x px) X.env) :: starEach es X.env := by rfl) : GR w X (.Name x px :: es) (cMv i g) (true :: p) := by
  refine pa_imp (pa_cons (pv i hN hv hd hcd) hr hs) fun σ H Q => ?_
  rintro ⟨Hf, s, φ, as, s', gd, e, q⟩
  unfold cMv at e
  split at e
  · rename_i t ht
    obtain ⟨⟨as', s2⟩, h3, h4⟩ := R.bind_eq_ok.mp e
    cases h4
    obtain ⟨v, hv, _⟩ := gd.here i t ht
    exact ⟨v, hv, Hf, s, φ, as', _, gd, h3, fun vs H2 Hf2 φ2 g2 r2 p2 k2 => q (v :: vs) H2 Hf2 φ2 g2 (.cons (.io hv) r2) (by rw [List.map_cons, p2]; rfl) k2⟩
  · cases e

/-! ### what is lent -/
theorem Good.nilS : Sub Hf H → Good w [] H Hf [] φ := fun sub => ⟨sub, rfl, fun i t e => by simp at e, fun i t a e => by simp at e, fun i j t u a e => by simp at e⟩
/-- one slot more in front -/
theorem Good.cons {v : V} {t : T} {F : List Addr} (g : Good w σ H Hf s φ) (r : OR w Hf H v t F) (c : ∀ a ∈ F, Hf a = none ∧ ¬ Own s φ a) :
    Good w (some v :: σ) H Hf (some t :: s) (fun j => match j with | 0 => F | j + 1 => φ j) ∧ ∀ a, Own (some t :: s) (fun j => match j with | 0 => F | j + 1 => φ j) a → a ∈ F ∨ Own s φ a := by
  refine ⟨⟨g.sub, by rw [List.length_cons, List.length_cons, g.len], fun i u e => ?_, fun i u a e m => ?_, fun i j u u' a e1 e2 m1 m2 => ?_⟩, fun a ⟨i, u, e, m⟩ => ?_⟩
  · cases i with
    | zero => simp at e; subst e; exact ⟨v, rfl, r⟩
    | succ i => exact g.here i u (by simpa using e)
  · cases i with
    | zero => exact (c a m).1
    | succ i => exact g.fr i u a (by simpa using e) m
  · cases i with
    | zero =>
      cases j with
      | zero => rfl
      | succ j => exact ((c a m1).2 ⟨j, u', by simpa using e2, m2⟩).elim
    | succ i =>
      cases j with
      | zero => exact ((c a m2).2 ⟨i, u, by simpa using e1, m1⟩).elim
      | succ j => rw [g.dj i j u u' a (by simpa using e1) (by simpa using e2) m1 m2]
  · cases i with
    | zero => exact .inl m
    | succ i => exact .inr ⟨i, u, by simpa using e, m⟩
theorem lend_ok : ∀ {vs : List V} {as : List AR} {s s1 : Sl} {ts : List T}, RAs w σ Hf H vs as → Good w σ H Hf s φ → lend as s = .ok (ts, s1) →
    ∃ ψ, Good w (vs.map some) H Hf (ts.map some) ψ ∧ Good w σ H Hf s1 φ ∧ (∀ a, Own (ts.map some) ψ a → Own s φ a) ∧ (∀ a, Own s1 φ a → Own s φ a) ∧ ∀ a, Own (ts.map some) ψ a → ¬ Own s1 φ a
  | _, _, s, s1, ts, .nil, g, e => by
    cases e
    exact ⟨φ, Good.nilS g.sub, g, fun a ⟨i, t, e, _⟩ => by simp at e, fun _ => id, fun a ⟨i, t, e, _⟩ => by simp at e⟩
  | _, _, s, s1, ts, .cons (.v r) rr, g, e => by
    obtain ⟨⟨ts', s2⟩, h1, h2⟩ := R.bind_eq_ok.mp e
    cases h2
    obtain ⟨ψ, g1, g2, o1, o2, dj⟩ := lend_ok rr g h1
    obtain ⟨g3, o3⟩ := g1.cons (.val r) (F := []) fun a h => nomatch h
    exact ⟨_, g3, g2, fun a z => (o3 a z).elim (fun z => nomatch z) (o1 a), o2, fun a z => (o3 a z).elim (fun z => nomatch z) (dj a)⟩
  | _, _, s, s1, ts, .cons (.f r) rr, g, e => by
    obtain ⟨⟨ts', s2⟩, h1, h2⟩ := R.bind_eq_ok.mp e
    cases h2
    obtain ⟨ψ, g1, g2, o1, o2, dj⟩ := lend_ok rr g h1
    obtain ⟨g3, o3⟩ := g1.cons r (F := []) fun a h => nomatch h
    exact ⟨_, g3, g2, fun a z => (o3 a z).elim (fun z => nomatch z) (o1 a), o2, fun a z => (o3 a z).elim (fun z => nomatch z) (dj a)⟩
  | _, _, s, s1, ts, .cons (.io (i := i) hv) rr, g, e => by
    unfold lend at e
    split at e
    · cases e
    · rename_i t _ ht
      obtain ⟨⟨ts', s2⟩, h1, h2⟩ := R.bind_eq_ok.mp e
      cases h2
      obtain ⟨gc, oc⟩ := g.clr (i := i)
      obtain ⟨ψ, g1, g2, o1, o2, dj⟩ := lend_ok rr gc h1
      obtain ⟨v', e1, r⟩ := g.here i t ht
      rw [hv] at e1; cases e1
      have fresh : ∀ a ∈ φ i, ¬ Own (s.set i none) φ a := fun a ha ⟨j, u, q, m⟩ => (clr_at q).1 (g.dj j i u t a (clr_at q).2 ht m ha)
      obtain ⟨g3, o3⟩ := g1.cons r fun a ha => ⟨g.fr i t a ht ha, fun z => fresh a ha (o1 a z)⟩
      refine ⟨_, g3, g2, fun a z => (o3 a z).elim (fun z => ⟨i, t, ht, z⟩) (fun z => oc a (o1 a z)), fun a z => oc a (o2 a z), fun a z q => ?_⟩
      rcases o3 a z with z | z
      · exact fresh a z (o2 a q)
      · exact dj a z q
    · cases e
/-- what stands aside of a call stays -/
theorem Good.aside {H1 Hf1 : Hp} {P P1 : Addr → Prop} (g : Good w σ H Hf s φ) (k1 : Stp H Hf P H1 Hf1 P1) (sub : Sub Hf1 H1) (no : ∀ a, P a → ¬ Own s φ a) : Good w σ H1 Hf1 s φ ∧ ∀ a, P1 a → ¬ Own s φ a := by
  have key : ∀ a, (P1 a ∨ Hf1 a ≠ none) → ¬ Own s φ a := fun a z q => by
    rcases k1.new a z with z | z | z
    · exact no a z q
    · exact z (g.own_free q)
    · obtain ⟨o, e⟩ := g.own_some q
      rw [e] at z; cases z
  refine ⟨⟨sub, g.len, fun i t e => ?_, fun i t a e m => ?_, g.dj⟩, fun a z => key a (.inl z)⟩
  · obtain ⟨v, e1, r⟩ := g.here i t e
    exact ⟨v, e1, r.stay k1.sub fun a ha o q => k1.keep a o q fun z => no a z ⟨i, t, e, ha⟩⟩
  · cases q : Hf1 a with
    | none => rfl
    | some u => exact (key a (.inr (by rw [q]; simp)) ⟨i, t, e, m⟩).elim
theorem set_self {i : Nat} {v : V} {σ : L2.St} (h : σ[i]? = some (some v)) : σ.set i (some v) = σ := by
  apply List.ext_getElem?
  intro j
  by_cases e : i = j
  · subst e
    rw [List.getElem?_set_self (List.getElem?_eq_some_iff.mp h).1, h]
  · rw [List.getElem?_set_ne e]
/-- the values at the places of what is lent -/
def usOf : List V → List AR → List V
  | v :: vs, .io _ :: as => v :: usOf vs as
  | _ :: vs, _ :: as => usOf vs as
  | _, _ => []
theorem back_ok : ∀ {vs : List V} {as : List AR} {os : List T} {s s1 : Sl} {φ ψ : Nat → List Addr}, RAs w σ Hf H vs as → Good w σ H Hf s φ → Good w ((usOf vs as).map some) H Hf (os.map some) ψ → (∀ a, Own (os.map some) ψ a → ¬ Own s φ a) → back as os s = .ok s1 →
    ∃ φ', Good w σ H Hf s1 φ' ∧ ∀ a, Own s1 φ' a → Own s φ a ∨ Own (os.map some) ψ a
  | _, _, os, s, s1, φ, ψ, .nil, g, g2, dj, e => by
    cases os with
    | nil => cases e; exact ⟨φ, g, fun a => .inl⟩
    | cons _ _ => cases e
  | _, _, os, s, s1, φ, ψ, .cons (.v r) rr, g, g2, dj, e => by
    cases os with
    | nil => exact back_ok rr g g2 dj e
    | cons _ _ => exact back_ok rr g g2 dj e
  | _, _, os, s, s1, φ, ψ, .cons (.f r) rr, g, g2, dj, e => by
    cases os with
    | nil => exact back_ok rr g g2 dj e
    | cons _ _ => exact back_ok rr g g2 dj e
  | _, _, os, s, s1, φ, ψ, .cons (v := v) (vs := vs) (as := as) (.io (i := i) hv) rr, g, g2, dj, e => by
    cases os with
    | nil => cases e
    | cons t os =>
      obtain ⟨v', e1, r⟩ := g2.here 0 t rfl
      have ev : v' = v := by
        have e1 : (some (some v) : Option (Option V)) = some (some v') := e1
        cases e1; rfl
      subst ev
      obtain ⟨g3, o3⟩ := g.set (i := i) r fun a ha => ⟨g2.fr 0 t a rfl ha, fun j u _ q m => dj a ⟨0, t, rfl, ha⟩ ⟨j, u, q, m⟩⟩
      rw [set_self hv] at g3
      have g4 : Good w ((usOf vs as).map some) H Hf (os.map some) (fun j => ψ (j + 1)) :=
        ⟨g2.sub, by have := g2.len; simpa [usOf] using this, fun j u q => g2.here (j + 1) u (by simpa using q), fun j u a q m => g2.fr (j + 1) u a (by simpa using q) m, fun j l u u' a q1 q2 m1 m2 => by
          have := g2.dj (j + 1) (l + 1) u u' a (by simpa using q1) (by simpa using q2) m1 m2
          omega⟩
      have up : ∀ a, Own (os.map some) (fun j => ψ (j + 1)) a → Own ((t :: os).map some) ψ a := fun a ⟨j, u, q, m⟩ => ⟨j + 1, u, by simpa using q, m⟩
      obtain ⟨φ', g5, o5⟩ := back_ok rr g3 g4 (fun a z q => by
        rcases o3 a q with q | q
        · exact dj a (up a z) q
        · obtain ⟨j, u, q1, m⟩ := z
          have := g2.dj (j + 1) 0 u t a (by simpa using q1) rfl m q
          omega) e
      refine ⟨φ', g5, fun a z => ?_⟩
      rcases o5 a z with z | z
      · rcases o3 a z with z | z
        · exact .inl z
        · exact .inr ⟨0, t, rfl, z⟩
      · exact .inr (up a z)
end
end KV

set_option Elab.async false
set_option linter.all false
set_option maxRecDepth 100000
set_option maxHeartbeats 2000000
/-! KVN: defs of the text, called; the law's own call. -/
namespace KV
open PySem L2
open PySem.Spec PyProof.Rows

/-- like FnOk, where no repr is under way -/
structure FnG (P : Program) (w0 : World) (K : PySem.W.Frag) (mg : Str → Option Value) (base : Heap) (k : Nat) (f : Addr) (fd : FuncData) (ps : List Str) (sp : Sp) : Prop where
  len : ∀ vs H Q E, sp vs H Q E → vs.length = ps.length
  run : ∀ (A : Around) (outer : List Env) (s : Shared) (H : Hp) (args : Args) (us : List Value) (vs : List V) (Q : VK) (E : XK), Room k A → A.guards = some [] → Env0 P w0 K mg base A outer s H → BindsTo s fd args (ps.zip us) → Vals vs us → sp vs H Q E →
    codeAny (model P w0) A (.call (.ref f) args) (CR CX0 outer P w0 H s Q E) s
/-- its contexts -/
abbrev bodyCx (P : Program) (w0 : World) (K : PySem.W.Frag) (mg : Str → Option Value) (base : Heap) (N : List Str) (x : Str) (st : Stmt) (f : Addr) (cdv : Value) (A : Around) (outer : List Env) (s : Shared) (H : Hp) (E : XK) : Cx :=
  (cxOf CX0 P w0 K mg base N x (defScope st) f cdv A outer s H E).nox
theorem fnG_of {P : Program} {w0 : World} {K : PySem.W.Frag} {mg : Str → Option Value} {base : Heap} {k : Nat} {f : Addr} {x : Str} {st : Stmt} {fd : FuncData} {N ps : List Str} {sp : Sp} (F : L2.Fun K x x st f fd) (S : FnScope N ps (defScope st)) (len : ∀ vs H Q E, sp vs H Q E → vs.length = ps.length)
    (hbody : ∀ (cdv : Value) (A : Around) (outer : List Env) (s : Shared) (H : Hp) (vs : List V) (Q : VK) (E : XK), Room k (A.deeper (envOfC x (defScope st) s.heap.objs.size f cdv)) → A.guards = some [] → sp vs H Q E →
      ∃ t, PSs (bodyCx P w0 K mg base N x st f cdv A outer s H E) (defBody st) t ∧ t { nx := fun _ H' => Q .non H', rt := Q } (start N vs) H) : FnG P w0 K mg base (k + 1) f fd ps sp := by
  obtain ⟨oc, od, kV, doc, pm, an, cdv, ct, osl, rfl, lk, hcd⟩ := F.ex
  refine ⟨len, fun A outer s H args us vs Q E room gd env0 bound vals want => ?_⟩
  have nArgs := len _ _ _ _ want
  have kin : K.In s.heap := env0.mod.kin.keeps fun b o e => (env0.bs b o e).1
  have noLim : s.heap.NoLimit := env0.mod.nolimit.keeps fun b o e => (env0.bs b o e).1
  have kinds : ∀ y ∈ ps.zip us, (defScope st).names.lookup y.1 = some .local ∨ ((defScope st).names.lookup y.1 = some .cell ∧ ((cellsFrom (s.heap.objs.size + 1) (defScope st).names []).lookup y.1).isSome = true) := fun y hy => by
    rcases S.par y.1 (List.of_mem_zip (show (y.1, y.2) ∈ ps.zip us from hy)).1 with z | z
    · exact .inl z
    · exact .inr ⟨z, PySem.W.cellsFrom_some _ _ _ (.inl z)⟩
  refine codeAny_call_function room.depth (kin _ _ lk) rfl S.co S.gen rfl (PySem.W.codeRec_of kin hcd) (bound _ _ _ _ ?_)
  refine wpAny_newFunctionEnv_cells S.kind kinds fun env ee s1 inC => ?_
  subst ee
  refine ⟨noLim.keeps inC.toInCall.keep, codeAny_func ?_⟩
  obtain ⟨t, tb, tq⟩ := hbody cdv A outer s H vs Q E (room.deeper _) gd want
  have inv0 : Inv (cxOf CX0 P w0 K mg base N x (defScope st) f cdv A outer s H E) [] (start N vs) H s1 := inv_start S room.hd env0 nArgs vals inC
  refine wpAny_mono (tb.nox.run [] s1 (start N vs) H _ inv0 tq) (fun fl s' hs => ?_) fun e s' hs => hs
  cases fl with
  | ret u =>
    obtain ⟨v, σ', H', J, rv, q⟩ := hs
    exact ⟨v, H', J.os, J.bare, J.base, J.hok, rv, q⟩
  | next =>
    obtain ⟨σ', H', J, q⟩ := hs
    exact ⟨V.non, H', J.os, J.bare, J.base, J.hok, rfl, q⟩
  | brk => exact hs.elim fun _ h => h.elim fun _ h => False.elim h.2
  | cont => exact hs.elim fun _ h => h.elim fun _ h => False.elim h.2

/-- a def of the module that may be called -/
structure CalG (P : Program) (w0 : World) (K : PySem.W.Frag) (mg : Str → Option Value) (base : Heap) (k : Nat) (x : Str) (sp : Sp) : Prop where
  ex : ∃ (f : Addr) (fd : FuncData) (ps : List Str), FnG P w0 K mg base k f fd ps sp ∧ mg x = some (.ref f) ∧ PySem.W.keepIn K (.ref f) = true ∧ Binds K fd ps []

section
variable {w : Wd} {k : Nat} {X : Cx} {pos : Pos} {σ : L2.St} {H Hf : Hp} {s s' : Sl} {φ : Nat → List Addr} {Q : VK} {io : List Nat}
theorem run_G {j : Nat} {f : Addr} {fd : FuncData} {ps : List Str} {sp : Sp} {pins : List (Addr × Obj)} {sh : Shared} {us : List Value} {vs : List V} {E : XK} (c : Cok w k X) (hk : j ≤ k) (F : FnG X.prog X.w X.K X.mg X.base j f fd ps sp) (hb : Binds X.K fd ps [])
    (I : Inv X pins σ H sh) (r : Vals vs us) (h : sp vs H Q E) : wpAny (model X.prog X.w) X.A (call (.ref f) us) (EP X pins σ Q) X.xe sh := by
  have hl : (us ++ []).length = ps.length := by rw [List.append_nil, ← r.length]; exact F.len _ _ _ _ h
  have bd := hb sh us I.kIn hl
  rw [List.append_nil] at bd
  refine wpAny_call (codeAny_mono (F.run X.A X.stack sh H ⟨us, []⟩ us vs Q E (c.room.mono hk) c.gd I.env0 bd r h) fun res s' hq => ?_)
  cases res with
  | error e => exact False.elim hq
  | ok fl =>
    cases fl with
    | ret u => exact I.after hq
    | next => exact False.elim hq
    | brk => exact False.elim hq
    | cont => exact False.elim hq
theorem pe_G {j : Nat} {x : Str} {sp : Sp} {p : Pos} {e : Expr} {es : List Expr} {t : TA} {E : XK} (c : Cok w k X) (C : CalG X.prog X.w X.K X.mg X.base j x sp) (hk : j ≤ k) (hg : Gl X x) (ha : PA X (e :: es) t) (hdb : (x == ("__debug__" : Str)) = false)
    (he : starEach (e :: es) X.env = (false, eval e X.env) :: starEach es X.env) (hpl : (backTo pos (starEach es X.env)).any (·.1) = false) : PE X (.Call (.Name x p) (e :: es) [] pos) (fun σ H Q => t σ H fun vs H1 => sp vs H1 Q E) := by
  obtain ⟨f, fd, ps, F, hm, kp, hb⟩ := C.ex
  refine ⟨fun pins s σ H Q I h => ?_⟩
  refine wpAny_Call_Name_kw (ld_glob I hg hm ?_ hdb)
  exact PySem.W.callWith_K (h₀ := X.base) I.ok.mod.kin kp (thn (ha.run pos pins s σ H _ I h) fun us s1 ⟨vs, H1, I1, r, q⟩ => ⟨I1.kIn, run_G c hk F hb I1 r q⟩) he hpl
theorem pe_G0 {j : Nat} {x : Str} {sp : Sp} {p : Pos} {E : XK} (c : Cok w k X) (C : CalG X.prog X.w X.K X.mg X.base j x sp) (hk : j ≤ k) (hg : Gl X x) (hdb : (x == ("__debug__" : Str)) = false) : PE X (.Call (.Name x p) [] [] pos) (fun σ H Q => sp [] H Q E) := by
  obtain ⟨f, fd, ps, F, hm, kp, hb⟩ := C.ex
  refine ⟨fun pins s σ H Q I h => ?_⟩
  refine wpAny_Call_Name_kw (ld_glob I hg hm ?_ hdb)
  exact PySem.W.callWith_K0 I.kIn kp (run_G (us := []) c hk F hb I .nil h)

/-! ### what a denotation promises -/
def spD (w : Wd) (np : Nat) (d : Def) : Sp := fun vs H Q _ => ∃ Hf ts φ t os, vs.length = np ∧ Good w (vs.map some) H Hf (ts.map some) φ ∧ d.run ts = .ok (t, os) ∧
  ∀ v H' Hf' ψ F, Good w ((d.io.filterMap fun i => vs[i]?).map some) H' Hf' (os.map some) ψ → OR w Hf' H' v t F → (∀ a ∈ F, Hf' a = none ∧ ¬ Own (os.map some) ψ a) →
    Stp H Hf (Own (ts.map some) φ) H' Hf' (fun a => Own (os.map some) ψ a ∨ a ∈ F) → Q v H'
theorem at_pad {xs : List (Option T)} {n i : Nat} {t : T} (h : (xs ++ List.replicate n none)[i]? = some (some t)) : xs[i]? = some (some t) := by
  by_cases hi : i < xs.length
  · rw [List.getElem?_append_left hi] at h; exact h
  · rw [List.getElem?_append_right (by omega), List.getElem?_replicate] at h
    split at h <;> cases h
theorem Good.pad {n : Nat} (g : Good w σ H Hf s φ) : Good w (σ ++ List.replicate n none) H Hf (s ++ List.replicate n none) φ ∧ ∀ a, Own (s ++ List.replicate n none) φ a ↔ Own s φ a := by
  refine ⟨⟨g.sub, by simp [g.len], fun i t e => ?_, fun i t a e m => g.fr i t a (at_pad e) m, fun i j t u a e1 e2 m1 m2 => g.dj i j t u a (at_pad e1) (at_pad e2) m1 m2⟩, fun a => ⟨fun ⟨i, t, e, m⟩ => ⟨i, t, at_pad e, m⟩, fun ⟨i, t, e, m⟩ => ⟨i, t, ?_, m⟩⟩⟩
  · have e1 := at_pad e
    obtain ⟨v, h1, h2⟩ := g.here i t e1
    exact ⟨v, by rw [List.getElem?_append_left (List.getElem?_eq_some_iff.mp h1).1]; exact h1, h2⟩
  · rw [List.getElem?_append_left (List.getElem?_eq_some_iff.mp e).1]; exact e
theorem outs_ok {vs : List V} : ∀ {io : List Nat} {os : List T}, Good w σ H Hf s φ → outs io s = .ok os → io.Nodup → (∀ i ∈ io, ∃ v, vs[i]? = some v ∧ σ[i]? = some (some v)) →
    ∃ ψ, Good w ((io.filterMap fun i => vs[i]?).map some) H Hf (os.map some) ψ ∧ ∀ a, Own (os.map some) ψ a → ∃ i ∈ io, ∃ t, s[i]? = some (some t) ∧ a ∈ φ i
  | [], os, g, e, _, _ => by
    cases e
    exact ⟨φ, Good.nilS g.sub, fun a ⟨i, t, e, _⟩ => by simp at e⟩
  | i :: io, os, g, e, nd, hv => by
    unfold outs at e
    split at e
    · rename_i t ht
      obtain ⟨os', h1, h2⟩ := R.bind_eq_ok.mp e
      cases h2
      obtain ⟨ψ, g1, o1⟩ := outs_ok (io := io) g h1 (List.nodup_cons.mp nd).2 fun j hj => hv j (List.mem_cons_of_mem _ hj)
      obtain ⟨v, hv1, hv2⟩ := hv i (List.mem_cons_self ..)
      obtain ⟨v', e1, r⟩ := g.here i t ht
      rw [hv2] at e1; cases e1
      obtain ⟨g2, o2⟩ := g1.cons r fun a ha => ⟨g.fr i t a ht ha, fun z => by
        obtain ⟨j, hj, u, q, m⟩ := o1 a z
        have := g.dj j i u t a q ht m ha
        subst this
        exact (List.nodup_cons.mp nd).1 hj⟩
      refine ⟨_, by rw [List.filterMap_cons_some hv1]; exact g2, fun a z => ?_⟩
      rcases o2 a z with z | z
      · exact ⟨i, List.mem_cons_self .., t, ht, z⟩
      · obtain ⟨j, hj, q⟩ := o1 a z
        exact ⟨j, List.mem_cons_of_mem _ hj, q⟩
    · cases e
/-- a def by its denotation -/
theorem fnD_of {P : Program} {w0 : World} {K : PySem.W.Frag} {mg : Str → Option Value} {base : Heap} {f : Addr} {x : Str} {st : Stmt} {fd : FuncData} {N ps : List Str} {d : Def} (F : L2.Fun K x x st f fd) (S : FnScope N ps (defScope st)) (hn : d.n = N.length) (hnd : d.io.Nodup) (hio : ∀ i ∈ d.io, i < ps.length)
    (hb : ∀ (cdv : Value) (A : Around) (outer : List Env) (s : Shared) (H : Hp) (E : XK), Room k (A.deeper (envOfC x (defScope st) s.heap.objs.size f cdv)) → A.guards = some [] → GSs w d.io (bodyCx P w0 K mg base N x st f cdv A outer s H E) (defBody st) d.body) : FnG P w0 K mg base (k + 1) f fd ps (spD w ps.length d) := by
  refine fnG_of F S (fun vs H Q E h => ?_) fun cdv A outer s0 H vs Q E room gd h => ⟨_, hb cdv A outer s0 H E room gd, ?_⟩
  · obtain ⟨_, _, _, _, _, hl, _⟩ := h
    exact hl
  · obtain ⟨Hf, ts, φ, t, os, hl, g, hr, q⟩ := h
    have hlt : ts.length = vs.length := by have := g.len; simpa using this
    obtain ⟨⟨fl, s1⟩, h1, h2⟩ := R.bind_eq_ok.mp hr
    obtain ⟨t', h3, h4⟩ := R.bind_eq_ok.mp h2
    obtain ⟨os', h5, h6⟩ := R.bind_eq_ok.mp h4
    cases h6
    obtain ⟨g0, o0⟩ := g.pad (n := N.length - vs.length)
    rw [hn, hlt] at h1
    refine ⟨Hf, _, φ, fl, s1, g0, h1, ?_⟩
    have fin : ∀ v σ' H' Hf' φ' F1, Good w σ' H' Hf' s1 φ' → OR w Hf' H' v t F1 → (∀ a ∈ F1, Hf' a = none ∧ ¬ Own s1 φ' a) → Stp H Hf (Own (ts.map some ++ List.replicate (N.length - vs.length) none) φ) H' Hf' (fun a => Own s1 φ' a ∨ a ∈ F1) → Kp d.io (start N vs) σ' → Q v H' := by
      intro v σ' H' Hf' φ' F1 g1 r1 c1 k1 kp
      obtain ⟨ψ, g2, o2⟩ := outs_ok (vs := vs) g1 h5 hnd fun i hi => by
        have hlt2 : i < vs.length := by rw [hl]; exact hio i hi
        refine ⟨vs[i], List.getElem?_eq_getElem hlt2, ?_⟩
        rw [kp i hi]
        unfold L2.start
        rw [List.getElem?_append_left (by simpa using hlt2), List.getElem?_map, List.getElem?_eq_getElem hlt2]
        rfl
      have up : ∀ a, Own (os.map some) ψ a → Own s1 φ' a := fun a z => by
        obtain ⟨i, _, t, e, m⟩ := o2 a z
        exact ⟨i, t, e, m⟩
      refine q v H' Hf' ψ F1 g2 r1 (fun a ha => ⟨(c1 a ha).1, fun z => (c1 a ha).2 (up a z)⟩) ⟨k1.sub, fun a o e n => k1.keep a o e fun z => n ((o0 a).mp z), fun a z => ?_⟩
      have := k1.new a (z.imp (fun z => z.imp (up a) id) id)
      rcases this with z | z | z
      · exact .inl ((o0 a).mp z)
      · exact .inr (.inl z)
      · exact .inr (.inr z)
    cases fl with
    | nx =>
      cases h3
      exact fun σ' H' Hf' φ' g1 k1 kp => fin .non σ' H' Hf' φ' [] g1 (.val .non) (fun a h => nomatch h) (k1.weak fun a z => z.elim id fun z => nomatch z) kp
    | rt t2 =>
      cases h3
      exact fun v σ' H' Hf' φ' F1 g1 r1 c1 k1 kp => fin v σ' H' Hf' φ' F1 g1 r1 c1 k1 kp
    | bk => cases h3
    | ct => cases h3
theorem usOf_eq : ∀ {as : List AR} {vs vs0 : List V} {n : Nat}, vs.length = as.length → (∀ i, vs[i]? = vs0[n + i]?) → usOf vs as = (ioAt n (as.map isIo)).filterMap fun i => vs0[i]?
  | [], [], vs0, n, _, _ => rfl
  | a :: as, v :: vs, vs0, n, hl, h => by
    have ih := usOf_eq (as := as) (vs := vs) (vs0 := vs0) (n := n + 1) (by simpa using hl) fun i => by
      have := h (i + 1)
      rw [List.getElem?_cons_succ] at this
      rw [this]; congr 1; omega
    cases a with
    | io i =>
      have h0 : vs0[n]? = some v := by have := h 0; simpa using this.symm
      show v :: usOf vs as = (n :: ioAt (n + 1) (as.map isIo)).filterMap _
      rw [List.filterMap_cons_some h0, ih]
    | v d => exact ih
    | f t => exact ih
/-- a call -/
theorem tR_call {np : Nat} {d : Def} {g : CV} {p : List Bool} {E : XK} (hp : ioAt 0 p = d.io) (hnp : p.length = np) : tE w (kCall d.run g) σ H Q → tR w g p σ H fun vs H1 => spD w np d vs H1 Q E := by
  rintro ⟨Hf, s, φ, l, s', gd, e, q⟩
  obtain ⟨⟨as, s1⟩, h1, h2⟩ := R.bind_eq_ok.mp e
  obtain ⟨⟨ts, s2⟩, h3, h4⟩ := R.bind_eq_ok.mp h2
  obtain ⟨⟨t, os⟩, h5, h6⟩ := R.bind_eq_ok.mp h4
  obtain ⟨s3, h7, h8⟩ := R.bind_eq_ok.mp h6
  cases h8
  refine ⟨Hf, s, φ, as, s1, gd, h1, fun vs H1 Hf1 φ1 g1 r1 p1 k1 => ?_⟩
  obtain ⟨ψ, ga, g2, o1, o2, dj⟩ := lend_ok r1 g1 h3
  have hlen := r1.length
  refine ⟨Hf1, ts, ψ, t, os, by rw [hlen, ← hnp, ← p1, List.length_map], ga, h5, fun v H2 Hf2 ψ2 F gb r2 c2 k2 => ?_⟩
  obtain ⟨g3, n3⟩ := g2.aside k2 gb.sub dj
  have eu : usOf vs as = d.io.filterMap fun i => vs[i]? := by
    rw [usOf_eq (n := 0) hlen fun i => by rw [Nat.zero_add], p1, hp]
  rw [← eu] at gb
  have r1' : RAs w σ Hf2 H2 vs as := by
    have : ∀ {vs : List V} {as : List AR}, RAs w σ Hf1 H1 vs as → RAs w σ Hf2 H2 vs as := fun r => by
      induction r with
      | nil => exact .nil
      | cons a _ ih => exact .cons (a.mono k2.sub) ih
    exact this r1
  obtain ⟨φ3, g4, o4⟩ := back_ok r1' g3 gb (fun a z => n3 a (.inl z)) h7
  have nF : ∀ a ∈ F, Hf2 a = none ∧ ¬ Own s' φ3 a := fun a ha => ⟨(c2 a ha).1, fun z => (o4 a z).elim (n3 a (.inr ha)) (c2 a ha).2⟩
  have step : Stp H1 Hf1 (Own s1 φ1) H2 Hf2 (fun a => Own s' φ3 a ∨ a ∈ F) := by
    refine ⟨k2.sub, fun a o e n => k2.keep a o e fun z => n (o1 a z), fun a z => ?_⟩
    have lift : Own (ts.map some) ψ a ∨ Hf1 a ≠ none ∨ H1 a = none → Own s1 φ1 a ∨ Hf1 a ≠ none ∨ H1 a = none := fun z => z.imp (o1 a) id
    rcases z with (z | z) | z
    · rcases o4 a z with z | z
      · exact .inl (o2 a z)
      · exact lift (k2.new a (.inl (.inl z)))
    · exact lift (k2.new a (.inl (.inr z)))
    · exact lift (k2.new a (.inr z))
  have tot := k1.trans step (fun _ => id) fun x hx => g1.own_free hx
  cases t with
  | val x =>
    cases r2 with
    | val r2 => exact q v H2 Hf2 φ3 [] g4 (.d r2) (tot.weak fun a z => z)
  | lst x => exact q v H2 Hf2 φ3 F g4 (.t r2 nF) tot
  | dct x => exact q v H2 Hf2 φ3 F g4 (.t r2 nF) tot
  | src x => exact q v H2 Hf2 φ3 F g4 (.t r2 nF) tot
  | clo n x => exact q v H2 Hf2 φ3 F g4 (.t r2 nF) tot
  | scr x => exact q v H2 Hf2 φ3 F g4 (.t r2 nF) tot
  | tab x => exact q v H2 Hf2 φ3 F g4 (.t r2 nF) tot
  | tbs => exact q v H2 Hf2 φ3 F g4 (.t r2 nF) tot
theorem ge_call {j np : Nat} {x : Str} {d : Def} {px : Pos} {e : Expr} {es : List Expr} {g : CV} {p : List Bool} (c : Cok w k X) (C : CalG X.prog X.w X.K X.mg X.base j x (spD w np d)) (ha : GR w X (e :: es) g p) (hk : j ≤ k := by decide) (hp : ioAt 0 p = d.io := by rfl) (hnp : p.length = np := by rfl) (hg : Gl X x := by rfl)
    (hdb : (x == ("__debug__" : Str)) = false := by decide) (he : starEach (e :: es) X.env = (false, eval e X.env) :: starEach es X.env := by rfl) (hpl : (backTo pos (starEach es X.env)).any (·.1) = false := by rfl) : GE w X (.Call (.Name x px) (e :: es) [] pos) (kCall d.run g) :=
  pe_imp (pe_G (E := E0) c C hk hg ha hdb he hpl) fun _ _ _ => tR_call hp hnp
theorem ge_call0 {j : Nat} {x : Str} {d : Def} {px : Pos} (c : Cok w k X) (C : CalG X.prog X.w X.K X.mg X.base j x (spD w 0 d)) (hk : j ≤ k := by decide) (hp : ioAt 0 [] = d.io := by rfl) (hg : Gl X x := by rfl)
    (hdb : (x == ("__debug__" : Str)) = false := by decide) : GE w X (.Call (.Name x px) [] [] pos) (kCall d.run cNil) :=
  pe_imp (pe_G0 (E := E0) c C hk hg hdb) fun σ H Q h => by
    obtain ⟨Hf, s, φ, as, s', gd, e, q⟩ := tR_call (E := E0) (np := 0) hp rfl h
    cases e
    exact q [] H Hf φ gd .nil rfl Stp.refl
end
end KV

set_option Elab.async false
set_option linter.all false
set_option maxRecDepth 100000
set_option maxHeartbeats 4000000
/-! KVO: repetition. -/
namespace KV
open PySem L2
open PySem.Spec PyProof.Rows
theorem tup_mulS (l : Addr) (items : Array Value) (n : Nat) (dd : Option Addr) (sl : Array (Option Value)) (x : Int) (u : Tok) (c0 : (decide (x < -(2 ^ 63)) || decide (x ≥ 2 ^ 63)) = false) (c1 : (items.isEmpty || x == 1) = true) :
    Meets (Builtin.«tuple.__mul__» ⟨[.ref l, .int x u], []⟩) (fun _ R s => s.heap.get? l = some { cls := .type "tuple", dict := dd, data := .seq items n, slots := sl } ∧ R (.ok (.ret (Value.ref l))) s) :=
  .of_wp fun prog w A R s h => by
    obtain ⟨hp, g, d, tk, os⟩ := s
    obtain ⟨hl, h⟩ := h
    have f1 := AutoSeq1.idx_int
    wp_walk using AutoSeq1.wpAny_loadPart' hl
    repeat (first
      | (refine wpAny_ite_false (decide_eq_false (by rw [c0]; exact Bool.false_ne_true)) ?_; wp_walk using AutoSeq1.wpAny_loadPart' hl)
      | (refine wpAny_ite_true (decide_eq_true c1) ?_; wp_walk using AutoSeq1.wpAny_loadPart' hl))
    exact ⟨_, rfl, h⟩
theorem tup_mul0 (l : Addr) (items : Array Value) (n : Nat) (dd : Option Addr) (sl : Array (Option Value)) (x : Int) (u : Tok) (c0 : (decide (x < -(2 ^ 63)) || decide (x ≥ 2 ^ 63)) = false) (c1 : (items.isEmpty || x == 1) = false) (c2 : (decide (x ≤ 0) || items.isEmpty) = true) :
    Meets (Builtin.«tuple.__mul__» ⟨[.ref l, .int x u], []⟩) (fun _ R s => s.heap.get? l = some { cls := .type "tuple", dict := dd, data := .seq items n, slots := sl } ∧
      R (.ok (.ret (Value.ref s.heap.objs.size))) { s with heap := s.heap.push { cls := Value.type "tuple", data := Data.seq #[] }, toks := s.toks }) :=
  .of_wp fun prog w A R s h => by
    obtain ⟨hp, g, d, tk, os⟩ := s
    obtain ⟨hl, h⟩ := h
    have f1 := AutoSeq1.idx_int
    wp_walk using AutoSeq1.wpAny_loadPart' hl
    repeat (first
      | (refine wpAny_ite_false (decide_eq_false (by rw [c0]; exact Bool.false_ne_true)) ?_; wp_walk using AutoSeq1.wpAny_loadPart' hl)
      | (refine wpAny_ite_false (decide_eq_false (by rw [c1]; exact Bool.false_ne_true)) ?_; wp_walk using AutoSeq1.wpAny_loadPart' hl)
      | (refine wpAny_ite_true (decide_eq_true c2) ?_; wp_walk using AutoSeq1.wpAny_loadPart' hl))
    exact ⟨_, rfl, h⟩
def rRepF (K : PySem.W.Frag) : R2 := fun x y H Q => ∃ l k xs, x = .ref l ∧ y = .int k ∧ STup K H l xs ∧ 0 ≤ k ∧ k ≤ 1000 ∧ xs.length ≤ 1000 ∧ (xs = [] ∨ k = 1 → Q (.ref l) H) ∧
  (¬ (xs = [] ∨ k = 1) → ∀ p, H p = none → ∀ o : Obj, o.dict = none → Q (.ref p) (upd H p (.frz o (.tup (List.replicate k.toNat xs).flatten))))
section
variable {w : Wd} {k : Nat} {X : Cx}
theorem op_repF : OpR X (binaryOp .Mult) (rRepF X.K) := by
  intro pins s σ H x y v u Q I rx ry h
  obtain ⟨l, k, xs, rfl, rfl, hT, h0, h1, hz, qs, qn⟩ := h
  cases rx
  obtain ⟨t, rfl⟩ := ry
  obtain ⟨its, r, ⟨⟨cls, dd, data, sl⟩, ho, hc, n, hd⟩, hs⟩ := I.tuple hT.sq
  simp only at hc hd
  subst hc hd
  have hle : its.length = xs.length := r.length.symm
  have c0 : (decide (k < -(2 ^ 63)) || decide (k ≥ 2 ^ 63)) = false := by
    rw [decide_eq_false (by omega), decide_eq_false (by omega)] <;> rfl
  have go : ∀ {Q' : Value → Shared → Prop}, wpAny (model X.prog X.w) X.A (call (.builtin "tuple.__mul__") [.ref l, .int k t]) Q' X.xe s → wpAny (model X.prog X.w) X.A (binaryOp .Mult (.ref l) (.int k t)) Q' X.xe s := fun {Q'} h =>
    wpAny_binaryOp_repeat_ref (T := "tuple") (U := "int") (by decide) ⟨_, ho, rfl⟩ (fun s' => typeIs_int s' k t) noFill_tuple_mul PySem.F.fills_int_mul PySem.F.slot_int_rmul repeat_tuple PySem.F.slot_int_index.lookup
      (call_meets PySem.F.slot_int_rmul (typeIs_int s k t) PySem.F.entry_int_rmul (PySem.F.args_int_rmul_2 _ _) (int_rmul_tuple k t l its.toArray n dd sl) ⟨ho, rfl, ⟨_, ho, rfl⟩, h⟩)
  have hemp : its.toArray.isEmpty = true ↔ xs = [] := by
    rw [List.isEmpty_toArray, List.isEmpty_iff]
    exact r.nil_iff
  by_cases same : xs = [] ∨ k = 1
  · have c1 : (its.toArray.isEmpty || k == 1) = true := by
      rcases same with e | e
      · rw [hemp.mpr e, Bool.true_or]
      · subst e; simp
    exact go (call_meets PySem.F.slot_tuple_mul ⟨_, ho, rfl⟩ PySem.F.entry_tuple_mul (PySem.F.args_tuple_mul_2 _ _) (tup_mulS l its.toArray n dd sl k t c0 c1) ⟨ho, .ref l, H, I, rfl, qs same⟩)
  · have ne : xs ≠ [] := fun e => same (.inl e)
    have i0 : its.toArray.isEmpty = false := by
      cases e : its.toArray.isEmpty with
      | false => rfl
      | true => exact (ne (hemp.mp e)).elim
    have c1 : (its.toArray.isEmpty || k == 1) = false := by
      rw [i0, Bool.false_or]
      exact beq_eq_false_iff_ne.mpr fun e => same (.inr e)
    have lenF : (List.replicate k.toNat xs).flatten.length ≤ sizeLine := by
      rw [PyProof.Rows.lm_len_rep_flat, sizeLine_eq]
      have a1 : k.toNat * xs.length ≤ 1000 * 1000 := Nat.mul_le_mul (by omega) hz
      omega
    have laid : ∀ (zs : List Value), Vals (List.replicate k.toNat xs).flatten zs → EP X pins σ Q (.ref s.heap.objs.size) { s with heap := s.heap.push { cls := Value.type "tuple", data := Data.seq zs.toArray }, toks := s.toks } := fun zs rz => by
      have hl := I.laid (t' := s.toks) (a := s.heap.objs.size) (h' := s.heap.push { cls := .type "tuple", data := .seq zs.toArray }) (o := .frz { cls := .type "tuple", data := .seq zs.toArray } (.tup (List.replicate k.toNat xs).flatten)) (fun c ob q => Heap.get?_push_of_some _ q) (Nat.le_refl _)
        ⟨Heap.get?_push_size _ rfl, lenF, _, rz, IsTup.new _ _⟩
      exact ⟨.ref s.heap.objs.size, _, hl, rfl, qn same _ (I.hok.fresh (Nat.le_refl _)) _ rfl⟩
    by_cases z : k ≤ 0
    · have k0 : k = 0 := by omega
      subst k0
      have c2 : (decide ((0 : Int) ≤ 0) || its.toArray.isEmpty) = true := rfl
      exact go (call_meets PySem.F.slot_tuple_mul ⟨_, ho, rfl⟩ PySem.F.entry_tuple_mul (PySem.F.args_tuple_mul_2 _ _) (tup_mul0 l its.toArray n dd sl 0 t c0 c1 c2) ⟨ho, laid [] .nil⟩)
    · have hm : ((its.toArray.size : Nat) : Int) * k ≤ 1000000 := by
        rw [List.size_toArray, hle]
        have a1 : ((xs.length : Nat) : Int) * k ≤ 1000 * k := Int.mul_le_mul_of_nonneg_right (by omega) (by omega)
        omega
      have c2 : (decide (k ≤ 0) || its.toArray.isEmpty) = false := by
        rw [i0, Bool.or_false]
        exact decide_eq_false z
      have c4 : Builtin.Tuple.tupleTooMany (((its.toArray.size : Nat) : Int) * k) = false := by
        unfold Builtin.Tuple.tupleTooMany
        rw [sizeLine_eq]
        exact decide_eq_false (by omega)
      refine go (call_meets PySem.F.slot_tuple_mul ⟨_, ho, rfl⟩ PySem.F.entry_tuple_mul (PySem.F.args_tuple_mul_2 _ _) (tuple_mulW l its.toArray n dd sl k t c0 c1 c2 (by omega) c4 ?_) ⟨ho, ?_⟩)
      · rw [size_rep, List.size_toArray, ← (r.rep k.toNat).length]
        exact lenF
      · rw [size_rep]
        exact laid _ (r.rep k.toNat)
def rMulA (K : PySem.W.Frag) : R2 := fun x y H Q => (rI CMul fun i j => .int (i * j)) x y H Q ∨ rRepF K x y H Q ∨ rRep x y H Q
theorem u_mul (c : Cok w k X) : U2 w (rMulA X.K) pMul := by
  intro σ H Hf s φ v u d e l Q g r1 r2 hp q
  unfold pMul at hp
  split at hp
  · split at hp
    · rename_i hc
      cases hp
      exact .inl ⟨_, _, r1.int, r2.int, hc, q.d g (.int _)⟩
    · cases hp
  · split at hp
    · rename_i hc
      cases hp
      obtain ⟨a, vs, rfl, ha, r⟩ := r1.tup g.sub
      have hl := r.length
      have rr := r1.tupR
      cases r2.int
      refine .inr (.inl ⟨a, _, vs, rfl, rfl, by rw [c.K]; exact ha, hc.1, hc.2.1, by rw [hl]; exact hc.2.2, fun same => ?_, fun _ p hp o ho => q.tup g (r.rep _) hp ho⟩)
      refine q.d g ?_
      rcases same with e | e
      · subst e
        cases r
        simp only [List.flatten_replicate_nil]
        exact rr
      · subst e
        simpa using rr
    · cases hp
  · rename_i ds b
    split at hp
    · rename_i hc
      cases hp
      obtain ⟨a, vs, rfl, ha, r⟩ := r1.list g.sub
      have hl := r.length
      cases r2.int
      have a1 : ds.length * b.toNat ≤ 1000 * 1000 := Nat.mul_le_mul hc.2.2 (by omega)
      exact .inr (.inr ⟨a, _, vs, rfl, rfl, ha, by omega, by omega, by rw [sizeLine_eq, hl]; omega, fun p hp => q.lst g (r.rep _) hp⟩)
    · cases hp
  · cases hp
theorem ge_mul (c : Cok w k X) {pos : Pos} {a b : Expr} {f f' : EV} (ha : GE w X a f) (hb : GE w X b f') : GE w X (.BinOp a .Mult b pos) (k2 pMul f f') := ge_op (OpR.or op_mul (OpR.or op_repF op_rep)) (u_mul c) ha hb
end
end KV

set_option Elab.async false
set_option linter.all false
set_option maxRecDepth 100000
set_option maxHeartbeats 4000000
/-! KVP: dict displays; the law's source of numbers. -/
namespace KV
open PySem L2
open PySem.Spec PyProof.Rows

/-! ### denotations -/
def dNil : Sl → R (List (D × D) × Sl) := fun s => .ok ([], s)
def dCons (f g : EV) (h : Sl → R (List (D × D) × Sl)) : Sl → R (List (D × D) × Sl) := fun s => (kS f s).bind fun r => (kD g r.2).bind fun q => (h q.2).bind fun t => .ok ((r.1, q.1) :: t.1, t.2)
/-- {k: v, ..} -/
def kDisp (h : Sl → R (List (D × D) × Sl)) : EV := fun s => (h s).bind fun r => if r.1.length ≤ 15 then .ok (.t (.dct (mergeD [] r.1)), r.2) else .no
def kInt (f : EV) : Sl → R (Int × Sl) := fun s => (kG f s).bind fun r => match r.1 with | .int i => .ok (i, r.2) | _ => .no
/-- the source, new -/
def kSrc (f g h m : EV) : EV := fun s => (f s).bind fun r => match r.1 with
  | .t (.lst xs) => (match intsOf xs with
    | some cs => (kInt g r.2).bind fun a => (kInt h a.2).bind fun b => (kInt m b.2).bind fun c => .ok (.t (.src ⟨cs, a.1, b.1, c.1⟩), c.2)
    | none => .no)
  | _ => .no
inductive SF where
  | left | mixed | turn
def SF.get : SF → Src → Int
  | .left, S => S.left
  | .mixed, S => S.mixed
  | .turn, S => S.turn
def SF.put : SF → Int → Src → Src
  | .left, x, S => { S with left := x }
  | .mixed, x, S => { S with mixed := x }
  | .turn, x, S => { S with turn := x }
def SF.nm : SF → Str
  | .left => "left"
  | .mixed => "mixed"
  | .turn => "turn"
def srcAt (i : Nat) (s : Sl) : R Src := match s[i]? with
  | some (some (.src S)) => .ok S
  | _ => .no
def kSGet (i : Nat) (f : SF) : EV := fun s => (srcAt i s).bind fun S => .ok (.d (.int (f.get S)), s)
def kSLen (i : Nat) : EV := fun s => (srcAt i s).bind fun S => .ok (.d (.int S.cells.length), s)
def kSPop (i : Nat) : EV := fun s => (srcAt i s).bind fun S => match S.cells[S.cells.length - 1]? with
  | some x => .ok (.d (.int x), s.set i (some (.src { S with cells := S.cells.dropLast })))
  | none => .no
def sSPut (i : Nat) (f : SF) (e : EV) : SV := fun s => (srcAt i s).bind fun _ => (kInt e s).bind fun r => (srcAt i r.2).bind fun S => .ok (.nx, r.2.set i (some (.src (f.put r.1 S))))

section
variable {w : Wd} {k : Nat} {X : Cx} {pos : Pos} {σ : L2.St} {H Hf : Hp} {s s' : Sl} {φ : Nat → List Addr} {Q : VK} {io : List Nat}

/-! ### values on the way, held -/
theorem RLs.stay {vs : List V} {ls : List L} {F : List Addr} {H1 Hf1 : Hp} {s1 : Sl} {φ1 : Nat → List Addr} {P' : Addr → Prop} (r : RLs w σ Hf H s φ vs ls F) (k : Stp H Hf (Own s φ) H1 Hf1 P') (hp : ∀ a, Own s1 φ1 a → P' a) : RLs w σ Hf1 H1 s1 φ1 vs ls F := by
  induction r with
  | nil => exact .nil
  | cons r _ dj ih => exact .cons (r.stay k hp) ih dj
theorem RLs.new {vs : List V} {ls : List L} {F : List Addr} (r : RLs w σ Hf H s φ vs ls F) : ∀ a ∈ F, (∃ o, H a = some o) ∧ Hf a = none ∧ ¬ Own s φ a := by
  induction r with
  | nil => exact fun a h => nomatch h
  | cons r _ _ ih =>
    intro a h
    rcases List.mem_append.mp h with h | h
    · cases r with
      | d _ => cases h
      | o _ => cases h
      | t r c => exact ⟨r.there a h, c a h⟩
    · exact ih a h
theorem RLs.two {v u : V} {t t' : T} {F : List Addr} (r : RLs w σ Hf H s φ [v, u] [.t t, .t t'] F) : ∃ F1 F2, F = F1 ++ F2 ∧ OR w Hf H v t F1 ∧ (∀ a ∈ F1, Hf a = none ∧ ¬ Own s φ a) ∧ OR w Hf H u t' F2 ∧ ∀ a ∈ F2, Hf a = none ∧ ¬ Own s φ a := by
  cases r with
  | cons ra rr dj =>
    cases rr with
    | cons rb rn dj2 =>
      cases rn
      cases ra with
      | t ra ca =>
        cases rb with
        | t rb cb => exact ⟨_, _, by rw [List.append_nil], ra, ca, rb, cb⟩
structure Bag (w : Wd) (σ : L2.St) (H0 Hf0 : Hp) (P0 : Addr → Prop) (vs : List V) (ls : List L) (F : List Addr) (H Hf : Hp) (s : Sl) (φ : Nat → List Addr) : Prop where
  g : Good w σ H Hf s φ
  r : RLs w σ Hf H s φ vs ls F
  k : Stp H0 Hf0 P0 H Hf (fun a => Own s φ a ∨ a ∈ F)
theorem Bag.free {H0 Hf0 : Hp} {P0 : Addr → Prop} {vs : List V} {ls : List L} {F : List Addr} (b : Bag w σ H0 Hf0 P0 vs ls F H Hf s φ) : ∀ a, Own s φ a → Hf0 a = none := fun a h => by
  cases e : Hf0 a with
  | none => rfl
  | some u => have := b.k.sub a u e; rw [b.g.own_free h] at this; cases this
theorem Bag.add {H0 Hf0 : Hp} {P0 : Addr → Prop} {vs : List V} {ls : List L} {F F1 : List Addr} {v : V} {l : L} {H1 Hf1 : Hp} {s1 : Sl} {φ1 : Nat → List Addr} (b : Bag w σ H0 Hf0 P0 vs ls F H Hf s φ) (g1 : Good w σ H1 Hf1 s1 φ1) (r1 : RL w σ Hf1 H1 s1 φ1 v l F1)
    (k1 : Stp H Hf (Own s φ) H1 Hf1 (fun a => Own s1 φ1 a ∨ a ∈ F1)) : Bag w σ H0 Hf0 P0 (v :: vs) (l :: ls) (F1 ++ F) H1 Hf1 s1 φ1 := by
  have nof : ∀ a ∈ F, ¬ (Own s1 φ1 a ∨ a ∈ F1) := fun a ha z => by
    obtain ⟨⟨o, e1⟩, e2, e3⟩ := b.r.new a ha
    rcases k1.new a (.inl z) with z | z | z
    · exact e3 z
    · exact z e2
    · rw [e1] at z; cases z
  have back : ∀ x, (Own s φ x ∨ x ∈ F) ∨ Hf x ≠ none → P0 x ∨ Hf0 x ≠ none ∨ H0 x = none := fun x => b.k.new x
  have main : ∀ a, (Own s1 φ1 a ∨ a ∈ F1) ∨ Hf1 a ≠ none → P0 a ∨ Hf0 a ≠ none ∨ H0 a = none := fun a z => by
    rcases k1.new a z with z | z | z
    · exact back a (.inl (.inl z))
    · exact back a (.inr z)
    · by_cases n : P0 a
      · exact .inl n
      · cases e : H0 a with
        | none => exact .inr (.inr rfl)
        | some u => rw [b.k.keep a u e n] at z; cases z
  refine ⟨g1, .cons r1 (b.r.stay k1 fun a => .inl) fun a h1 h2 => nof a h2 (.inr h1), ⟨b.k.sub.trans k1.sub, fun a o h n => k1.keep a o (b.k.keep a o h n) fun z => ?_, fun a z => ?_⟩⟩
  · rcases back a (.inl (.inl z)) with z' | z' | z'
    · exact n z'
    · exact z' (b.free a z)
    · rw [h] at z'; cases z'
  · rcases z with (z | z) | z
    · exact main a (.inl (.inl z))
    · rcases List.mem_append.mp z with z | z
      · exact main a (.inl (.inr z))
      · exact back a (.inl (.inr z))
    · exact main a (.inr z)
theorem Bag.keep {H0 Hf0 : Hp} {P0 : Addr → Prop} {vs : List V} {ls : List L} {F : List Addr} {H1 Hf1 : Hp} {s1 : Sl} {φ1 : Nat → List Addr} (b : Bag w σ H0 Hf0 P0 vs ls F H Hf s φ) (g1 : Good w σ H1 Hf1 s1 φ1)
    (k1 : Stp H Hf (Own s φ) H1 Hf1 (Own s1 φ1)) : Bag w σ H0 Hf0 P0 vs ls F H1 Hf1 s1 φ1 := by
  have b1 := b.add (v := .non) g1 (.d .non) (F1 := []) (k1.weak fun a z => z.elim id fun z => nomatch z)
  exact ⟨g1, b.r.stay k1 fun _ => id, b1.k⟩
/-- its first, written or replaced -/
theorem Bag.one {H0 Hf0 : Hp} {P0 : Addr → Prop} {v : V} {t : T} {F : List Addr} (b : Bag w σ H0 Hf0 P0 [v] [.t t] F H Hf s φ) : OR w Hf H v t F ∧ ∀ a ∈ F, Hf a = none ∧ ¬ Own s φ a := by
  cases b.r with
  | cons r rr _ =>
    cases rr
    cases r with
    | t r c => rw [List.append_nil]; exact ⟨r, c⟩

/-! ### {k: v, ..} -/
def tD (w : Wd) (h : Sl → R (List (D × D) × Sl)) (trs : List (TE × TE)) : Prop := ∀ (σ : L2.St) (H Hf : Hp) (s : Sl) (φ : Nat → List Addr) (H0 Hf0 : Hp) (P0 : Addr → Prop) (p : Addr) (ps : List (D × D)) (s' : Sl) (Q : List (V × V) → Hp → Prop),
  Bag w σ H0 Hf0 P0 [.ref p] [.t (.dct [])] [p] H Hf s φ → h s = .ok (ps, s') →
  (∀ kvs H' Hf' φ', Bag w σ H0 Hf0 P0 [.ref p] [.t (.dct [])] [p] H' Hf' s' φ' → RpKv w.K Hf' kvs ps → Sub Hf Hf' → Q (kvs.map fun kv => (kV kv.1, kv.2)) H') → tPairs trs σ H Q
structure GDs (w : Wd) (X : Cx) (pos : Pos) (keys : List (Option Expr)) (values : List Expr) (h : Sl → R (List (D × D) × Sl)) : Prop where
  ex : ∃ trs, PPs X pos keys values trs ∧ tD w h trs
theorem gd_nil : GDs w X pos [] [] dNil := ⟨[], pps_nil, fun σ H Hf s φ H0 Hf0 P0 p ps s' Q b e q => by
  cases e
  exact q [] H Hf φ b .nil (Sub.refl _)⟩
theorem gd_cons {ek ev : Expr} {ks : List (Option Expr)} {vs : List Expr} {f g : EV} {h : Sl → R (List (D × D) × Sl)} (hk : GE w X ek f) (hv : GE w X ev g) (hr : GDs w X pos ks vs h) : GDs w X pos (some ek :: ks) (ev :: vs) (dCons f g h) := by
  obtain ⟨trs, pr, tr⟩ := hr.ex
  refine ⟨_, pps_cons hk hv pr, fun σ H Hf s φ H0 Hf0 P0 p ps s' Q b e q => ?_⟩
  obtain ⟨⟨kd, s1⟩, h1, h2⟩ := R.bind_eq_ok.mp e
  obtain ⟨⟨d, s2⟩, h3, h4⟩ := R.bind_eq_ok.mp h2
  obtain ⟨⟨ps', s3⟩, h5, h6⟩ := R.bind_eq_ok.mp h4
  cases h6
  obtain ⟨l1, h7, h8, h9⟩ := kS_ok h1
  refine ⟨Hf, s, φ, l1, s1, b.g, h7, fun v H1 Hf1 φ1 F1 g1 r1 k1 => ?_⟩
  obtain ⟨ky, rfl, rfl⟩ := (Vs.of (r1.rw g1 h8) h9).key
  have b1 := b.keep g1 (k1.weak fun a => .inl)
  refine tE_D g1 h3 fun u H2 Hf2 φ2 g2 r2 k2 => ?_
  have b2 := b1.keep g2 k2
  refine tr σ H2 Hf2 s2 φ2 H0 Hf0 P0 p ps' _ _ b2 h5 fun kvs H3 Hf3 φ3 b3 r3 sb => ?_
  exact q ((ky, u) :: kvs) H3 Hf3 φ3 b3 (.cons (r2.mono sb) r3) (k1.sub.trans (k2.sub.trans sb))
theorem ge_disp {keys : List (Option Expr)} {values : List Expr} {h : Sl → R (List (D × D) × Sl)} (hd : GDs w X pos keys values h) (hall : keys.all (·.isSome) = true := by rfl) (hl : keys.length = values.length := by rfl) (h0 : keys ≠ [] := by simp) (h15 : keys.length ≤ 15 := by decide) : GE w X (.Dict keys values pos) (kDisp h) := by
  obtain ⟨trs, pr, tr⟩ := hd.ex
  refine pe_imp (pe_disp pr hall hl h0 h15) fun σ H Q => ?_
  rintro ⟨Hf, s, φ, l, s', g, e, q⟩ p hp
  obtain ⟨⟨ps, s1⟩, h1, h2⟩ := R.bind_eq_ok.mp e
  simp only at h2
  split at h2
  · rename_i hz
    cases h2
    have b0 : Bag w σ H Hf (Own s φ) [.ref p] [.t (.dct [])] [p] (upd H p (.dK [])) Hf s φ :=
      ⟨g.updH hp, .cons (.t (.dct upd_same .nil) fun a ha => by rw [List.mem_singleton] at ha; subst ha; exact ⟨g.hf_none hp, g.own_ne hp⟩) .nil (fun _ _ h => nomatch h), Stp.updH hp fun a z => z.imp id fun z => by simpa using z⟩
    refine tr σ _ Hf s φ H Hf (Own s φ) p ps _ _ b0 h1 fun kvs H1 Hf1 φ1 b1 r1 _ => ?_
    obtain ⟨o1, n1⟩ := b1.one
    obtain ⟨n1, n2⟩ := n1 p (by simp)
    cases o1 with
    | dct hp1 r0 =>
      cases r0
      refine ⟨hp1, kvs, rfl, by rw [r1.length]; exact hz, ?_⟩
      exact q (.ref p) _ Hf1 φ1 [p] (b1.g.updO n1 n2) (.t (.dct upd_same (merge_rp r1 .nil)) fun a ha => by rw [List.mem_singleton] at ha; subst ha; exact ⟨n1, n2⟩) (b1.k.updO (.inr (by simp)) n1)
  · cases h2
/-- {} -/
theorem ge_disp0 : GE w X (.Dict [] [] pos) (kDisp dNil) := pe_imp pe_dnewK fun σ H Q => by
  rintro ⟨Hf, s, φ, l, s', g, e, q⟩
  cases e
  exact fun p hp => q.dct g .nil hp

/-! ### the source -/
theorem Good.updM {a : Addr} {o : HO} {i : Nat} {t t' : T} (g : Good w σ H Hf s φ) (h : s[i]? = some (some t)) (m : a ∈ φ i) {v : V} (hv : σ[i]? = some (some v)) (r : OR w Hf (upd H a o) v t' (φ i)) :
    Good w σ (upd H a o) Hf (s.set i (some t')) φ ∧ ∀ x, Own (s.set i (some t')) φ x → Own s φ x := by
  have hf : Hf a = none := g.fr i t a h m
  have fix : ∀ {j : Nat} {u : T}, (s.set i (some t'))[j]? = some (some u) → ∃ u0, s[j]? = some (some u0) := fun {j u} q => by
    rcases set_at q with ⟨rfl, _, _⟩ | ⟨_, q⟩
    · exact ⟨_, h⟩
    · exact ⟨_, q⟩
  refine ⟨⟨fun x u q => ?_, by rw [List.length_set]; exact g.len, fun j u q => ?_, fun j u x q m => ?_, fun j k u u' x q1 q2 m1 m2 => ?_⟩, fun x q => ?_⟩
  · have : x ≠ a := fun z => by rw [z, hf] at q; cases q
    rw [upd_ne this]; exact g.sub x u q
  · rcases set_at q with ⟨rfl, rfl, _⟩ | ⟨z, q⟩
    · exact ⟨v, hv, r⟩
    · obtain ⟨v', e1, r'⟩ := g.here j u q
      refine ⟨v', e1, r'.stay (Sub.refl _) fun x hx u' q' => ?_⟩
      have : x ≠ a := fun y => z (g.dj j i u t x q h hx (by rw [y]; exact m))
      rw [upd_ne this]; exact q'
  · obtain ⟨u0, q0⟩ := fix q
    exact g.fr j u0 x q0 m
  · obtain ⟨u1, q1⟩ := fix q1
    obtain ⟨u2, q2⟩ := fix q2
    exact g.dj j k u1 u2 x q1 q2 m1 m2
  · obtain ⟨j, u, q, m⟩ := q
    obtain ⟨u0, q0⟩ := fix q
    exact ⟨j, u0, q0, m⟩
theorem srcAt_ok {i : Nat} {S : Src} (h : srcAt i s = .ok S) : s[i]? = some (some (.src S)) := by
  unfold srcAt at h
  split at h
  · cases h; assumption
  · cases h
theorem Good.srcs (g : Good w σ H Hf s φ) {i : Nat} {S : Src} (h : s[i]? = some (some (.src S))) : ∃ a b, σ[i]? = some (some (.ref a)) ∧ φ i = [a, b] ∧ H a = some (.dK (srcKv b S)) ∧ H b = some (.lst (S.cells.map V.int)) := by
  obtain ⟨v, e, r⟩ := g.here i _ h
  generalize hF : φ i = F at r
  cases r with
  | src h1 h2 => exact ⟨_, _, e, rfl, h1, h2⟩
theorem ints_lst {K : PySem.W.Frag} {H : Hp} {vs : List V} {ds : List D} {ns : List Int} (r : RpA K H vs ds) (h : intsOf ds = some ns) : vs = ns.map V.int := ints_rp r h
theorem kInt_ok {f : EV} {i : Int} (h : kInt f s = .ok (i, s')) : ∃ l, f s = .ok (l, s') ∧ l.get s' = .ok (.int i) := by
  obtain ⟨⟨d, s1⟩, h1, h2⟩ := R.bind_eq_ok.mp h
  obtain ⟨l, h3, h4⟩ := kG_ok h1
  simp only at h2
  split at h2
  · cases h2; exact ⟨l, h3, h4⟩
  · cases h2
theorem tE_I {f : EV} {i : Int} {Z : V → Hp → Prop} (g : Good w σ H Hf s φ) (e : kInt f s = .ok (i, s'))
    (h : ∀ H' Hf' φ', Good w σ H' Hf' s' φ' → Stp H Hf (Own s φ) H' Hf' (Own s' φ') → Z (.int i) H') : tE w f σ H Z := by
  obtain ⟨l, h1, h2⟩ := kInt_ok e
  refine ⟨Hf, s, φ, l, s', g, h1, fun v H1 Hf1 φ1 F1 g1 r1 k1 => ?_⟩
  cases (r1.rw g1 h2).int
  exact h H1 Hf1 φ1 g1 (k1.weak fun a => .inl)
theorem ge_src {ec eg eh em : Expr} {f g h m : EV} {j1 j2 j3 j4 : Nat} {p1 p2 p3 p4 : Pos} (hc : GE w X ec f) (hl : GE w X eg g) (hm : GE w X eh h) (ht : GE w X em m) :
    GE w X (.Dict [some (.Constant (.str "cells") j1 p1), some (.Constant (.str "left") j2 p2), some (.Constant (.str "mixed") j3 p3), some (.Constant (.str "turn") j4 p4)] [ec, eg, eh, em] pos) (kSrc f g h m) := by
  refine pe_imp (pe_disp (pps_cons pe_str hc (pps_cons pe_str hl (pps_cons pe_str hm (pps_cons pe_str ht pps_nil)))) rfl rfl (by simp) (by show 4 ≤ 15; decide)) fun σ H Q => ?_
  rintro ⟨Hf, s, φ, l, s', gd, e, q⟩ p hp
  obtain ⟨⟨l1, s1⟩, h1, h2⟩ := R.bind_eq_ok.mp e
  simp only at h2
  split at h2
  · rename_i xs
    split at h2
    · rename_i cs hcs
      obtain ⟨⟨a, s2⟩, h3, h4⟩ := R.bind_eq_ok.mp h2
      obtain ⟨⟨b, s3⟩, h5, h6⟩ := R.bind_eq_ok.mp h4
      obtain ⟨⟨c, s4⟩, h7, h8⟩ := R.bind_eq_ok.mp h6
      cases h8
      have b0 : Bag w σ H Hf (Own s φ) [.ref p] [.t (.dct [])] [p] (upd H p (.dK [])) Hf s φ :=
        ⟨gd.updH hp, .cons (.t (.dct upd_same .nil) fun a ha => by rw [List.mem_singleton] at ha; subst ha; exact ⟨gd.hf_none hp, gd.own_ne hp⟩) .nil (fun _ _ h => nomatch h), Stp.updH hp fun a z => z.imp id fun z => by simpa using z⟩
      refine ⟨Hf, s, φ, .t (.lst xs), s1, b0.g, h1, fun v H1 Hf1 φ1 F1 g1 r1 k1 => ?_⟩
      have b1 := b0.add g1 r1 k1
      refine tE_I g1 h3 fun H2 Hf2 φ2 g2 k2 => ?_
      have b2 := b1.keep g2 k2
      refine tE_I g2 h5 fun H3 Hf3 φ3 g3 k3 => ?_
      have b3 := b2.keep g3 k3
      refine tE_I g3 h7 fun H4 Hf4 φ4 g4 k4 => ?_
      have b4 := b3.keep g4 k4
      obtain ⟨Fa, Fb, eF, ra, ca, rb, cb⟩ := b4.r.two
      cases ra with
      | lst ha rxs =>
        cases rb with
        | dct hb rk =>
          cases rk
          rename_i A vs
          obtain ⟨n1, n2⟩ := cb p (by simp)
          obtain ⟨m1, m2⟩ := ca A (by simp)
          have ev := ints_lst rxs hcs
          have ne : A ≠ p := fun z => by rw [z, hb] at ha; cases ha
          refine ⟨hb, [(Sum.inr "cells", .ref A), (Sum.inr "left", .int a), (Sum.inr "mixed", .int b), (Sum.inr "turn", .int c)], rfl, (by show 4 ≤ 15; decide), ?_⟩
          have em : mergeK [] [(Sum.inr "cells", V.ref A), (Sum.inr "left", .int a), (Sum.inr "mixed", .int b), (Sum.inr "turn", .int c)] = srcKv A ⟨cs, a, b, c⟩ := by
            rfl
          rw [em]
          refine q (.ref p) _ Hf4 φ4 [p, A] (b4.g.updO n1 n2) (.t (.src upd_same (by rw [upd_ne ne, ← ev]; exact ha)) fun x hx => ?_) ((b4.k.updO (.inr (by simp)) n1).weak fun x z => z.imp id fun z => ?_)
          · rcases List.mem_cons.mp hx with z | z
            · subst z; exact ⟨n1, n2⟩
            · rw [List.mem_singleton] at z; subst z; exact ⟨m1, m2⟩
          · rw [eF]
            rcases List.mem_cons.mp z with z | z
            · subst z; simp
            · rw [List.mem_singleton] at z; subst z; simp
    · cases h2
  · cases h2
section
variable {x : Str} {px pp apos cpos : Pos} {j : Nat}
theorem src_look {b : Addr} {S : Src} (f : SF) : valV (srcKv b S) (Sum.inr f.nm) = some (.int (f.get S)) := by
  cases f <;> rfl
theorem src_cells {b : Addr} {S : Src} : valV (srcKv b S) (Sum.inr "cells") = some (.ref b) := rfl
theorem ge_srcI (c : Cok w k X) (i : Nat) (f : SF) {nm : Str} (hn : f.nm = nm := by rfl) (hN : X.N[i]? = some x := by rfl) (hv : Vis X.env.scope x := by first | exact Or.inl rfl | exact Or.inr (Or.inl rfl) | exact Or.inr (Or.inr rfl)) (hd : (x == ("__debug__" : Str)) = false := by decide) (hcd : (x == ("__classdict__" : Str)) = false := by decide)
    (hs : PlainIx (.Constant (.str nm) j pp) := by exact fun _ _ => rfl) : GE w X (.Subscript (.Name x px) (.Constant (.str nm) j pp) pos) (kSGet i f) := by
  subst hn
  refine pe_imp (pe_ix (ix_all c) (pv i hN hv hd hcd) pe_str hs) fun σ H Q => ?_
  rintro ⟨Hf, s, φ, l, s', g, e, q⟩
  obtain ⟨S, h1, h2⟩ := R.bind_eq_ok.mp e
  cases h2
  obtain ⟨a, b, e1, _, ha, hb⟩ := g.srcs (srcAt_ok h1)
  exact ⟨_, e1, .inr (.inr ⟨a, _, rfl, by have := DGet.k (k := Sum.inr f.nm) ha; rw [src_look f] at this; exact this, q.d g (.int _)⟩)⟩
/-- len(source["cells"]) -/
theorem ge_srcLen (hm : X.mg "len" = none) (c : Cok w k X) (i : Nat) {lp : Pos} (hN : X.N[i]? = some x := by rfl) (hv : Vis X.env.scope x := by first | exact Or.inl rfl | exact Or.inr (Or.inl rfl) | exact Or.inr (Or.inr rfl)) (hd : (x == ("__debug__" : Str)) = false := by decide) (hcd : (x == ("__classdict__" : Str)) = false := by decide)
    (hs : PlainIx (.Constant (.str "cells") j pp) := by exact fun _ _ => rfl) (hg : Gl X "len" := by rfl) (he : starEach [.Subscript (.Name x px) (.Constant (.str "cells") j pp) apos] X.env = (false, eval (.Subscript (.Name x px) (.Constant (.str "cells") j pp) apos) X.env) :: starEach [] X.env := by rfl) :
    GE w X (.Call (.Name "len" lp) [.Subscript (.Name x px) (.Constant (.str "cells") j pp) apos] [] pos) (kSLen i) := by
  refine pe_imp (pe_callB call_len hg hm PySem.boot_len (pa_cons (pe_ix (ix_all c) (pv i hN hv hd hcd) pe_str hs) pa_nil he) (by decide) (by decide) he) fun σ H Q => ?_
  rintro ⟨Hf, s, φ, l, s', g, e, q⟩
  obtain ⟨S, h1, h2⟩ := R.bind_eq_ok.mp e
  cases h2
  obtain ⟨a, b, e1, _, ha, hb⟩ := g.srcs (srcAt_ok h1)
  have hg := DGet.k (k := Sum.inr "cells") ha
  rw [src_cells] at hg
  exact ⟨_, e1, .inr (.inr ⟨a, _, rfl, hg, _, S.cells.length, rfl, .inl ⟨_, SqL.of hb, by simp⟩, q.d g (.int _)⟩)⟩
theorem ge_srcPop (c : Cok w k X) (i : Nat) (hN : X.N[i]? = some x := by rfl) (hv : Vis X.env.scope x := by first | exact Or.inl rfl | exact Or.inr (Or.inl rfl) | exact Or.inr (Or.inr rfl)) (hd : (x == ("__debug__" : Str)) = false := by decide) (hcd : (x == ("__classdict__" : Str)) = false := by decide)
    (hs : PlainIx (.Constant (.str "cells") j pp) := by exact fun _ _ => rfl)
    (hbase : attributeBase (.Subscript (.Name x px) (.Constant (.str "cells") j pp) pos) "pop" X.env (eval (.Subscript (.Name x px) (.Constant (.str "cells") j pp) pos) X.env) = eval (.Subscript (.Name x px) (.Constant (.str "cells") j pp) pos) X.env := by rfl) (hline : (apos.endLine == cpos.line) = true := by rfl) :
    GE w X (.Call (.Attribute (.Subscript (.Name x px) (.Constant (.str "cells") j pp) pos) "pop" apos) [] [] cpos) (kSPop i) := by
  refine pe_imp (pe_bm0 PySem.F.plainAttrs_list PySem.F.slot_list_pop PySem.F.type_list_pop mt_pop (pe_ix (ix_all c) (pv i hN hv hd hcd) pe_str hs) hbase hline) fun σ H Q => ?_
  rintro ⟨Hf, s, φ, l, s', g, e, q⟩
  obtain ⟨S, h1, h2⟩ := R.bind_eq_ok.mp e
  have hS := srcAt_ok h1
  obtain ⟨a, b, e1, p1, ha, hb⟩ := g.srcs hS
  split at h2
  · rename_i z hz
    cases h2
    have hg := DGet.k (k := Sum.inr "cells") ha
    rw [src_cells] at hg
    have ne : a ≠ b := fun z => by rw [z, hb] at ha; cases ha
    refine ⟨_, e1, .inr (.inr ⟨a, _, rfl, hg, .inl ⟨rfl, _, SqL.of hb⟩, b, _, .int z, rfl, rfl, hb, by simp only [List.length_map, List.getElem?_map, hz]; rfl, ?_⟩)⟩
    have el : (S.cells.map V.int).dropLast = S.cells.dropLast.map V.int := by rw [List.map_dropLast]
    rw [el]
    have mb : b ∈ φ i := by rw [p1]; simp
    obtain ⟨g2, o2⟩ := g.updM (o := .lst (S.cells.dropLast.map V.int)) (t' := .src { S with cells := S.cells.dropLast }) hS mb e1 (by
      rw [p1]
      exact .src (by rw [upd_ne ne]; exact ha) upd_same)
    exact q (.int z) _ Hf φ [] g2 (.d (.int z)) ((Stp.refl.updO ⟨i, _, hS, mb⟩ (g.fr i _ b hS mb)).weak fun y z => z.elim (o2 y) fun z => nomatch z)
  · cases h2
theorem src_put {b : Addr} {S : Src} (f : SF) (y : Int) : putK (srcKv b S) (Sum.inr f.nm) (.int y) = srcKv b (f.put y S) := by
  cases f <;> rfl
theorem gs_srcPut (c : Cok w k X) (i : Nat) (f : SF) {nm : Str} {e : Expr} {fe : EV} {spos : Pos} (he : GE w X e fe) (hn : f.nm = nm := by rfl) (hN : X.N[i]? = some x := by rfl) (hv : Vis X.env.scope x := by first | exact Or.inl rfl | exact Or.inr (Or.inl rfl) | exact Or.inr (Or.inr rfl)) (hd : (x == ("__debug__" : Str)) = false := by decide) (hcd : (x == ("__classdict__" : Str)) = false := by decide)
    (ha : ∀ v, assign (.Subscript (.Name x px) (.Constant (.str nm) j pp) spos) X.env v = (do
      let ov ← holding [v] (eval (.Name x px) X.env)
      let iv ← holding [v, ov] (eval (.Constant (.str nm) j pp) X.env)
      standAt spos
      holding [v, ov, iv] (setItem ov iv v)
      release [v, ov, iv] []) := by intro _; rfl)
    (hs : swapsWithSole [.Subscript (.Name x px) (.Constant (.str nm) j pp) spos] e pos.line X.env = pure false := by rfl) (hw : swappedStores [.Subscript (.Name x px) (.Constant (.str nm) j pp) spos] e X.env = pure none := by rfl)
    (h1 : (assignEach [.Subscript (.Name x px) (.Constant (.str nm) j pp) spos] X.env).map (·.2) = [assign (.Subscript (.Name x px) (.Constant (.str nm) j pp) spos) X.env] := by rfl) :
    GS w io X (.Assign [.Subscript (.Name x px) (.Constant (.str nm) j pp) spos] e pos) (sSPut i f fe) := by
  subst hn
  refine ps_imp (ps_asg he (pg_sub (pv i hN hv hd hcd) pe_str (set_any c) ha) hs hw h1) fun D σ H => ?_
  rintro ⟨Hf, s, φ, fl, s', g, e, q⟩
  obtain ⟨S0, h2, h3⟩ := R.bind_eq_ok.mp e
  obtain ⟨⟨y, s1⟩, h4, h5⟩ := R.bind_eq_ok.mp h3
  obtain ⟨S, h6, h7⟩ := R.bind_eq_ok.mp h5
  cases h7
  obtain ⟨a0, b0, e0, _⟩ := g.srcs (srcAt_ok h2)
  refine tE_I g h4 fun H1 Hf1 φ1 g1 k1 => ?_
  have hS := srcAt_ok h6
  obtain ⟨a, b, e1, p1, ha, hb⟩ := g1.srcs hS
  rw [e0] at e1
  cases e1
  have ne : b ≠ a0 := fun z => by rw [z, ha] at hb; cases hb
  have ma : a0 ∈ φ1 i := by rw [p1]; simp
  obtain ⟨g2, o2⟩ := g1.updM (o := .dK (srcKv b (f.put y S))) (t' := .src (f.put y S)) hS ma e0 (by
    rw [p1]
    refine .src upd_same ?_
    rw [upd_ne ne]
    cases f <;> exact hb)
  refine ⟨_, e0, .inr ⟨a0, _, rfl, DPut.k (k := Sum.inr f.nm) (v := .int y) ha (by show 4 < sizeLine; decide), ?_⟩⟩
  rw [src_put]
  exact q σ _ Hf1 φ1 g2 ((k1.updO ⟨i, _, hS, ma⟩ (g1.fr i _ a0 hS ma)).weak o2) Kp.refl
end
end
end KV

set_option Elab.async false
set_option linter.all false
set_option maxRecDepth 100000
set_option maxHeartbeats 4000000
/-! KVQ: the script that is handed in; a law by its denotation. -/
namespace KV
open PySem L2
open PySem.Spec PyProof.Rows

def scrAt (i : Nat) (s : Sl) : R (List Int) := match s[i]? with
  | some (some (.scr ns)) => .ok ns
  | _ => .no
def iScr (i : Nat) : IV := fun s => (scrAt i s).bind fun ns => .ok (ns.map PyData.int, s)
/-- an argument that is passed on as it is -/
def cPass (i : Nat) (g : CV) : CV := fun s => match s[i]? with
  | some (some (.scr ns)) => (g s).bind fun q => .ok (.f (.scr ns) :: q.1, q.2)
  | some (some (.clo n f)) => (g s).bind fun q => .ok (.f (.clo n f) :: q.1, q.2)
  | _ => .no

section
variable {w : Wd} {k : Nat} {X : Cx} {pos : Pos} {σ : L2.St} {H Hf : Hp} {s s' : Sl} {φ : Nat → List Addr} {Q : VK} {io : List Nat}
theorem scrAt_ok {i : Nat} {ns : List Int} (h : scrAt i s = .ok ns) : s[i]? = some (some (.scr ns)) := by
  unfold scrAt at h
  split at h
  · cases h; assumption
  · cases h
theorem ints_rpa {K : PySem.W.Frag} {H : Hp} : ∀ ns : List Int, RpA K H (ns.map V.int) (ns.map PyData.int)
  | [] => .nil
  | i :: ns => .cons (.int i) (ints_rpa ns)
theorem gi_scr (c : Cok w k X) (i : Nat) {x : Str} {px : Pos} {tg : Expr} (hN : X.N[i]? = some x := by rfl) (hv : Vis X.env.scope x := by first | exact Or.inl rfl | exact Or.inr (Or.inl rfl) | exact Or.inr (Or.inr rfl)) (hd : (x == ("__debug__" : Str)) = false := by decide) (hcd : (x == ("__classdict__" : Str)) = false := by decide) : GI w X tg (.Name x px) (iScr i) := by
  refine pi_imp (pi_any (pv i hN hv hd hcd)) fun σ H Rv => ?_
  rintro ⟨Hf, s, φ, ds, s', gd, e, q⟩
  obtain ⟨ns, h1, h2⟩ := R.bind_eq_ok.mp e
  cases h2
  obtain ⟨v, e1, r⟩ := gd.here i _ (scrAt_ok h1)
  generalize φ i = F at r
  cases r with
  | scr hs =>
    refine ⟨_, e1, _, _, rfl, .inl ⟨by rw [c.K]; exact gd.sub.sqL hs, ?_⟩⟩
    rw [c.K]
    refine q _ H Hf φ gd Stp.refl ⟨fun i H1 Hf1 s1 s2 hi => ?_, fun H1 Hf1 s1 s2 => ?_, fun i H1 Hf1 y H' d s1 s2 hd y1 => ?_⟩
    · obtain ⟨v, hv, _⟩ := (ints_rpa (K := w.K) (H := Hf) ns).get (List.getElem?_eq_getElem hi)
      exact ⟨_, v, s2.sqL (s1.sqL hs), hv⟩
    · exact ⟨_, s2.sqL (s1.sqL hs), by simp⟩
    · obtain ⟨v, hv, rv⟩ := (ints_rpa (K := w.K) (H := Hf1) ns).get hd
      have := y1.2 _ (s2.sqL (s1.sqL hs))
      rw [hv] at this
      cases this
      exact ⟨y1.1, rv⟩
theorem gr_pass (i : Nat) {x : Str} {px : Pos} {es : List Expr} {g : CV} {p : List Bool} (hr : GR w X es g p) (hN : X.N[i]? = some x := by rfl) (hv : Vis X.env.scope x := by first | exact Or.inl rfl | exact Or.inr (Or.inl rfl) | exact Or.inr (Or.inr rfl)) (hd : (x == ("__debug__" : Str)) = false := by decide) (hcd : (x == ("__classdict__" : Str)) = false := by decide)
    (hs : starEach (.Name x px :: es) X.env = (false, eval (.Name x px) X.env) :: starEach es X.env := by rfl) : GR w X (.Name x px :: es) (cPass i g) (false :: p) := by
  refine pa_imp (pa_cons (pv i hN hv hd hcd) hr hs) fun σ H Q => ?_
  rintro ⟨Hf, s, φ, as, s', gd, e, q⟩
  have go : ∀ t, s[i]? = some (some t) → (∀ v F, OR w Hf H v t F → F = []) → (g s).bind (fun q => .ok (AR.f t :: q.1, q.2)) = R.ok (as, s') → ∃ v, σ[i]? = some (some v) ∧ tR w g p σ H fun vs H2 => Q (v :: vs) H2 := fun t ht hF e => by
    obtain ⟨⟨as', s2⟩, h3, h4⟩ := R.bind_eq_ok.mp e
    cases h4
    obtain ⟨v, hv, r⟩ := gd.here i t ht
    have eF := hF v _ r
    rw [eF] at r
    exact ⟨v, hv, Hf, s, φ, as', _, gd, h3, fun vs H2 Hf2 φ2 g2 r2 p2 k2 => q (v :: vs) H2 Hf2 φ2 g2 (.cons (.f (r.stay k2.sub fun a h => nomatch h)) r2) (by rw [List.map_cons, p2]; rfl) k2⟩
  unfold cPass at e
  split at e
  · rename_i ns ht
    exact go _ ht (fun v F r => by cases r; rfl) e
  · rename_i n f ht
    exact go _ ht (fun v F r => by cases r; rfl) e
  · cases e
end

/-! ### a law -/
def W0 (K : PySem.W.Frag) : Wd := ⟨K, fun _ _ _ _ => False, fun _ h => h, none⟩
theorem law_callG {P : Program} {w0 : World} {K : PySem.W.Frag} {mg mb : Str → Option Value} {k : Nat} {fa a : Addr} {fd : FuncData} {x : Str} {sp : Sp} {st : Shared} {vs : List Value} {ns : List Int}
    (inK : K.In st.heap) (nsM : st.heap.Ns mainGlobals mg) (nsB : st.heap.Ns builtinsNs mb) (boot : ∀ y : Str, y ≠ "__name__" → mb y = bootBuiltins y) (noLim : st.heap.NoLimit) (noGen : st.gens = #[])
    (atA : st.heap.get? a = some { cls := .type "list", data := .seq vs.toArray }) (areInts : IntsAre vs ns) (short : ns.length ≤ sizeLine) (room : Room k callerA)
    (F : ∀ base : Heap, K.In base → base.Ns mainGlobals mg → FnG P w0 K mg base k fa fd [x] sp) (binds : ∀ (s : Shared) (u : Value), BindsTo s fd ⟨[u], []⟩ [(x, u)])
    (want : ∀ H : Hp, SqL K H a (ns.map V.int) → sp [.ref a] H (fun v _ => v = .bl true) fun _ _ _ => False) :
    codeAny (model P w0) callerA (.call (.ref fa) ⟨[.ref a], []⟩) (fun r s' => r = .ok (.ret (.bool true)) ∧ OldK st.heap s'.heap ∧ s'.os = st.os ∧ AllBare s'.gens) st := by
  have rel := vals_ints areInts
  have lenV := areInts.length
  have main : ∀ H : Hp, (∀ b u, H b = some u → b = a ∧ K.lookup a = none ∧ ∃ o ys, u = .frz o (.lst ys)) → SqL K H a (ns.map V.int) → HOk P w0 H st.heap →
      codeAny (model P w0) callerA (.call (.ref fa) ⟨[.ref a], []⟩) (fun r s' => r = .ok (.ret (.bool true)) ∧ OldK st.heap s'.heap ∧ s'.os = st.os ∧ AllBare s'.gens) st := by
    intro H only sq hok
    have keepB : ∀ {b : Addr} {o : Obj}, st.heap.get? b = some o → H b = none → (hidT st.heap H).get? b = some o := fun e n => hidT_get e n
    have freeD : ∀ {b : Addr} {o : Obj} {es : Array DictEntry} {ep : Nat}, st.heap.get? b = some o → o.data = .dict es ep → H b = none := fun {b o es ep} e d => by
      cases q : H b with
      | none => rfl
      | some u =>
        obtain ⟨rfl, _⟩ := only b u q
        rw [atA] at e
        cases e
        exact nomatch (show Data.seq vs.toArray _ = Data.dict es ep from d)
    have nsH : ∀ {b : Addr} {m : Str → Option Value}, st.heap.Ns b m → (hidT st.heap H).Ns b m := fun ⟨o, es, ep, e, d, r⟩ => ⟨o, es, ep, keepB e (freeD e d), d, r⟩
    have inH : K.In (hidT st.heap H) := fun b o e => keepB (inK b o e) (by
      cases q : H b with
      | none => rfl
      | some u =>
        obtain ⟨rfl, z, _⟩ := only b u q
        rw [z] at e; cases e)
    have modH : Mod K mg (hidT st.heap H) := ⟨inH, nsH nsM, ⟨mb, nsH nsB, boot⟩, let ⟨mc, h1, h2⟩ := noLim; ⟨mc, nsH h1, h2⟩⟩
    have env0 : Env0 P w0 K mg (hidT st.heap H) callerA [] st H := ⟨rfl, modH, fun b o e => of_hidT e, Nat.le_of_eq (hidT_size _ _), trivial, fun b hb => (nomatch (show b ∈ ([] : List Addr) from hb)), hok, .of_eq noGen⟩
    refine codeAny_mono ((F _ inH (nsH nsM)).run callerA [] st H ⟨[.ref a], []⟩ [.ref a] [.ref a] _ _ room rfl env0 (binds st (.ref a)) (.cons rfl .nil) (want H sq)) fun r s' h => ?_
    cases r with
    | error e => exact False.elim h
    | ok fl =>
      cases fl with
      | next => exact False.elim h
      | brk => exact False.elim h
      | cont => exact False.elim h
      | ret u =>
        obtain ⟨v, H', os, bare, un, hok', rv, q⟩ := h
        obtain rfl : v = .bl true := q
        obtain rfl : u = Value.bool true := rv
        refine ⟨rfl, OldK.of_keep fun b o e => ?_, os, bare⟩
        cases q : H b with
        | none => exact un.keep b o e q (fun z => nomatch (show b ∈ ([] : List Addr) from z)) (by simp)
        | some u =>
          obtain ⟨rfl, _, ob, ys, rfl⟩ := only b u q
          obtain ⟨e1, _⟩ := hok _ _ q
          obtain ⟨e2, _⟩ := hok' _ _ (un.frzs _ ob _ q)
          rw [e] at e1
          cases e1
          exact e2
  cases hk : K.lookup a with
  | some o =>
    have e := inK a o hk
    rw [atA] at e
    cases e
    exact main (fun _ => none) (fun b u z => nomatch z) (.inr ⟨_, vs.toArray, _, hk, rfl, rfl, rfl, by rw [List.size_toArray, lenV]; exact short, by simpa using rel⟩) (fun b u z => nomatch z)
  | none =>
    have only : ∀ b u, (if b = a then some (HO.frz { cls := .type "list", data := .seq vs.toArray } (.lst (ns.map V.int))) else none) = some u → b = a ∧ u = .frz { cls := .type "list", data := .seq vs.toArray } (.lst (ns.map V.int)) := fun b u z => by
      by_cases hb : b = a
      · rw [if_pos hb] at z; cases z; exact ⟨hb, rfl⟩
      · rw [if_neg hb] at z; cases z
    refine main (fun b => if b = a then some (.frz { cls := .type "list", data := .seq vs.toArray } (.lst (ns.map V.int))) else none) (fun b u z => ?_) (.inl (.inr ⟨_, if_pos rfl⟩)) fun b u z => ?_
    · obtain ⟨rfl, rfl⟩ := only b u z
      exact ⟨rfl, hk, _, _, rfl⟩
    · obtain ⟨rfl, rfl⟩ := only b u z
      exact ⟨atA, by rw [List.length_map]; exact short, vs, _, rel, atA⟩
theorem walkG {l : PySem.W.OpenLaw} {k : Nat} {q : Program} {loose : List Str} {XP : (Str → Option Value) → Heap → Prop} {YP : World → Heap → Prop} {d : DefRec} {K : Params → PySem.W.Frag} {x : Str} {dl : Def}
    (hn : l.most = some 63) (hdf : d.params.defaults = []) (room : Room k callerA) (hY : ∀ (w : World) (h : Heap), YP w h → (K w.params).In h)
    (F : ∀ (w : World) (mg : Str → Option Value) (fa : Addr) (h : Heap), (K w.params).In h → h.Ns mainGlobals mg → mg d.name = some (.ref fa) →
      ∃ fd : FuncData, (∀ (s : Shared) (u : Value), BindsTo s fd ⟨[u], []⟩ [(x, u)]) ∧ ∀ base : Heap, (K w.params).In base → base.Ns mainGlobals mg → FnG l.prog w (K w.params) mg base k fa fd [x] (spD (W0 (K w.params)) 1 dl))
    (plain : ∀ ns : List Int, ns.length ≤ 63 → dl.run [.scr ns] = .ok (.val (.bool true), [])) (hio : dl.io = []) : PySem.W.WalkO q loose XP YP l.row.toRowW d [] (fun f vs => PySem.call f vs) := by
  refine Att.attach_call hn hdf fun w s₀ st mg mb fa o pm cd doc a vs ns G Y ho hd hcd hmg hobj hints hlen hg => ?_
  have inK := hY w _ Y
  obtain ⟨fd, hb, hF⟩ := F w mg fa _ inK G.T.g hmg
  refine law_callG inK G.T.g G.T.b G.T.builtins G.T.nolimit hg hobj hints (Nat.le_trans hlen (by decide)) room hF hb fun H sq => ?_
  refine ⟨H, [.scr ns], fun _ => [], .val (.bool true), [], rfl, ⟨Sub.refl _, rfl, fun i t e => ?_, fun i t a e m => (nomatch m), fun i j t u a e1 e2 m => (nomatch m)⟩, plain ns hlen, fun v H' Hf' ψ F g r _ _ => ?_⟩
  · match i, e with
    | 0, e =>
      cases e
      exact ⟨.ref a, rfl, .scr sq⟩
    | i + 1, e => simp at e
  · cases r with
    | val r => cases r; rfl
end KV

set_option Elab.async false
set_option linter.all false
set_option maxRecDepth 100000
set_option maxHeartbeats 4000000
/-! KVR: comparisons as tests; what is never come to. -/
namespace KV
open PySem L2
open PySem.Spec PyProof.Rows
def sNever : SV := fun _ => .no
def bIfE (c f g : BV) : BV := fun s => (c s).bind fun r => if r.1 then f r.2 else g r.2
section
variable {w : Wd} {k : Nat} {X : Cx} {pos p2 : Pos} {a b : Expr} {f f' : EV} {io : List Nat}
theorem gs_never {st : Stmt} : GS w io X st sNever := ps_imp ps_never fun D σ H h => by
  obtain ⟨Hf, s, φ, fl, s', g, e, q⟩ := h
  cases e
theorem gss_never {sts : List Stmt} : GSs w io X sts sNever := pss_imp pss_never fun D σ H h => by
  obtain ⟨Hf, s, φ, fl, s', g, e, q⟩ := h
  cases e
theorem gb_eq (c : Cok w k X) (ha : GE w X a f) (hb : GE w X b f') (hm : behindInMarks .Eq b = false := by rfl) : GB w X (.Compare a [.Eq] [b] pos) (bVal (k2 pEq f f')) := gb_cmp (op_eqD (by have := c.u; omega)) (u_eq c) ha hb hm
theorem gb_ne (c : Cok w k X) (ha : GE w X a f) (hb : GE w X b f') (hm : behindInMarks .NotEq b = false := by rfl) : GB w X (.Compare a [.NotEq] [b] pos) (bVal (k2 pNe f f')) := gb_cmp (op_neD (by have := c.u; omega)) (u_ne c) ha hb hm
theorem gb_lt (ha : GE w X a f) (hb : GE w X b f') (hm : behindInMarks .Lt b = false := by rfl) : GB w X (.Compare a [.Lt] [b] pos) (bVal (k2 pLt f f')) := gb_cmp o_lt u_lt ha hb hm
theorem gb_le (ha : GE w X a f) (hb : GE w X b f') (hm : behindInMarks .LtE b = false := by rfl) : GB w X (.Compare a [.LtE] [b] pos) (bVal (k2 pLe f f')) := gb_cmp o_le u_le ha hb hm
theorem gb_gt (ha : GE w X a f) (hb : GE w X b f') (hm : behindInMarks .Gt b = false := by rfl) : GB w X (.Compare a [.Gt] [b] pos) (bVal (k2 pGt f f')) := gb_cmp o_gt u_gt ha hb hm
theorem gb_ge (ha : GE w X a f) (hb : GE w X b f') (hm : behindInMarks .GtE b = false := by rfl) : GB w X (.Compare a [.GtE] [b] pos) (bVal (k2 pGe f f')) := gb_cmp o_ge u_ge ha hb hm
theorem gb_in (c : Cok w k X) (ha : GE w X a f) (hb : GE w X b f') (hm : behindInMarks .In b = false := by rfl) : GB w X (.Compare a [.In] [b] pos) (bVal (k2 pIn f f')) :=
  gb_cmp (op_inA c) (u_inN c false fun d e l h => by obtain ⟨b, rfl⟩ := pIn_bool h; exact ⟨b, h, rfl⟩) ha hb hm
theorem gb_notIn (c : Cok w k X) (ha : GE w X a f) (hb : GE w X b f') (hm : behindInMarks .NotIn b = false := by rfl) : GB w X (.Compare a [.NotIn] [b] pos) (bVal (k2 pNotIn f f')) :=
  gb_cmp (op_notInA c) (u_inN c true fun d e l h => by
    unfold pNotIn at h
    obtain ⟨l', h1, h2⟩ := R.bind_eq_ok.mp h
    obtain ⟨b, rfl⟩ := pIn_bool h1
    cases h2
    exact ⟨b, h1, rfl⟩) ha hb hm
theorem gb_isN {j : Nat} (ha : GE w X a f) : GB w X (.Compare a [.Is] [.Constant .none j p2] pos) (bVal (k1 pIsN f)) :=
  pt_imp (pt_cmpR op_isN ha pe_non rfl) fun σ H Q h => tE_1 (r := fun v H1 Q => V.non = .non ∧ Q (.bl (decide (v = .non))) H1) (fun σ H Hf s φ v d l Q g r hp q => by
    cases hp
    rw [r.isN]
    exact ⟨rfl, q.d g (.bl _)⟩) (tB_val h)
theorem gb_notN {j : Nat} (ha : GE w X a f) : GB w X (.Compare a [.IsNot] [.Constant .none j p2] pos) (bVal (k1 pNotN f)) :=
  pt_imp (pt_cmpR op_notN ha pe_non rfl) fun σ H Q h => tE_1 (r := fun v H1 Q => V.non = .non ∧ Q (.bl (!decide (v = .non))) H1) (fun σ H Hf s φ v d l Q g r hp q => by
    cases hp
    rw [r.isN]
    exact ⟨rfl, q.d g (.bl _)⟩) (tB_val h)
theorem gb_isB {j : Nat} {b : Bool} (ha : GE w X a f) : GB w X (.Compare a [.Is] [.Constant (.bool b) j p2] pos) (bVal (k1 (pIsB b) f)) :=
  pt_imp (pt_cmpR op_isBl ha pe_bl rfl) fun σ H Q h => tE_1 (r := fun v H1 Q => rIsB v (.bl b) H1 Q) (fun σ H Hf s φ v d l Q g r hp q => by
    unfold pIsB at hp
    split at hp
    · cases hp
      exact ⟨_, _, r.bool, rfl, q.d g (.bl _)⟩
    · cases hp) (tB_val h)
theorem gb_notB {j : Nat} {b : Bool} (ha : GE w X a f) : GB w X (.Compare a [.IsNot] [.Constant (.bool b) j p2] pos) (bVal (k1 (pNotB b) f)) :=
  pt_imp (pt_cmpR op_notBl ha pe_bl rfl) fun σ H Q h => tE_1 (r := fun v H1 Q => rNotB v (.bl b) H1 Q) (fun σ H Hf s φ v d l Q g r hp q => by
    unfold pNotB at hp
    split at hp
    · cases hp
      exact ⟨_, _, r.bool, rfl, q.d g (.bl _)⟩
    · cases hp) (tB_val h)
end
end KV

set_option Elab.async false
set_option linter.all false
set_option maxRecDepth 100000
set_option maxHeartbeats 4000000
/-! KVT: a comprehension over a list of one's own, which stays one's own. -/
namespace KV
open PySem L2
open PySem.Spec PyProof.Rows
section
variable {w : Wd} {k : Nat} {X : Cx} {pos : Pos} {σ : L2.St} {H Hf : Hp} {s s' : Sl} {φ : Nat → List Addr} {Q : VK}
/-- the list is put aside meanwhile -/
def kCompO (i : Nat) (g : GV) (c : Option BV) (f : EV) (own : List Nat) : EV := fun s => match s[i]? with
  | some (some (.lst xs)) => (compD g c f own xs (s.set i none)).bind fun q => if szOk q.1.length then .ok (.t (.lst q.1), q.2.set i (some (.lst xs))) else .no
  | _ => .no
def tIO (w : Wd) (i : Nat) : TI := fun σ H Rv => ∃ Hf s φ xs, Good w σ H Hf s φ ∧ s[i]? = some (some (.lst xs)) ∧ ∀ a us, σ[i]? = some (some (.ref a)) → H a = some (.lst us) → RpA w.K Hf us xs → a ∈ φ i → Rv (Itl w.K a) H
theorem gi_own (c : Cok w k X) (i : Nat) {tg : Expr} {x : Str} (hN : X.N[i]? = some x := by rfl) (hv : Vis X.env.scope x := by first | exact Or.inl rfl | exact Or.inr (Or.inl rfl) | exact Or.inr (Or.inr rfl)) (hd : (x == ("__debug__" : Str)) = false := by decide)
    (hcd : (x == ("__classdict__" : Str)) = false := by decide) : PI X tg (.Name x pos) (tIO w i) := by
  refine pi_imp (pi_any (pe_var hN hv hd hcd)) fun σ H Rv => ?_
  rintro ⟨Hf, s, φ, xs, gd, hs, q⟩
  obtain ⟨v, e1, r⟩ := gd.here i _ hs
  have key : ∀ F, OR w Hf H v (.lst xs) F → φ i = F → ∃ a us, v = .ref a ∧ H a = some (.lst us) ∧ RpA w.K Hf us xs ∧ a ∈ φ i := fun F r hF => by
    cases r with
    | lst h r => exact ⟨_, _, rfl, h, r, by rw [hF]; exact List.mem_singleton.mpr rfl⟩
  obtain ⟨a, us, rfl, h1, h2, h3⟩ := key _ r rfl
  exact ⟨_, e1, a, us, rfl, .inl ⟨SqL.of h1, by rw [c.K]; exact q a us e1 h1 h2 h3⟩⟩
theorem lc_O {g : GV} {c : Option BV} {f : EV} {vs ts : List Nat} {ds rest : List D} {A a : Addr} {us : List V} {i : Nat} (gd : Good w σ H Hf s φ) (hs : s[i]? = some (some (.lst ds))) (ha : σ[i]? = some (some (.ref a))) (hu : H a = some (.lst us)) (ru : RpA w.K Hf us ds) (hm : a ∈ φ i)
    (hA : H A = none) (ht : ∀ i ∈ ts, i ∈ vs) (e : compD g c f vs ds (s.set i none) = .ok (rest, s')) (hz : rest.length ≤ 16000000) (q : PQ w σ H Hf s φ (s'.set i (some (.lst ds))) (.t (.lst rest)) Q) :
    ∃ W : Nat → Nat → Hp → Prop, (∃ m, W 0 m (upd H A (.lst []))) ∧ ∀ i m H, W i m H → ((Itl w.K a).stop i H ∧ Q (.ref A) H) ∨ ((Itl w.K a).go i H ∧ ∃ Nx : Hp → Prop, (∀ H', Nx H' → ∃ m', m' < m ∧ W (i + 1) m' H') ∧
      ∀ x H', (Itl w.K a).yld i H x H' → tG w g ts x (wipe σ vs) H' fun σ2 H2 => wipe σ2 vs = wipe σ vs ∧ tC w c σ2 H2 fun b H3 => if b = true then tE w f σ2 H3 (fun y H4 => ∃ acc, H4 A = some (.lst acc) ∧ acc.length < sizeLine ∧ Nx (upd H4 A (.lst (acc ++ [y])))) else Nx H3) := by
  obtain ⟨g1, ow1⟩ := gd.clr (i := i)
  have noOwn : ¬ Own (s.set i none) φ a := fun ⟨j, t, e1, m1⟩ => by
    obtain ⟨z1, z2⟩ := clr_at e1
    exact z1 (gd.dj i j _ _ a hs z2 hm m1).symm
  have hfa : Hf a = none := gd.fr i _ a hs hm
  have haA : a ≠ A := fun z => by rw [z, hA] at hu; cases hu
  have kA : Stp H Hf (Own (s.set i none) φ) (upd H A (.lst [])) Hf (fun a => Own (s.set i none) φ a ∨ a ∈ [A]) := Stp.updH hA fun a z => z.imp id fun z => by simpa using z
  have fA : ∀ x, (Own (s.set i none) φ x ∨ x ∈ [A]) → Hf x = none := fun x z => by
    rcases z with z | z
    · exact g1.own_free z
    · rw [List.mem_singleton] at z; subst z; exact g1.hf_none hA
  have at0 : At w σ (upd H A (.lst [])) Hf (fun a => Own (s.set i none) φ a ∨ a ∈ [A]) A [] (upd H A (.lst [])) Hf (s.set i none) φ :=
    ⟨g1.updH hA, .t (.lst upd_same .nil) fun x hx => by rw [List.mem_singleton] at hx; subst hx; exact ⟨g1.hf_none hA, g1.own_ne hA⟩, Stp.refl⟩
  have hold : ∀ {Hc Hfc sc φc das}, At w σ (upd H A (.lst [])) Hf (fun a => Own (s.set i none) φ a ∨ a ∈ [A]) A das Hc Hfc sc φc → Hc a = some (.lst us) ∧ Hfc a = none ∧ ¬ Own sc φc a := fun {Hc Hfc sc φc das} ac => by
    have hua : (upd H A (.lst [])) a = some (.lst us) := by rw [upd_ne haA]; exact hu
    have nP : ¬ (Own (s.set i none) φ a ∨ a ∈ [A]) := fun z => by
      rcases z with z | z
      · exact noOwn z
      · exact haA (List.mem_singleton.mp z)
    have nn : ¬ ((Own sc φc a ∨ a ∈ [A]) ∨ Hfc a ≠ none) := fun z => by
      rcases ac.k.new a z with z | z | z
      · exact nP z
      · exact z hfa
      · rw [hua] at z; cases z
    refine ⟨ac.k.keep a _ hua nP, ?_, fun z => nn (.inl (.inl z))⟩
    cases e1 : Hfc a with
    | none => rfl
    | some o => exact (nn (.inr (by rw [e1]; exact nofun))).elim
  let Inv1 : Nat → Hp → Prop := fun j Hc => ∃ das rest' Hfc sc φc, At w σ (upd H A (.lst [])) Hf (fun a => Own (s.set i none) φ a ∨ a ∈ [A]) A das Hc Hfc sc φc ∧ compD g c f vs (ds.drop j) sc = .ok (rest', s') ∧ das ++ rest' = rest
  refine ⟨fun j m Hc => m = ds.length - j ∧ j ≤ ds.length ∧ Inv1 j Hc, ⟨ds.length, by simp, Nat.zero_le _, [], rest, Hf, s.set i none, φ, at0, e, rfl⟩, ?_⟩
  rintro j m Hc ⟨rfl, hj, das, rest', Hfc, sc, φc, ac, ec, er⟩
  obtain ⟨hc1, hc2, hc3⟩ := hold ac
  by_cases hlt : j < ds.length
  · rw [drop_at hlt] at ec
    obtain ⟨u, hu1, hu2⟩ := ru.get (List.getElem?_eq_getElem hlt)
    refine .inr ⟨⟨us, u, SqL.of hc1, hu1⟩, fun H' => Inv1 (j + 1) H', fun H' n => ⟨ds.length - (j + 1), by omega, rfl, hlt, n⟩, fun x H' y => ?_⟩
    have hz2 : das.length + rest'.length ≤ 16000000 := by rw [← er, List.length_append] at hz; exact hz
    obtain ⟨rfl, y2⟩ := y
    have hx := y2 us (SqL.of hc1)
    rw [hu1] at hx
    cases hx
    have rx : Rp w.K Hfc u ds[j] := hu2.mono ac.k.sub
    obtain ⟨gw, ow⟩ := ac.g.wipe (σ' := wipe σ vs) (vs := vs) (wipe_length _ _) fun i hi => wipe_out hi
    have key := fun σ2 => turn_lc (σ := σ) (σ2 := σ2) (das := das) (A := A) (H0 := upd H A (.lst [])) (Hf0 := Hf) (P0 := fun a => Own (s.set i none) φ a ∨ a ∈ [A]) (Nx := fun H' => Inv1 (j + 1) H') (w := w) ec hz2 fun das' rest'' H3 Hf3 s3 φ3 a3 e3 er3 => ⟨das', rest'', Hf3, s3, φ3, a3, e3, er3.trans er⟩
    obtain ⟨s2, h2, _⟩ := key σ
    refine ⟨Hfc, _, φc, ds[j], s2, gw, rx, h2, fun σ2 φ2 g2 o2 l2 n2 => ?_⟩
    have hw := wipe_eq l2 n2 ht
    refine ⟨hw, ?_⟩
    obtain ⟨s2', h2', h3⟩ := key σ2
    rw [h2] at h2'
    cases h2'
    exact h3 _ Hfc φ2 (ac.step g2 (Stp.refl.weak fun a z => ow a (o2 a z))) hw
  · have : j = ds.length := by omega
    subst this
    rw [List.drop_length] at ec
    cases ec
    rw [List.append_nil] at er
    subst er
    refine .inl ⟨⟨us, SqL.of hc1, by rw [ru.length]; exact Nat.le_refl _⟩, ?_⟩
    obtain ⟨g3, o3⟩ := ac.g.set (v := .ref a) (t := .lst ds) (F := [a]) (i := i) (.lst hc1 (ru.mono ac.k.sub)) (fun x hx => by
      rw [List.mem_singleton] at hx
      subst hx
      exact ⟨hc2, fun j u _ e1 m1 => hc3 ⟨j, u, e1, m1⟩⟩)
    have hset : σ.set i (some (.ref a)) = σ := by
      apply List.ext_getElem?
      intro j
      rw [List.getElem?_set]
      by_cases hj : i = j
      · subst hj
        rw [if_pos rfl, ha, if_pos (List.getElem?_eq_some_iff.mp ha).1]
      · rw [if_neg hj]
    rw [hset] at g3
    have kk := kA.trans ac.k (fun _ => id) fA
    obtain ⟨acc, l1, l2, l3, l4⟩ := ac.lst
    refine q _ Hc Hfc _ [A] g3 (.t (.lst l1 l2) fun x hx => ?_) ⟨kk.sub, fun x o e1 n => kk.keep x o e1 fun z => n (ow1 x z), fun x z => ?_⟩
    · rw [List.mem_singleton] at hx
      subst hx
      refine ⟨l3, fun z => ?_⟩
      rcases o3 _ z with z | z
      · exact l4 z
      · exact haA (List.mem_singleton.mp z).symm
    · have : ((Own s' φc x ∨ x ∈ [A]) ∨ Hfc x ≠ none) ∨ x = a := by
        rcases z with (z | z) | z
        · rcases o3 _ z with z | z
          · exact .inl (.inl (.inl z))
          · exact .inr (List.mem_singleton.mp z)
        · exact .inl (.inl (.inr z))
        · exact .inl (.inr z)
      rcases this with z | rfl
      · rcases kk.new x z with z | z
        · exact .inl (ow1 x z)
        · exact .inr z
      · exact .inl ⟨i, _, hs, hm⟩
theorem tLc_O {i : Nat} {g : GV} {c : Option BV} {f : EV} {vs ts : List Nat} (ht : ∀ i ∈ ts, i ∈ vs) : tE w (kCompO i g c f vs) σ H Q → tLc (tIO w i) (tG w g ts) (tC w c) (tE w f) vs σ H Q := by
  rintro ⟨Hf, s, φ, l, s', gd, e, q⟩
  unfold kCompO at e
  split at e
  · rename_i xs hs
    obtain ⟨⟨rest, s2⟩, h3, h4⟩ := R.bind_eq_ok.mp e
    simp only at h4
    split at h4
    · rename_i hz
      cases h4
      exact ⟨Hf, s, φ, xs, gd, hs, fun a us ha hu ru hm A hA => lc_O gd hs ha hu ru hm hA ht h3 (szOk_le hz) q⟩
    · cases h4
  · cases e
/-- a, b, .. = a list -/
def gTL (gs : List GV) : GV := fun d s => match d with
  | .list ds => gAll gs ds s
  | _ => .no
theorem gg_tl {es : List Expr} {k1 n : Nat} {gs : List GV} {ts : List Nat} (c : Cok w k X) (h : GGs w X es gs ts) (hn : (assignEach es X.env).length = n := by rfl) (hl : gs.length = n := by rfl) (hst : (assignEach es X.env).findIdx? (·.1) = none := by rfl) : GG w X (.Tuple es k1 pos) (gTL gs) ts :=
  pg_imp (pg_lst c.calm h hn hst) fun v σ H Q => by
    rintro ⟨Hf, s, φ, d, s', gd, r, e, q⟩
    cases r with
    | lst hs ra => exact ⟨_, _, rfl, SqL.of (gd.sub _ _ hs), by rw [ra.length, gAll_len e, hl], Hf, s, φ, _, s', gd, ra, e, q⟩
    | non => cases e
    | bl _ => cases e
    | int _ => cases e
    | str _ => cases e
    | tup _ _ => cases e
    | dct _ _ => cases e
section
variable {elt tg iter : Expr} {ifs : List Expr} {scope : Scope} {g : GV} {c0 : Option BV} {f : EV} {ts : List Nat} {iO : Nat}
theorem ge_lcO (own : List (Str × Nat)) (c : Cok w k X) (hi : PI X tg iter (tIO w iO)) (ok : blkC X.N X.env.scope scope own = true)
    (hg : ∀ (s : Shared) (H : Hp) (C : Addr) (cl : List (Str × Addr)) (fp : List Addr), GG w (X.blk s H scope (compEnvC scope cl C X.env) fp) tg g ts) (ht : ∀ (s : Shared) (H : Hp) (C : Addr) (cl : List (Str × Addr)) (fp : List Addr), GC w (X.blk s H scope (compEnvC scope cl C X.env) fp) ifs c0)
    (he : ∀ (s : Shared) (H : Hp) (C : Addr) (cl : List (Str × Addr)) (fp : List Addr), GE w (X.blk s H scope (compEnvC scope cl C X.env) fp) elt f) (hts : ∀ i ∈ ts, i ∈ own.map (·.2) := by decide) (hs : ∀ x, foldedSetIterable iter X.env x = pure x := by intro _; rfl) :
    GE w X (.ListComp elt [⟨tg, iter, ifs, 0⟩] scope pos) (kCompO iO g c0 f (own.map (·.2))) := pe_imp (pe_lc c.calm c.nd hi (blkOk_by ok) hg ht he hs) fun _ _ _ => tLc_O hts
theorem gs_setLcO {io : List Nat} (i : Nat) (own : List (Str × Nat)) {y : Str} {py : Pos} {spos : Pos} (c : Cok w k X) (hi : PI X tg iter (tIO w iO)) (ok : blkC X.N X.env.scope scope own = true)
    (hg : ∀ (s : Shared) (H : Hp) (C : Addr) (cl : List (Str × Addr)) (fp : List Addr), GG w (X.blk s H scope (compEnvC scope cl C X.env) fp) tg g ts) (ht : ∀ (s : Shared) (H : Hp) (C : Addr) (cl : List (Str × Addr)) (fp : List Addr), GC w (X.blk s H scope (compEnvC scope cl C X.env) fp) ifs c0)
    (he : ∀ (s : Shared) (H : Hp) (C : Addr) (cl : List (Str × Addr)) (fp : List Addr), GE w (X.blk s H scope (compEnvC scope cl C X.env) fp) elt f) (hio : i ∉ io := by decide) (hy : X.N[i]? = some y := by rfl) (hyl : X.env.scope.names.lookup y = some .local := by rfl)
    (hsw : swapsWith (.ListComp elt [⟨tg, iter, ifs, 0⟩] scope pos) (some (.Name y py)) spos.line X.env = pure true := by rfl) (hts : ∀ i ∈ ts, i ∈ own.map (·.2) := by decide) (hs : ∀ x, foldedSetIterable iter X.env x = pure x := by intro _; rfl) :
    GS w io X (.Assign [.Name y py] (.ListComp elt [⟨tg, iter, ifs, 0⟩] scope pos) spos) (sSet i (kCompO iO g c0 f (own.map (·.2)))) :=
  ps_setLcI hio c.calm c.nd hy hyl hsw hi (blkOk_by ok) hg ht he hs fun _ _ _ => tLc_O hts
end
end
end KV
/-! ### texts alone, == and != -/
namespace KV
open PySem L2
open PySem.Spec PyProof.Rows
def pEqS : D → D → R L
  | .str a, .str b => bl (decide (a = b))
  | _, _ => .no
def pNeS : D → D → R L
  | .str a, .str b => bl (!decide (a = b))
  | _, _ => .no
section
variable {w : Wd} {k : Nat} {X : Cx} {pos : Pos} {a b : Expr} {f f' : EV}
theorem dec_strV {x y : Str} : decide (V.str x = V.str y) = decide (x = y) := by
  by_cases h : x = y
  · subst h; simp
  · rw [decide_eq_false h, decide_eq_false (fun z => h (V.str.inj z))]
theorem u_eqS : U2 w rEq pEqS := by
  intro σ H Hf s φ v u d e l Q g r1 r2 hp q
  unfold pEqS at hp
  split at hp
  · cases hp
    rw [r1.str, r2.str]
    exact ⟨rfl, by rw [dec_strV]; exact q.d g (.bl _)⟩
  · cases hp
theorem u_neS : U2 w rNe pNeS := by
  intro σ H Hf s φ v u d e l Q g r1 r2 hp q
  unfold pNeS at hp
  split at hp
  · cases hp
    rw [r1.str, r2.str]
    exact ⟨rfl, by rw [dec_strV]; exact q.d g (.bl _)⟩
  · cases hp
theorem ge_eqS (ha : GE w X a f) (hb : GE w X b f') (hm : behindInMarks .Eq b = false := by rfl) : GE w X (.Compare a [.Eq] [b] pos) (k2 pEqS f f') := ge_cmp op_eq u_eqS ha hb hm
theorem ge_neS (ha : GE w X a f) (hb : GE w X b f') (hm : behindInMarks .NotEq b = false := by rfl) : GE w X (.Compare a [.NotEq] [b] pos) (k2 pNeS f f') := ge_cmp op_ne u_neS ha hb hm
theorem gb_eqS (ha : GE w X a f) (hb : GE w X b f') (hm : behindInMarks .Eq b = false := by rfl) : GB w X (.Compare a [.Eq] [b] pos) (bVal (k2 pEqS f f')) := gb_cmp op_eq u_eqS ha hb hm
theorem gb_neS (ha : GE w X a f) (hb : GE w X b f') (hm : behindInMarks .NotEq b = false := by rfl) : GB w X (.Compare a [.NotEq] [b] pos) (bVal (k2 pNeS f f')) := gb_cmp op_ne u_neS ha hb hm
end
end KV

set_option Elab.async false
set_option linter.all false
set_option maxRecDepth 100000
set_option maxHeartbeats 4000000
/-! KVU: dict(zip(a, b)) of two tuples. -/
namespace KV
open PySem L2
open PySem.Spec PyProof.Rows
section
variable {prog : Program} {w : World} {A : Around} {E : Value → Shared → Prop} {s : Shared} {z TI TO T i1 i2 l1 l2 : Addr} {f : Bool} {oT : Obj} {n1 n2 : Nat} {us vs : Array Value}
theorem dz_item {x y : Value} {Q : Value → Shared → Prop} (D : ZipApart z TI TO i1 i2 l1 l2) (gz : IsZipHeld s.heap z TI TO T f) (gT : s.heap.get? T = some oT) (gI : IsPair s.heap TI (.ref i1) (.ref i2))
    (ga : s.heap.IsTupleIter i1 l1 n1) (gb : s.heap.IsTupleIter i2 l2 n2) (gl : s.heap.IsTuple l1 us) (gm : s.heap.IsTuple l2 vs) (ex : us[n1]? = some x) (ey : vs[n2]? = some y)
    (q : ∀ h', IsZipHeld h' z TI TO T true → h'.IsTupleIter i1 l1 (n1 + 1) → h'.IsTupleIter i2 l2 (n2 + 1) → IsPair h' s.heap.objs.size x y → (∀ c o, c ≠ z → c ≠ i1 → c ≠ i2 → s.heap.get? c = some o → h'.get? c = some o) → Q (.ref s.heap.objs.size) { s with heap := h' }) :
    wpAny (model prog w) A (Builtin.«zip.__next__» ⟨[.ref z], []⟩) (fun fin t => ∃ v, fin = .done (.ret v) ∧ Q v t) E s := by
  show wpAny _ _ (field (.ref z) 2 >>= _) _ _ _; refine wpAny_bind (wpAny_field gz rfl (x := .bool false) rfl ?_)
  show wpAny _ _ (field (.ref z) 3 >>= _) _ _ _; refine wpAny_bind (wpAny_field gz rfl (x := .ref TI) rfl (wpAny_bind (wpAny_seqItems gI rfl ?_)))
  show wpAny _ _ (Builtin.SmallTypes.ownedTupleIsFree (.ref z) >>= _) _ _ _; refine wpAny_bind (wpAny_tupleHeld_zip gz gT fun g1 z1 b1 => ?_)
  simp only [Bool.false_eq_true, if_false]; refine wpAny_bind ?_; rw [← Array.forIn_toList]; simp only [List.forIn_cons, List.forIn_nil]
  refine wpAny_bind (wpAny_bind (wpAny_holding ?_)); show wpAny _ _ (Builtin.SmallTypes.nextOf (.ref i1) >>= _) _ _ _
  refine wpAny_bind (RZ.nextOf_tuple_item (s := { s with heap := g1 }) (ga.extBut b1.extBut D.i1z) (gl.extBut b1.extBut D.l1z) ex fun g2 a2 b2 => wpAny_pure (wpAny_pure ?_))
  refine wpAny_bind (wpAny_bind (wpAny_holding ?_)); show wpAny _ _ (Builtin.SmallTypes.nextOf (.ref i2) >>= _) _ _ _
  refine wpAny_bind (RZ.nextOf_tuple_item (s := { s with heap := g2 }) ((gb.extBut b1.extBut D.i2z).extBut b2.extBut D.i12.symm) ((gm.extBut b1.extBut D.l2z).extBut b2.extBut D.l2i1) ey fun g3 a3 b3 => wpAny_pure (wpAny_pure (wpAny_pure ?_)))
  show wpAny _ _ (newTuple [x, y] >>= _) _ _ _; refine wpAny_bind (wpAny_newTuple ?_)
  have hs : g3.objs.size = s.heap.objs.size := by rw [b3.1, b2.1, b1.1]
  have z3 : IsZipHeld g3 z TI TO T true := b3.extBut _ _ D.i2z.symm (b2.extBut _ _ D.i1z.symm z1)
  have old : ∀ c o, c ≠ z → c ≠ i1 → c ≠ i2 → s.heap.get? c = some o → g3.get? c = some o := fun c o e1 e2 e3 e => b3.extBut _ _ e3 (b2.extBut _ _ e2 (b1.extBut _ _ e1 e))
  have a23 : g3.IsTupleIter i1 l1 (n1 + 1) := a2.extBut b3.extBut D.i12
  refine wpAny_pure ⟨_, rfl, ?_⟩; show Q (.ref g3.objs.size) _
  have pr : IsPair (g3.push { cls := .type "tuple", data := .seq #[x, y] }) g3.objs.size x y := Heap.get?_push_size _ rfl
  rw [hs] at pr ⊢
  exact q _ (Heap.get?_push_of_some _ z3) (a23.at fun o e => Heap.get?_push_of_some _ e) (a3.at fun o e => Heap.get?_push_of_some _ e) pr fun c o e1 e2 e3 e => Heap.get?_push_of_some _ (old c o e1 e2 e3 e)
theorem dz_end {Q : Fin → Shared → Prop} (hh : A.handled = none) (D : ZipApart z TI TO i1 i2 l1 l2) (gz : IsZipHeld s.heap z TI TO T f) (gT : s.heap.get? T = some oT) (gI : IsPair s.heap TI (.ref i1) (.ref i2))
    (ga : s.heap.IsTupleIter i1 l1 n1) (gb : s.heap.IsTupleIter i2 l2 n2) (gl : s.heap.IsTuple l1 us) (gm : s.heap.IsTuple l2 vs) (none_ : us[n1]? = none ∨ vs[n2]? = none)
    (q : ∀ h' e, (∀ c o, c ≠ z → c ≠ i1 → c ≠ i2 → s.heap.get? c = some o → h'.get? c = some o) → (∃ o, h'.get? e = some o ∧ o.cls = .type "StopIteration") → E (.ref e) { s with heap := h' }) :
    wpAny (model prog w) A (Builtin.«zip.__next__» ⟨[.ref z], []⟩) Q E s := by
  show wpAny _ _ (field (.ref z) 2 >>= _) _ _ _; refine wpAny_bind (wpAny_field gz rfl (x := .bool false) rfl ?_)
  show wpAny _ _ (field (.ref z) 3 >>= _) _ _ _; refine wpAny_bind (wpAny_field gz rfl (x := .ref TI) rfl (wpAny_bind (wpAny_seqItems gI rfl ?_)))
  show wpAny _ _ (Builtin.SmallTypes.ownedTupleIsFree (.ref z) >>= _) _ _ _; refine wpAny_bind (wpAny_tupleHeld_zip gz gT fun g1 z1 b1 => ?_)
  simp only [Bool.false_eq_true, if_false]; refine wpAny_bind ?_; rw [← Array.forIn_toList]; simp only [List.forIn_cons, List.forIn_nil]
  refine wpAny_bind (wpAny_bind (wpAny_holding ?_)); show wpAny _ _ (Builtin.SmallTypes.nextOf (.ref i1) >>= _) _ _ _
  cases ex : us[n1]? with
  | none => exact wpAny_bind (RZ.nextOf_tuple_end (s := { s with heap := g1 }) hh (ga.extBut b1.extBut D.i1z) (gl.extBut b1.extBut D.l1z) ex fun g2 e b2 o => q g2 e (fun c o e1 e2 _ x => b2 _ _ e2 (b1.extBut _ _ e1 x)) o)
  | some x =>
    have ey : vs[n2]? = none := none_.resolve_left (by rw [ex]; exact fun z => nomatch z)
    refine wpAny_bind (RZ.nextOf_tuple_item (s := { s with heap := g1 }) (ga.extBut b1.extBut D.i1z) (gl.extBut b1.extBut D.l1z) ex fun g2 a2 b2 => wpAny_pure (wpAny_pure ?_))
    refine wpAny_bind (wpAny_bind (wpAny_holding ?_)); show wpAny _ _ (Builtin.SmallTypes.nextOf (.ref i2) >>= _) _ _ _
    exact wpAny_bind (RZ.nextOf_tuple_end (s := { s with heap := g2 }) hh ((gb.extBut b1.extBut D.i2z).extBut b2.extBut D.i12.symm) ((gm.extBut b1.extBut D.l2z).extBut b2.extBut D.l2i1) ey fun g3 e b3 o => q g3 e (fun c o e1 e2 e3 x => b3 _ _ e3 (b2.extBut _ _ e2 (b1.extBut _ _ e1 x))) o)
theorem dz_next {x y : Value} {Q : Option Value → Shared → Prop} (D : ZipApart z TI TO i1 i2 l1 l2) (gz : IsZipHeld s.heap z TI TO T f) (gT : s.heap.get? T = some oT) (gI : IsPair s.heap TI (.ref i1) (.ref i2))
    (ga : s.heap.IsTupleIter i1 l1 n1) (gb : s.heap.IsTupleIter i2 l2 n2) (gl : s.heap.IsTuple l1 us) (gm : s.heap.IsTuple l2 vs) (ex : us[n1]? = some x) (ey : vs[n2]? = some y)
    (q : ∀ h', IsZipHeld h' z TI TO T true → h'.IsTupleIter i1 l1 (n1 + 1) → h'.IsTupleIter i2 l2 (n2 + 1) → IsPair h' s.heap.objs.size x y → (∀ c o, c ≠ z → c ≠ i1 → c ≠ i2 → s.heap.get? c = some o → h'.get? c = some o) → Q (some (.ref s.heap.objs.size)) { s with heap := h' }) :
    wpAny (model prog w) A (pyNext (.ref z)) Q E s := by
  have ty : s.TypeIs (.ref z) "zip" := ⟨_, gz, rfl⟩
  unfold pyNext
  exact wpAny_bind (wpAny_attempt (wpAny_callSpecial?_slot (name := Str.ofString "__next__") ty PySem.F.slot_zip_next (wpAny_call_entry PySem.F.slot_zip_next ty PySem.F.entry_zip_next (dz_item D gz gT gI ga gb gl gm ex ey fun h' a1 a2 a3 a4 a5 => wpAny_pure (q h' a1 a2 a3 a4 a5)) (PySem.F.args_zip_next_1 _))))
theorem dz_stop {Q : Option Value → Shared → Prop} (hh : A.handled = none) (D : ZipApart z TI TO i1 i2 l1 l2) (gz : IsZipHeld s.heap z TI TO T f) (gT : s.heap.get? T = some oT) (gI : IsPair s.heap TI (.ref i1) (.ref i2))
    (ga : s.heap.IsTupleIter i1 l1 n1) (gb : s.heap.IsTupleIter i2 l2 n2) (gl : s.heap.IsTuple l1 us) (gm : s.heap.IsTuple l2 vs) (none_ : us[n1]? = none ∨ vs[n2]? = none)
    (q : ∀ h', (∀ c o, c ≠ z → c ≠ i1 → c ≠ i2 → s.heap.get? c = some o → h'.get? c = some o) → Q none { s with heap := h' }) : wpAny (model prog w) A (pyNext (.ref z)) Q E s := by
  have ty : s.TypeIs (.ref z) "zip" := ⟨_, gz, rfl⟩
  unfold pyNext
  refine wpAny_bind (wpAny_attempt (wpAny_callSpecial?_slot (name := Str.ofString "__next__") ty PySem.F.slot_zip_next (wpAny_call_entry PySem.F.slot_zip_next ty PySem.F.entry_zip_next (dz_end hh D gz gT gI ga gb gl gm none_ fun h' e k o => ?_) (PySem.F.args_zip_next_1 _))))
  obtain ⟨o, ho, hc⟩ := o
  exact wpAny_bind (wpAny_isInstance (T := "StopIteration") (b := true) ⟨o, ho, hc⟩ isSubtype_stop (wpAny_pure (q _ k)))
/-- where the zip stands behind i pairs, while a dict is filled at d -/
def dzAt (z TI TO i1 i2 l1 l2 d : Addr) (us vs : Array Value) (i : Nat) (h : Heap) : Prop :=
  IsPair h TI (.ref i1) (.ref i2) ∧ h.IsTupleIter i1 l1 i ∧ h.IsTupleIter i2 l2 i ∧ h.IsTuple l1 us ∧ h.IsTuple l2 vs ∧
    ((IsZip h z TI TO .none ∧ ∃ a b, IsPair h TO a b) ∨ ∃ T f oT, IsZipHeld h z TI TO T f ∧ h.get? T = some oT ∧ T ≠ z ∧ T ≠ i1 ∧ T ≠ i2 ∧ T ≠ d)
def dzOk (z TI TO i1 i2 l1 l2 : Addr) (us vs : Array Value) (h : Heap) : Prop :=
  IsZip h z TI TO .none ∧ IsPair h TI (.ref i1) (.ref i2) ∧ (∃ a b, IsPair h TO a b) ∧ h.IsTupleIter i1 l1 0 ∧ h.IsTupleIter i2 l2 0 ∧ h.IsTuple l1 us ∧ h.IsTuple l2 vs
theorem dz_src (hA : A.handled = none) (D : ZipApart z TI TO i1 i2 l1 l2) {d : Addr} (off : d ∉ [z, TI, TO, i1, i2, l1, l2]) : PairSrc prog w A z d [z, TO, i1, i2] (min us.size vs.size) (fun i k v => us[i]? = some k ∧ vs[i]? = some v) (dzAt z TI TO i1 i2 l1 l2 d us vs) := by
  simp only [List.mem_cons, List.not_mem_nil, or_false, not_or] at off
  obtain ⟨dz, dI, dO, d1, d2, e1, e2⟩ := off
  refine ⟨by simp only [List.mem_cons, List.not_mem_nil, or_false, not_or]; exact ⟨dz, dO, d1, d2⟩, fun i h h' st k => ?_, fun i s Q E hi st hd q => ?_, fun s Q E st q => ?_⟩
  · obtain ⟨gI, ga, gb, gl, gm, gz⟩ := st
    refine ⟨k _ _ (Ne.symm dI) gI, ga.at fun o e => k _ o (Ne.symm d1) e, gb.at fun o e => k _ o (Ne.symm d2) e, gl.at fun o e => k _ o (Ne.symm e1) e, gm.at fun o e => k _ o (Ne.symm e2) e, ?_⟩
    rcases gz with ⟨gz, a, b, gO⟩ | ⟨T, f, oT, gz, gT, r1, r2, r3, r4⟩
    · exact .inl ⟨k _ _ (Ne.symm dz) gz, a, b, k _ _ (Ne.symm dO) gO⟩
    · exact .inr ⟨T, f, oT, k _ _ (Ne.symm dz) gz, k _ _ r4 gT, r1, r2, r3, r4⟩
  · obtain ⟨gI, ga, gb, gl, gm, gz⟩ := st
    have ex := Array.getElem?_eq_getElem (Nat.lt_of_lt_of_le hi (Nat.min_le_left us.size vs.size))
    have ey := Array.getElem?_eq_getElem (Nat.lt_of_lt_of_le hi (Nat.min_le_right us.size vs.size))
    have new : ∀ {c o}, s.heap.get? c = some o → s.heap.objs.size ≠ c := fun e => Nat.ne_of_gt (Heap.lt_size e)
    have m1 : s.heap.objs.size ≠ i1 := let ⟨_, e, _⟩ := ga; new e
    have m2 : s.heap.objs.size ≠ i2 := let ⟨_, e, _⟩ := gb; new e
    rcases gz with ⟨gz, a, b, gO⟩ | ⟨T, f, oT, gz, gT, r1, r2, r3, r4⟩
    · refine RZ.pyNext_zipT_item D gz gI gO ga gb gl gm ex ey fun h' a1 a2 a3 a4 a5 a6 k => ?_
      refine q s.heap.objs.size _ _ h' s.toks ⟨ex, ey⟩ (.inl ⟨_, a5, rfl, _, rfl⟩) ⟨k _ _ D.TIz D.TITO D.TIi1 D.TIi2 gI, a3, a4, gl.at fun o e => k _ o D.l1z D.l1TO D.l1i1 D.l1i2 e, gm.at fun o e => k _ o D.l2z D.l2TO D.l2i1 D.l2i2 e, .inr ⟨s.heap.objs.size, false, _, a1, a5, new gz, m1, m2, Nat.ne_of_gt hd⟩⟩ fun c o hc e => ?_
      exact k c o (fun y => hc (by rw [y]; simp)) (fun y => hc (by rw [y]; simp)) (fun y => hc (by rw [y]; simp)) (fun y => hc (by rw [y]; simp)) e
    · refine dz_next D gz gT gI ga gb gl gm ex ey fun h' a1 a3 a4 a5 k => ?_
      refine q s.heap.objs.size _ _ h' s.toks ⟨ex, ey⟩ (.inl ⟨_, a5, rfl, _, rfl⟩) ⟨k _ _ D.TIz D.TIi1 D.TIi2 gI, a3, a4, gl.at fun o e => k _ o D.l1z D.l1i1 D.l1i2 e, gm.at fun o e => k _ o D.l2z D.l2i1 D.l2i2 e, .inr ⟨T, true, oT, a1, k _ _ r1 r2 r3 gT, r1, r2, r3, r4⟩⟩ fun c o hc e => ?_
      exact k c o (fun y => hc (by rw [y]; simp)) (fun y => hc (by rw [y]; simp)) (fun y => hc (by rw [y]; simp)) e
  · obtain ⟨gI, ga, gb, gl, gm, gz⟩ := st
    have none_ : us[min us.size vs.size]? = none ∨ vs[min us.size vs.size]? = none := (Nat.le_total us.size vs.size).imp (fun h => Array.getElem?_eq_none (by omega)) fun h => Array.getElem?_eq_none (by omega)
    rcases gz with ⟨gz, a, b, gO⟩ | ⟨T, f, oT, gz, gT, r1, r2, r3, r4⟩
    · exact RZ.pyNext_zipT_end hA D gz gI gO ga gb gl gm none_ fun h' k => q h' s.toks fun c o hc e => k c o (fun y => hc (by rw [y]; simp)) (fun y => hc (by rw [y]; simp)) (fun y => hc (by rw [y]; simp)) (fun y => hc (by rw [y]; simp)) e
    · exact dz_stop hA D gz gT gI ga gb gl gm none_ fun h' k => q h' s.toks fun c o hc e => k c o (fun y => hc (by rw [y]; simp)) (fun y => hc (by rw [y]; simp)) (fun y => hc (by rw [y]; simp)) e
theorem dz_arg (D : ZipApart z TI TO i1 i2 l1 l2) : PairArg prog w "zip" z [z, TI, TO, i1, i2, l1, l2] [z, TO, i1, i2] (min us.size vs.size) (fun i k v => us[i]? = some k ∧ vs[i]? = some v) (dzOk z TI TO i1 i2 l1 l2 us vs) where
  type := fun s ok => ⟨_, ok.1, rfl⟩
  notDict := by decide
  keep := fun h h' ⟨gz, gI, ⟨a, b, gO⟩, ga, gb, gl, gm⟩ k => ⟨k _ _ gz, k _ _ gI, ⟨a, b, k _ _ gO⟩, ga.at fun o e => k _ o e, gb.at fun o e => k _ o e, gl.at fun o e => k _ o e, gm.at fun o e => k _ o e⟩
  there := fun h ⟨gz, gI, ⟨a, c, gO⟩, ⟨o1, ga, _⟩, ⟨o2, gb, _⟩, ⟨o3, gl, _⟩, ⟨o4, gm, _⟩⟩ b hb => by
    simp only [List.mem_cons, List.not_mem_nil, or_false] at hb
    rcases hb with rfl | rfl | rfl | rfl | rfl | rfl | rfl
    · exact ⟨_, gz⟩
    · exact ⟨_, gI⟩
    · exact ⟨_, gO⟩
    · exact ⟨_, ga⟩
    · exact ⟨_, gb⟩
    · exact ⟨_, gl⟩
    · exact ⟨_, gm⟩
  sub := fun b hb => by
    simp only [List.mem_cons, List.not_mem_nil, or_false] at hb ⊢
    rcases hb with rfl | rfl | rfl | rfl <;> simp
  noKeys := fun A s Q E hA ok h => getAttrOr_miss_zip ok.1 rfl rfl rfl zip_no_keys (by decide +kernel) hA h
  iter := fun A s d Q E hA ⟨gz, gI, gO, ga, gb, gl, gm⟩ hd off h => wpAny_pyIter_zip gz (h z [z, TO, i1, i2] _ s.heap s.toks (dz_src hA D off) ⟨gI, ga, gb, gl, gm, .inl ⟨gz, gO⟩⟩ (fun _ _ e => e) fun b hb => .inl hb)
end
/-! ### the expression -/
def kDictZip (f g : EV) : EV := fun s => (kD f s).bind fun r => (kD g r.2).bind fun q => match r.1, q.1 with
  | .tuple xs, .tuple ys => if xs.all (fun x => (keyOf x).isSome) then .ok (.t (.dct (mergeD [] (xs.zip ys))), q.2) else .no
  | _, _ => .no
def tDz (K : PySem.W.Frag) (ta : TA) : TE := fun σ H Q => ta σ H fun vs H1 => ∃ (a b : Addr) (ks : List Key) (ys : List V), vs = [.ref a, .ref b] ∧ SqT K H1 a (ks.map kV) ∧ SqT K H1 b ys ∧ ∀ p, H1 p = none → Q (.ref p) (upd H1 p (.dK (mergeK [] (ks.zip ys))))
theorem zip_kv : ∀ (ks : List Key) {ys : List V} {us : List Value}, Vals ys us → L2.KV (ks.zip ys) (ks.zip us)
  | [], _, _, _ => .nil
  | _ :: _, _, _, .nil => .nil
  | _ :: ks, _, _, .cons r t => .cons ⟨rfl, r⟩ (zip_kv ks t)
section
variable {w : Wd} {k : Nat} {X : Cx} {pos : Pos} {σ : L2.St} {H Hf : Hp} {s s' : Sl} {φ : Nat → List Addr} {Q : VK}
theorem pe_dz {e e2 : Expr} {ta : TA} {p p2 pos2 : Pos} (hcalm : X.calm = true) (hg : Gl X "dict") (hm : X.mg "dict" = none) (hg2 : Gl X "zip") (hm2 : X.mg "zip" = none) (ha : PA X [e, e2] ta)
    (hs : starEach [e, e2] X.env = (false, eval e X.env) :: starEach [e2] X.env) (hpl : (backTo pos2 (starEach [e2] X.env)).any (·.1) = false)
    (hs2 : starEach [.Call (.Name "zip" p2) [e, e2] [] pos2] X.env = (false, eval (.Call (.Name "zip" p2) [e, e2] [] pos2) X.env) :: starEach [] X.env) :
    PE X (.Call (.Name "dict" p) [.Call (.Name "zip" p2) [e, e2] [] pos2] [] pos) (tDz X.K ta) := by
  refine ⟨fun pins s σ H Q I h => ?_⟩
  refine Call_ (ld_blt I hg hm boot_dict (PyProof.Rows.callWith_type1 (args_cons (Call_ (ld_blt I hg2 hm2 PyProof.Rows.boot_zip (PyProof.Rows.callWith_type1 (thn (ha.run pos2 pins s σ H _ I h) fun us s1 ⟨vs, H1, I1, r1, q1⟩ => ?_) hs hpl))) hs2) hs2 rfl))
  obtain ⟨a, b, ks, ys, ex, hx, hy, q⟩ := q1
  subst ex
  cases r1 with
  | cons r rr =>
    cases rr with
    | cons r' rr =>
      cases rr
      cases r
      cases r'
      obtain ⟨it1, v1, t1, z1⟩ := I1.tuple hx
      obtain ⟨it2, v2, t2, z2⟩ := I1.tuple hy
      obtain ⟨o1, e1, _⟩ := id t1
      obtain ⟨o2, e2', _⟩ := id t2
      have l1 : it1.length = ks.length := by rw [← v1.length, List.length_map]
      have l2 : it2.length = ys.length := v2.length.symm
      refine RZ.call_zipT (show s1.heap.IsTuple a it1.toArray from t1) (show s1.heap.IsTuple b it2.toArray from t2) fun h' gz gI gO ga gb hsz hk => args_nil ?_
      have D := PySem.W.ktu_apart s1.heap.objs.size a b (Heap.lt_size e1) (Heap.lt_size e2')
      refine PySem.call_dict_pairs (s := { s1 with heap := h' }) (knd := mixKind X.prog X.w) (kvs := ks.zip it2) (dz_arg (us := it1.toArray) (vs := it2.toArray) D) (I1.ok.hd hcalm)
        ⟨gz, gI, ⟨_, _, gO⟩, ga, gb, (show s1.heap.IsTuple a it1.toArray from t1).at fun o e => hk _ o e, (show s1.heap.IsTuple b it2.toArray from t2).at fun o e => hk _ o e⟩ ⟨?_, fun i key v h => ?_⟩ ?_ fun g' tk hd' kp => ?_
      · rw [List.length_zip, List.size_toArray, List.size_toArray, l1]
      · obtain ⟨h1, h2⟩ := h
        have h1' : it1[i]? = some key := by simpa using h1
        have h2' : it2[i]? = some v := by simpa using h2
        have hi : i < ks.length := by rw [← l1]; exact (List.getElem?_eq_some_iff.mp h1').1
        obtain ⟨u, hu, ru⟩ := v1.get (show (ks.map kV)[i]? = some (kV ks[i]) by rw [List.getElem?_map, List.getElem?_eq_getElem hi]; rfl)
        rw [h1'] at hu
        cases hu
        exact ⟨ks[i], by rw [List.getElem?_zip_eq_some]; exact ⟨List.getElem?_eq_getElem hi, h2'⟩, kV_is (P := X.prog) (w := X.w) ru⟩
      · rw [List.size_toArray, List.size_toArray]
        exact Nat.le_trans (Nat.min_le_left _ _) (by rw [← v1.length]; exact z1)
      · have old : ∀ c o, s1.heap.get? c = some o → g'.get? c = some o := fun c o e => by
          have hc := Heap.lt_size e
          refine kp c o (fun hm => ?_) (hk c o e)
          simp only [List.mem_cons, List.not_mem_nil, or_false] at hm
          rcases hm with z | z | z | z
          · exact absurd hc (by rw [z]; exact Nat.not_lt.mpr (Nat.le_add_right _ _))
          · exact absurd hc (by rw [z]; exact Nat.not_lt.mpr (Nat.le_add_right _ _))
          · exact absurd hc (by rw [z]; exact Nat.lt_irrefl _)
          · exact absurd hc (by rw [z]; exact Nat.not_lt.mpr (Nat.le_add_right _ _))
        have hbig : (h'.objs.size == sysModules) = false := beq_eq_false_iff_ne.mpr (Nat.ne_of_gt (Nat.lt_of_lt_of_le I1.big (by rw [hsz]; exact Nat.le_add_right _ _)))
        have hlen : (mergeK [] (ks.zip ys)).length ≤ sizeLine := by
          refine Nat.le_trans (length_mergeK _ []) ?_
          rw [List.length_nil, Nat.zero_add, List.length_zip, ← l1]
          exact Nat.le_trans (Nat.min_le_left _ _) (by rw [← v1.length]; exact z1)
        exact ⟨.ref h'.objs.size, upd H1 h'.objs.size (.dK (mergeK [] (ks.zip ys))), I1.laid (t' := tk) old (by rw [hsz]; exact Nat.le_add_right _ _) (show ObjOk X.prog X.w _ _ _ (.dK (mergeK [] (ks.zip ys))) from ⟨hlen, hbig, merged [] (ks.zip it2), L2.KV.merge (zip_kv ks v2) .nil, hd'⟩), rfl, q _ (I1.hok.fresh (by rw [hsz]; exact Nat.le_add_right _ _))⟩
theorem keys_rp {K : PySem.W.Frag} : ∀ {vs : List V} {xs : List D}, RpA K Hf vs xs → xs.all (fun x => (keyOf x).isSome) = true → ∃ ks : List Key, vs = ks.map kV ∧ xs = ks.map keyD
  | _, _, .nil, _ => ⟨[], rfl, rfl⟩
  | _, _, .cons r t, h => by
    rw [List.all_cons, Bool.and_eq_true] at h
    obtain ⟨ks, rfl, rfl⟩ := keys_rp t h.2
    obtain ⟨ky, hk⟩ := Option.isSome_iff_exists.mp h.1
    have e := keyOf_some hk
    subst e
    have ev := (Rw.st (H := Hf) r).key
    subst ev
    exact ⟨ky :: ks, rfl, rfl⟩
theorem zip_rp {K : PySem.W.Frag} : ∀ (ks : List Key) {us : List V} {ys : List D}, RpA K Hf us ys → RpKv K Hf (ks.zip us) ((ks.map keyD).zip ys)
  | [], _, _, _ => .nil
  | _ :: _, _, _, .nil => .nil
  | _ :: ks, _, _, .cons r t => .cons r (zip_rp ks t)
theorem ge_dictZip (hm : X.mg "dict" = none) (hm2 : X.mg "zip" = none) (c : Cok w k X) {e e2 : Expr} {f f' : EV} {p p2 pos2 : Pos} (he : GE w X e f) (he2 : GE w X e2 f') (hg : Gl X "dict" := by rfl) (hg2 : Gl X "zip" := by rfl)
    (hs : starEach [e, e2] X.env = (false, eval e X.env) :: starEach [e2] X.env := by rfl) (hs2 : starEach [e2] X.env = (false, eval e2 X.env) :: starEach [] X.env := by rfl) (hpl : (backTo pos2 (starEach [e2] X.env)).any (·.1) = false := by rfl)
    (hs3 : starEach [.Call (.Name "zip" p2) [e, e2] [] pos2] X.env = (false, eval (.Call (.Name "zip" p2) [e, e2] [] pos2) X.env) :: starEach [] X.env := by rfl) :
    GE w X (.Call (.Name "dict" p) [.Call (.Name "zip" p2) [e, e2] [] pos2] [] pos) (kDictZip f f') := by
  refine pe_imp (pe_dz c.calm hg hm hg2 hm2 (pa_cons he (pa_cons he2 pa_nil hs2) hs) hs hpl hs3) fun σ H Q => ?_
  rintro ⟨Hf, s, φ, l, s', gd, e, q⟩
  obtain ⟨⟨d, s1⟩, h1, h2⟩ := R.bind_eq_ok.mp e
  obtain ⟨⟨d2, s2⟩, h3, h4⟩ := R.bind_eq_ok.mp h2
  refine tE_D gd h1 fun v H1 Hf1 φ1 g1 r1 k1 => tE_D g1 h3 fun v2 H2 Hf2 φ2 g2 r2 k2 => ?_
  have k12 := k1.trans k2 (fun _ => id) fun x hx => g1.own_free hx
  have r1' := r1.mono k2.sub
  simp only at h4
  split at h4
  · split at h4
    · rename_i hall
      cases h4
      cases r1' with
      | tup h r =>
        cases r2 with
        | tup h' r' =>
          obtain ⟨ks, rfl, rfl⟩ := keys_rp r hall
          exact ⟨_, _, ks, _, rfl, by rw [c.K]; exact (g2.sub.stup h).sq, by rw [c.K]; exact (g2.sub.stup h').sq, fun p hp => (q.later k12 (fun _ => id) g2).dct g2 (merge_rp (zip_rp ks r') .nil) hp⟩
    · cases h4
  · cases h4
end
end KV

set_option Elab.async false
set_option linter.all false
set_option maxRecDepth 100000
set_option maxHeartbeats 4000000
/-! KVW: range(a, b, -1); xs.count(x); a tuple of texts that a module holds. -/
namespace KV
open PySem L2
open PySem.Spec PyProof.Rows
section
variable {w : Wd} {k : Nat} {X : Cx} {pos : Pos} {σ : L2.St} {H Hf : Hp} {s s' : Sl} {φ : Nat → List Addr} {Q : VK}
/-! ### range downwards -/
def intDn (lo : Int) (n : Nat) : List D := (List.range n).map fun i => .int (lo + (i : Nat) * (-1))
def iRgD (f g : EV) : IV := fun s => (kD f s).bind fun r => (kD g r.2).bind fun q => match r.1, q.1 with
  | .int a, .int b => if (-16000000 ≤ a ∧ a ≤ 16000000) ∧ (-16000000 ≤ b ∧ b ≤ 16000000) then .ok (intDn a (a - b).toNat, q.2) else .no
  | _, _ => .no
theorem intDn_len {lo : Int} {n : Nat} : (intDn lo n).length = n := by simp [intDn]
theorem wk_rngD {lo : Int} {n : Nat} : Wk w (Itc lo (-1) n) (intDn lo n) Hf := by
  refine ⟨fun i H Hf2 s1 s2 hi => by rw [intDn_len] at hi; exact hi, fun H Hf2 s1 s2 => by rw [intDn_len]; exact Nat.le_refl _, fun i H Hf2 x H' d s1 s2 hd y => ?_⟩
  simp only [intDn, List.getElem?_map, List.getElem?_range, Option.map_eq_some_iff] at hd
  obtain ⟨j, h1, rfl⟩ := hd
  obtain ⟨h3, h4⟩ := List.getElem?_eq_some_iff.mp h1
  simp at h3 h4
  subst h4
  obtain ⟨rfl, rfl⟩ := y
  exact ⟨rfl, .int _⟩
theorem gi_rgD {tg a b : Expr} {p p3 : Pos} {f f' : EV} (c : Cok w k X) (hm : X.mg "range" = none) (ha : GE w X a f) (hb : GE w X b f') {e3 : Expr} (h3 : GE w X e3 (k1 pNeg (kC (.int 1)))) (hg : Gl X "range" := by rfl)
    (hs : starEach [a, b, e3] X.env = (false, eval a X.env) :: starEach [b, e3] X.env := by rfl) (hs2 : starEach [b, e3] X.env = (false, eval b X.env) :: starEach [e3] X.env := by rfl) (hs3 : starEach [e3] X.env = (false, eval e3 X.env) :: starEach [] X.env := by rfl) (hpl : (backTo p3 (starEach [b, e3] X.env)).any (·.1) = false := by rfl) :
    GI w X tg (.Call (.Name "range" p) [a, b, e3] [] p3) (iRgD f f') := by
  refine pi_imp (pi_range3 hg hm (pa_cons ha (pa_cons hb (pa_cons h3 pa_nil hs3) hs2) hs) hs hpl) fun σ H Rv => ?_
  rintro ⟨Hf, s, φ, ds, s', gd, e, q⟩
  obtain ⟨⟨d, s1⟩, h1, h2⟩ := R.bind_eq_ok.mp e
  obtain ⟨⟨d2, s2⟩, h4, h5⟩ := R.bind_eq_ok.mp h2
  refine tE_D gd h1 fun v H1 Hf1 φ1 g1 r1 k1 => tE_D g1 h4 fun v2 H2 Hf2 φ2 g2 r2 k2 => ?_
  have h6 : kD (KV.k1 pNeg (kC (.int 1))) s2 = .ok (.int (-1), s2) := rfl
  refine tE_D g2 h6 fun v3 H3 Hf3 φ3 g3 r3 k3 => ?_
  simp only at h5
  split at h5
  · split at h5
    · rename_i hb
      cases h5
      cases r1
      cases r2
      cases r3
      refine ⟨_, _, _, _, rfl, RgC.neg (by omega) (by omega) (by omega) (by omega), q _ H3 Hf3 φ3 g3 ((k1.trans k2 (fun _ => id) fun x hx => g1.own_free hx).trans k3 (fun _ => id) fun x hx => g2.own_free hx) wk_rngD⟩
    · cases h5
  · cases h5
/-! ### count -/
def rCntD (K : PySem.W.Frag) : V → List V → Hp → VK → Prop := fun x xs H Q => ∃ (y : V) (d : D) (ds : List D), xs = [y] ∧ Dp K H x (.list ds) ∧ SeqAt.shaped (.list ds) = true ∧ Dp K H y d ∧ SeqAt.shaped d = true ∧ Q (.int ((ds.countP fun z => PyData.eqv z d : Nat) : Int)) H
theorem mt_countD (c : Cok w k X) : MtR X "list.count" (rCntD X.K) := by
  intro pins s σ H x xs v us Q I rx rxs ⟨y, d, ds, exs, hl, sl, hy, sd, q⟩
  subst exs
  obtain ⟨uy, rfl, ry⟩ := vals1 rxs
  obtain ⟨bs, r1⟩ := Dp.reads I d y uy hy ry
  have hxs : PyData.canLayAll0 ds = true := by have := SeqAt.canLay_of_shaped sl; simpa only [PyData.canLay0] using this
  have hroom : X.A.units + 1 + min (PyData.depthAll ds) d.depth < cLine := room_in_shaped sd (by have := c.u; omega)
  cases hl with
  | lst hs ha =>
    cases rx
    obtain ⟨its, rv, ⟨⟨cls, dd, data, sls⟩, n, ho, hc, hdn, hdt⟩, hlen⟩ := I.list hs
    simp only at hc hdt
    subst hc hdt
    obtain ⟨as, h4⟩ := Dp.readsAll I ds _ its ha rv
    have hmap : its.map (SeqAt.readOf s.heap) = ds := SeqAt.readsAll_map ds its as hxs h4
    have hcnt : its.toArray.toList.countP (fun u => PyData.eqv (SeqAt.readOf s.heap u) d) = ds.countP fun z => PyData.eqv z d := by
      rw [← hmap, List.countP_map]
      rfl
    refine call_meets PySem.F.slot_list_count ⟨_, ho, rfl⟩ PySem.F.entry_list_count (PySem.F.args_list_count_2 _ _) (SeqAt.list_countAt _ its.toArray n dd sls uy (fun u => PyData.eqv (SeqAt.readOf s.heap u) d)) ⟨ho, SeqAt.items_eqAt (vs := its.toArray) (show ReadsAll s.heap its.toArray.toList ds as from h4) r1 hxs (SeqAt.canLay_of_shaped sd) hroom, ?_⟩
    rw [hcnt]
    exact ⟨.int _, H, I.tok _, ⟨_, rfl⟩, q⟩
theorem me_countL (c : Cok w k X) : MeOk X "count" "list" "list.count" (rCntD X.K) := ⟨PySem.F.plainAttrs_list, PySem.F.slot_list_count, PySem.F.type_list_count, mt_countD c⟩
/-- a.count(b), a a list -/
def kCount (f g : EV) : EV := fun s => (f s).bind fun r => (r.1.get r.2).bind fun d0 => (g r.2).bind fun q =>
  (r.1.get q.2).bind fun d => (q.1.get q.2).bind fun e => match d0, d with
    | .list _, .list ds => if eqOk e && eqOk (.list ds) then .ok (.d (.int ((ds.countP fun z => PyData.eqv z e : Nat) : Int)), q.2) else .no
    | _, _ => .no
theorem ge_count (c : Cok w k X) {o e : Expr} {apos cpos : Pos} {f f' : EV} (ho : GE w X o f) (he : GE w X e f') (hbase : attributeBase o "count" X.env (eval o X.env) = eval o X.env := by rfl)
    (hfew : ((backTo cpos (starEach [e] X.env)).all (fun x => !x.1) && (backToKw cpos (keywordEach [] X.env)).all (fun x => x.1.isSome)
      && decide ([e].length + ([] : List Keyword).length + (if ([] : List Keyword).isEmpty then 0 else 1) < 30)) = true := by rfl)
    (hline : (apos.endLine == cpos.line) = true := by rfl) (hs : starEach [e] X.env = (false, eval e X.env) :: starEach [] X.env := by rfl) (hplain : (backTo cpos (starEach [] X.env)).any (·.1) = false := by rfl) :
    GE w X (.Call (.Attribute o "count" apos) [e] [] cpos) (kCount f f') := by
  refine pe_imp (pe_md ho (pa_cons he pa_nil hs) hbase hfew hline hs hplain) fun σ H Q => ?_
  rintro ⟨Hf, s, φ, l, s', g, e, q⟩
  obtain ⟨⟨l1, s1⟩, h1, h2⟩ := R.bind_eq_ok.mp e
  obtain ⟨d0, h3, h4⟩ := R.bind_eq_ok.mp h2
  obtain ⟨⟨l2, s2⟩, h5, h6⟩ := R.bind_eq_ok.mp h4
  obtain ⟨d, h7, h8⟩ := R.bind_eq_ok.mp h6
  obtain ⟨e2, h9, h10⟩ := R.bind_eq_ok.mp h8
  simp only at h10
  cases d0 <;> cases d <;> simp only at h10 <;> first | cases h10 | skip
  split at h10
  · rename_i hb
    rw [Bool.and_eq_true] at hb
    cases h10
    refine ⟨Hf, s, φ, l1, s1, g, h1, fun v H1 Hf1 φ1 F1 g1 r1 k1 => ?_⟩
    have w1 := r1.rw g1 h3
    refine ⟨"list", _, _, me_countL c, by rw [c.K]; exact w1.tyL g1.sub, Hf1, s1, φ1, l2, s', g1, h5, fun v' H2 Hf2 φ2 F2 g2 r2 k2 => ?_⟩
    have w2 := (r1.stay (s' := s') (φ' := φ2) k2 fun a => .inl).rw g2 h7
    have w3 := r2.rw g2 h9
    have q2 := (q.later k1 (fun a => .inl) g1).later k2 (fun a => .inl) g2
    rw [c.K]
    exact ⟨v', _, _, rfl, w2.dp g2.sub (eqOk_lay hb.2), hb.2, w3.dp g2.sub (eqOk_lay hb.1), hb.1, q2.d g2 (.int _)⟩
  · cases h10
/-! ### a tuple of texts, written in a module -/
theorem rp_strs {K : PySem.W.Frag} : ∀ {xs : List Str}, RpA K Hf (xs.map V.str) (xs.map PyData.str)
  | [] => .nil
  | x :: xs => .cons (.str x) rp_strs
/-- what is written at a name: a tuple of these texts -/
def CTup (K : PySem.W.Frag) (mg : Str → Option Value) (n : Str) (xs : List Str) : Prop :=
  ∃ (a : Addr) (o : Obj) (its : Array Value) (m : Nat), mg n = some (.ref a) ∧ K.lookup a = some o ∧ o.cls = .type "tuple" ∧ o.dict = none ∧ o.data = .seq its m ∧ its.size ≤ sizeLine ∧ Vals (xs.map V.str) its.toList
theorem ge_ctup (c : Cok w k X) {n : Str} {xs : List Str} (h : CTup X.K X.mg n xs) (hg : Gl X n := by rfl) (hd : (n == ("__debug__" : Str)) = false := by decide) : GE w X (.Name n pos) (kC (.tuple (xs.map PyData.str))) := by
  obtain ⟨a, o, its, m, h1, h2, h3, h4, h5, h6, h7⟩ := h
  exact ge_glob (v := .ref a) (fun Hf => .tup (.inr ⟨o, its, m, by rw [c.K] at h2; exact h2, h3, h4, h5, h6, h7⟩) rp_strs) h1 rfl hg hd
end
end KV
namespace KV
open PySem L2
theorem ctup_of {K : PySem.W.Frag} {h : Heap} {mg : Str → Option Value} {n : Str} {xs : List Str} {a : Addr} {o : Obj} {its : Array Value} {m : Nat} (KX : K.In h) (G : h.Ns mainGlobals mg) (y : PySem.W.nsIn K mainGlobals n = some (some (.ref a))) (l : K.lookup a = some o)
    (hc : o.cls = .type "tuple") (hd : o.dict = none) (he : o.data = .seq its m) (hf : its.size ≤ sizeLine) (hv : Vals (xs.map V.str) its.toList) : CTup K mg n xs := ⟨a, o, its, m, PySem.W.mg_of KX G y, l, hc, hd, he, hf, hv⟩
end KV
namespace KV
open PySem L2
open PySem.Spec PyProof.Rows
section
variable {w : Wd} {k : Nat} {X : Cx} {pos : Pos}
/-- a number, a text that a module holds -/
theorem ge_cint {n : Str} {i : Int} (h : ∃ t, X.mg n = some (.int i t)) (hg : Gl X n := by rfl) (hd : (n == ("__debug__" : Str)) = false := by decide) : GE w X (.Name n pos) (kC (.int i)) := by
  obtain ⟨t, h⟩ := h
  exact ge_glob (v := .int i) (fun _ => .int _) h ⟨t, rfl⟩ hg hd
theorem ge_cstr {n x : Str} (h : ∃ t, X.mg n = some (.str x t)) (hg : Gl X n := by rfl) (hd : (n == ("__debug__" : Str)) = false := by decide) : GE w X (.Name n pos) (kC (.str x)) := by
  obtain ⟨t, h⟩ := h
  exact ge_glob (v := .str x) (fun _ => .str _) h ⟨t, rfl⟩ hg hd
end
theorem cint_of {K : PySem.W.Frag} {h : Heap} {mg : Str → Option Value} {n : Str} {i : Int} {t : Tok} (KX : K.In h) (G : h.Ns mainGlobals mg) (y : PySem.W.nsIn K mainGlobals n = some (some (.int i t))) : ∃ t, mg n = some (.int i t) := ⟨t, PySem.W.mg_of KX G y⟩
theorem cstr_of {K : PySem.W.Frag} {h : Heap} {mg : Str → Option Value} {n x : Str} {t : Tok} (KX : K.In h) (G : h.Ns mainGlobals mg) (y : PySem.W.nsIn K mainGlobals n = some (some (.str x t))) : ∃ t, mg n = some (.str x t) := ⟨t, PySem.W.mg_of KX G y⟩
end KV

set_option Elab.async false
set_option linter.all false
set_option maxRecDepth 100000
set_option maxHeartbeats 4000000
/-! KVX: sorted(..) of texts: a list, a dict's keys. -/
namespace KV
open PySem L2
open PySem.Spec PyProof.Rows PySem.W PySem.Calls
/-! ### the one sorted list -/
def insS (x : Str) : List Str → List Str
  | [] => [x]
  | y :: r => if ltCps y.cps.toList x.cps.toList then y :: insS x r else x :: y :: r
def sortS : List Str → List Str
  | [] => []
  | x :: r => insS x (sortS r)
def leS (a b : Str) : Prop := ¬ b.cps.toList < a.cps.toList
theorem leS_iff {a b : Str} : leS a b ↔ ltCps b.cps.toList a.cps.toList = false := by
  unfold leS
  rw [ltCps_eq]
  simp
theorem leS_trans {a b c : Str} (h1 : leS a b) (h2 : leS b c) : leS a c := by
  unfold leS at *
  rw [List.not_lt] at *
  exact List.le_trans h1 h2
theorem leS_total (a b : Str) : leS a b ∨ leS b a := by
  unfold leS
  by_cases h : b.cps.toList < a.cps.toList
  · exact .inr (List.lt_asymm h)
  · exact .inl h
theorem leS_anti {a b : Str} (h1 : leS a b) (h2 : leS b a) : a = b := by
  unfold leS at *
  rw [List.not_lt] at *
  have e := List.le_antisymm h1 h2
  cases a
  cases b
  simp only at e
  congr 1
  exact Array.toList_inj.mp e
theorem insS_perm (x : Str) : ∀ l : List Str, (insS x l).Perm (x :: l)
  | [] => List.Perm.refl _
  | y :: r => by
    unfold insS
    split
    · exact ((insS_perm x r).cons y).trans (List.Perm.swap x y r)
    · exact List.Perm.refl _
theorem sortS_perm : ∀ l : List Str, (sortS l).Perm l
  | [] => List.Perm.refl _
  | x :: r => (insS_perm x _).trans ((sortS_perm r).cons x)
theorem insS_pw {x : Str} : ∀ {l : List Str}, l.Pairwise leS → (insS x l).Pairwise leS
  | [], _ => List.pairwise_singleton _ _
  | y :: r, h => by
    obtain ⟨h1, h2⟩ := List.pairwise_cons.mp h
    unfold insS
    split
    · rename_i hlt
      have hyx : leS y x := by
        rcases leS_total y x with z | z
        · exact z
        · rw [leS_iff, hlt] at z; cases z
      refine List.pairwise_cons.mpr ⟨fun z hz => ?_, insS_pw h2⟩
      rcases List.mem_cons.mp ((insS_perm x r).mem_iff.mp hz) with e | e
      · exact e ▸ hyx
      · exact h1 z e
    · rename_i hlt
      have hxy : leS x y := leS_iff.mpr (by simpa using hlt)
      refine List.pairwise_cons.mpr ⟨fun z hz => ?_, h⟩
      rcases List.mem_cons.mp hz with e | e
      · exact e ▸ hxy
      · exact leS_trans hxy (h1 z e)
theorem sortS_pw : ∀ l : List Str, (sortS l).Pairwise leS
  | [] => List.Pairwise.nil
  | x :: r => insS_pw (sortS_pw r)
theorem rising_pw : ∀ {p : Str} {l : List Str}, risingS p l = true → (p :: l).Pairwise leS
  | p, [], _ => List.pairwise_singleton _ _
  | p, x :: r, h => by
    have h' : (!ltCps x.cps.toList p.cps.toList && risingS x r) = true := h
    rw [Bool.and_eq_true] at h'
    have hp : leS p x := leS_iff.mpr (by simpa using h'.1)
    have ih := rising_pw h'.2
    refine List.pairwise_cons.mpr ⟨fun z hz => ?_, ih⟩
    rcases List.mem_cons.mp hz with e | e
    · exact e ▸ hp
    · exact leS_trans hp ((List.pairwise_cons.mp ih).1 z e)
theorem sorted_pw : ∀ {l : List Str}, sortedS l = true → l.Pairwise leS
  | [], _ => List.Pairwise.nil
  | x :: r, h => rising_pw h
theorem pw_one : ∀ {l m : List Str}, l.Perm m → l.Pairwise leS → m.Pairwise leS → l = m
  | [], m, p, _, _ => p.nil_eq
  | a :: l, [], p, _, _ => absurd p.symm.nil_eq (by simp)
  | a :: l, b :: m, p, h1, h2 => by
    obtain ⟨a1, a2⟩ := List.pairwise_cons.mp h1
    obtain ⟨b1, b2⟩ := List.pairwise_cons.mp h2
    have refl : ∀ x, leS x x := fun x => (leS_total x x).elim id id
    have hab : leS a b := by
      rcases List.mem_cons.mp (p.mem_iff.mpr (List.mem_cons_self ..)) with e | e
      · exact e ▸ refl _
      · exact a1 b e
    have hba : leS b a := by
      rcases List.mem_cons.mp (p.mem_iff.mp (List.mem_cons_self ..)) with e | e
      · exact e ▸ refl _
      · exact b1 a e
    have e := leS_anti hab hba
    subst e
    rw [pw_one (List.Perm.cons_inv p) a2 b2]
theorem sort_the {ys xs : List Str} (p : ys.Perm xs) (h : sortedS ys = true) : ys = sortS xs := pw_one (p.trans (sortS_perm xs).symm) (sorted_pw h) (sortS_pw xs)
/-! ### sorted(d) -/
def rSortK (K : PySem.W.Frag) : List V → Hp → VK → Prop := fun vs H Q => ∃ (a : Addr) (kvs : List (Key × V)) (ss : List Str), vs = [V.ref a] ∧ Rd H a (.dK kvs) ∧ kvs.map (·.1) = ss.map Sum.inr ∧ ss.length < 64 ∧
  ∀ (p : Addr), H p = none → Q (.ref p) (upd H p (.lst ((sortS ss).map V.str)))
theorem strs_pt : ∀ {vs : List Value} {ss : List Str}, vs.length = ss.length → (∀ (j : Nat) (v : Value), vs[j]? = some v → ∃ (x : Str) (t : Tok), ss[j]? = some x ∧ v = Value.str x t) → StrsAre vs ss
  | [], [], _, _ => .nil
  | [], _ :: _, h, _ => by simp at h
  | _ :: _, [], h, _ => by simp at h
  | v :: vs, x :: ss, h, k => by
    obtain ⟨y, t, e1, rfl⟩ := k 0 v rfl
    simp at e1
    subst e1
    exact .cons _ _ (strs_pt (by simpa using h) fun j v hj => by simpa using k (j + 1) v (by simpa using hj))
theorem kv_key : ∀ {kvs : List (Key × V)} {prs : List (Key × Value)}, L2.KV kvs prs → prs.map (·.1) = kvs.map (·.1) := fun {kvs prs} r => by
  unfold L2.KV at r
  induction r with
  | nil => rfl
  | cons h t ih => rw [List.map_cons, List.map_cons, ih, h.1]
theorem cr_sortK {X : Cx} (hc : X.calm = true) : CallR X (.builtin "sorted") (rSortK X.K) := by
  intro pins s σ H vs us Q I r h
  obtain ⟨a, kvs, ss, rfl, ha, hk, h64, q⟩ := h
  rw [Vals.ref1 r]
  obtain ⟨hlen, hbig, prs, rel, hd⟩ : ObjOk X.prog X.w _ _ a (.dK kvs) := ha.ok I.hok
  obtain ⟨ep, hat⟩ := hd.dictAt
  have hh := I.ok.hd hc
  have hks : prs.map (·.1) = ss.map Sum.inr := (kv_key rel).trans hk
  have hpl : prs.length = ss.length := by have := congrArg List.length hks; simpa using this
  refine Calls.call_function_entry kind_sorted plain_sorted entry_sorted (args_sorted1 _) ?_
  unfold Builtin.«sorted»
  refine wpAny_bind (m := checkCount "sorted" 1 1 _) (wpAny_pure ?_)
  refine wpAny_bind (kdu_collect (A := X.A.in1) (kdl_dict (knd := mixKind X.prog X.w) (kvs := prs) (ep := ep) hbig) hh hat (by rw [hpl, sizeLine_eq]; omega) fun h' tk acc k1 items => ?_)
  have hS : StrsAre acc.toList ss := strs_pt (by rw [Array.length_toList, items.1, hpl]) fun j v hj => by
    obtain ⟨k, x, e1, e2⟩ := items.2 j v (by rw [← Array.getElem?_toList]; exact hj)
    have e3 : (ss.map (Sum.inr : Str → Key))[j]? = some k := by rw [← hks, List.getElem?_map, e1]; rfl
    rw [List.getElem?_map] at e3
    obtain ⟨y, e4, e5⟩ := Option.map_eq_some_iff.mp e3
    subst e5
    rcases keyIs_shape (show keyIs (Sum.inr y) v = true from e2) with ⟨i, t, e6, _⟩ | ⟨z, t, e6, e7⟩
    · cases e6
    · cases e6
      exact ⟨y, t, e4, e7⟩
  have hvl : acc.toList.length = ss.length := hS.len_eq
  refine wpAny_bind (wpAny_newList ?_ (by rw [hvl, sizeLine_eq]; omega))
  have hoL : (h'.push (seqObj "list" acc.toList.toArray 0)).get? h'.objs.size = some (seqObj "list" acc.toList.toArray 0) := Heap.get?_push_size _ rfl
  refine wpAny_bind (wpAny_holding (wpAny_call_entry slot_list_sort ⟨_, hoL, rfl⟩ entry_list_sort (list_sort_treeK strKind_oneLt hoL hS.keysOf (fun v₁ v₂ rest e => keyKind_strs (by rw [← e]; exact hS)) (by rw [hvl]; exact h64) fun st' hp hs => ⟨_, rfl, ?_⟩) (args_list_sort _)))
  obtain ⟨ys, b1, b2, b3⟩ := sorted_out_str hS hp hs
  have ey := sort_the b2 b3
  subst ey
  obtain ⟨c, hcc⟩ := sortedHeap_at (vs := acc.toList) (out := (arrOf st').map (·.2)) hoL
  have hn : H h'.objs.size = none := (I.hok.kept k1).fresh (Nat.le_refl _)
  have hg : s.heap.get? h'.objs.size = none := by
    cases e : s.heap.get? h'.objs.size with
    | none => rfl
    | some u => exact absurd (Heap.lt_size (k1 _ _ e)) (Nat.lt_irrefl _)
  have old : ∀ b o, s.heap.get? b = some o → (sortedHeap (h'.push (seqObj "list" acc.toList.toArray 0)) h'.objs.size acc.toList ((arrOf st').map (·.2))).get? b = some o := fun b o e => by
    have e1 := k1 b o e
    have hlt := Heap.lt_size e1
    rw [sortedHeap_old (Nat.ne_of_lt hlt) (by rw [size_push']; exact Nat.lt_succ_of_lt hlt)]
    exact Heap.get?_push_of_some _ e1
  refine wpAny_pure ⟨_, rfl, ?_⟩
  exact ⟨.ref h'.objs.size, upd H h'.objs.size (.lst ((sortS ss).map V.str)), I.laidN (t' := tk) old hg hn ⟨by rw [List.length_map, (sortS_perm ss).length_eq, sizeLine_eq]; omega, ((arrOf st').map (·.2)).toList, c, vals_of_strs b1, by rw [Array.toArray_toList]; exact hcc⟩, rfl, q _ hn⟩
/-! ### the rule -/
def strsOfD : List D → Option (List Str)
  | [] => some []
  | .str x :: r => (strsOfD r).map (x :: ·)
  | _ :: _ => none
theorem strsOfD_eq : ∀ {ds : List D} {ss : List Str}, strsOfD ds = some ss → ds = ss.map PyData.str
  | [], ss, h => by cases h; rfl
  | d :: r, ss, h => by
    cases d <;> first | cases h | skip
    unfold strsOfD at h
    obtain ⟨q, h1, rfl⟩ := Option.map_eq_some_iff.mp h
    rw [strsOfD_eq h1]
    rfl
theorem strsOfD_map : ∀ {ss : List Str}, strsOfD (ss.map PyData.str) = some ss
  | [] => rfl
  | x :: r => by
    rw [List.map_cons]
    unfold strsOfD
    rw [strsOfD_map]
    rfl
/-- sorted(..) of texts: a list, a dict's keys -/
def pSorted : D → R L
  | .list ds => match strsOfD ds with
    | some ss => if ss.length < 64 then .ok (.t (.lst ((sortS ss).map PyData.str))) else .no
    | none => .no
  | .dict kvs => match strsOfD (kvs.map (·.1)) with
    | some ss => if ss.length < 64 then .ok (.t (.lst ((sortS ss).map PyData.str))) else .no
    | none => .no
  | _ => .no
def rSortAny (K : PySem.W.Frag) : List V → Hp → VK → Prop := fun vs H Q => rSortedS K vs H Q ∨ rSortK K vs H Q
section
variable {w : Wd} {k : Nat} {X : Cx} {pos : Pos} {Hf H : Hp}
theorem cr_sortAny (hc : X.calm = true) : CallR X (.builtin "sorted") (rSortAny X.K) := by
  intro pins s σ H vs us Q I r h
  rcases h with h | h
  · exact cr_sortedS pins s σ H vs us Q I r h
  · exact cr_sortK hc pins s σ H vs us Q I r h
theorem rpa_strs {K : PySem.W.Frag} : ∀ {vs : List V} {ss : List Str}, RpA K Hf vs (ss.map PyData.str) → vs = ss.map V.str
  | _, [], r => by cases r; rfl
  | _, x :: ss, r => by
    rw [List.map_cons] at r
    cases r with
    | cons h t => cases h; rw [rpa_strs t]; rfl
theorem rpkv_keys {K : PySem.W.Frag} : ∀ {kvs : List (Key × V)} {ds : List (D × D)} {ss : List Str}, RpKv K Hf kvs ds → ds.map (·.1) = ss.map PyData.str → kvs.map (·.1) = ss.map Sum.inr
  | _, _, [], .nil, _ => rfl
  | _, _, [], .cons _ _, h => by simp at h
  | _, _, _ :: _, .nil, h => by simp at h
  | _, _, x :: ss, .cons (k := k) _ t, h => by
    rw [List.map_cons, List.map_cons, List.cons.injEq] at h
    have e : k = Sum.inr x := by
      cases k with
      | inl i => cases h.1
      | inr y => cases h.1; rfl
    rw [List.map_cons, List.map_cons, rpkv_keys t h.2, e]
theorem u_sorted (c : Cok w k X) : U1 w (fun v H Q => rSortAny X.K [v] H Q) pSorted := by
  intro σ H Hf s φ v d l Q g r hp q
  unfold pSorted at hp
  split at hp
  · split at hp
    · rename_i ss hs
      split at hp
      · rename_i h64
        cases hp
        have e := strsOfD_eq hs
        subst e
        obtain ⟨a, vs, rfl, ha, ra⟩ := r.list g.sub
        have ev := rpa_strs ra
        subst ev
        refine .inl ⟨a, ss, rfl, SqL.of ha, h64, fun ys p p1 p2 hp => ?_⟩
        rw [sort_the p1 p2]
        exact q.lst g rp_strs hp
      · cases hp
    · cases hp
  · split at hp
    · rename_i kvs ss hs
      split at hp
      · rename_i h64
        cases hp
        obtain ⟨a, ks, rfl, ha, ra⟩ := r.dict g.sub
        exact .inr ⟨a, ks, ss, rfl, ha, rpkv_keys ra (strsOfD_eq hs), h64, fun p hp => q.lst g rp_strs hp⟩
      · cases hp
    · cases hp
  · cases hp
theorem ge_sorted (hm : X.mg "sorted" = none) (c : Cok w k X) {a : Expr} {f : EV} {px : Pos} (ha : GE w X a f) (hg : Gl X "sorted" := by rfl) (he : starEach [a] X.env = (false, eval a X.env) :: starEach [] X.env := by rfl) : GE w X (.Call (.Name "sorted" px) [a] [] pos) (k1 pSorted f) :=
  ge_b1 (cr_sortAny c.calm) (u_sorted c) hm ha (by decide +kernel) hg (by decide) (by decide) he
end
end KV

set_option Elab.async false
set_option linter.all false
set_option maxRecDepth 100000
set_option maxHeartbeats 4000000
/-! KVY: d.update(e); three dicts of one's own under three names: made, lent to be read, stored in. -/
namespace KV
open PySem L2
open PySem.Spec PyProof.Rows

/-! ### d.update(e) -/
def rUpd : V → List V → Hp → VK → Prop := fun x xs H Q => ∃ a b ka kb, x = .ref a ∧ xs = [.ref b] ∧ H a = some (.dK ka) ∧ Rd H b (.dK kb) ∧ a ≠ b ∧ ka.length + kb.length ≤ sizeLine ∧ Q .non (upd H a (.dK (mergeK ka kb)))
theorem mt_upd {X : Cx} : MtR X "dict.update" rUpd := by
  intro pins s σ H x vs v us Q I rx rv h
  obtain ⟨a, b, ka, kb, rfl, rfl, ha, hb, ne, hz, q⟩ := h
  cases rx
  obtain ⟨u, rfl, ru⟩ := rv.one
  cases ru
  obtain ⟨z, hd, vs, rel, dd⟩ := dk_of I.hok ha
  obtain ⟨z2, hd2, vs2, rel2, dd2⟩ := dk_rd I.hok hb
  refine call_meetsIn PySem.F.slot_dict_update dd.typeIs PySem.F.entry_dict_update (PySem.F.args_dict_update_2 _ _) (meets_dict_update (mixKind X.prog X.w) a b ne hd2) ⟨vs, vs2, dd, dd2, by rw [← rel.length, ← rel2.length]; exact hz, fun h' dd' _ hs => ?_⟩
  have he : ∃ q, h'.get? a = some q := let ⟨q, _, _, hq, _⟩ := dd'; ⟨q, hq⟩
  have hl : (mergeK ka kb).length ≤ sizeLine := Nat.le_trans (length_mergeK kb ka) hz
  exact ⟨.non, _, d_write I (by rw [ha]; exact True.intro) hs he (dk_new hl hd (rel2.merge rel) dd'), rfl, q⟩
def kUpd (i : Nat) (f : EV) : EV := fun s => match s[i]? with
  | some (some (.dct _)) => (kD f s).bind fun r => (match r.1, r.2[i]? with
    | .dict ys, some (some (.dct xs)) => if szOk (xs.length + ys.length) then .ok (.d .none, r.2.set i (some (.dct (mergeD xs ys)))) else .no
    | _, _ => .no)
  | _ => .no
section
variable {w : Wd} {k : Nat} {X : Cx} {pos : Pos} {σ : L2.St} {H Hf : Hp} {s s' : Sl} {φ : Nat → List Addr} {Q : VK} {io : List Nat}
section
variable {e : Expr} {f : EV} {x : Str} {px apos cpos : Pos}
theorem ge_upd (i : Nat) (he : GE w X e f) (hN : X.N[i]? = some x := by rfl) (hv : Vis X.env.scope x := by first | exact Or.inl rfl | exact Or.inr (Or.inl rfl) | exact Or.inr (Or.inr rfl)) (hd : (x == ("__debug__" : Str)) = false := by decide) (hcd : (x == ("__classdict__" : Str)) = false := by decide)
    (hbase : attributeBase (.Name x px) "update" X.env (eval (.Name x px) X.env) = eval (.Name x px) X.env := by rfl)
    (hfew : ((backTo cpos (starEach [e] X.env)).all (fun x => !x.1) && (backToKw cpos (keywordEach [] X.env)).all (fun x => x.1.isSome)
      && decide ([e].length + ([] : List Keyword).length + (if ([] : List Keyword).isEmpty then 0 else 1) < 30)) = true := by rfl)
    (hline : (apos.endLine == cpos.line) = true := by rfl) (hs : starEach [e] X.env = (false, eval e X.env) :: starEach [] X.env := by rfl) (hplain : (backTo cpos (starEach [] X.env)).any (·.1) = false := by rfl) :
    GE w X (.Call (.Attribute (.Name x px) "update" apos) [e] [] cpos) (kUpd i f) := by
  refine pe_imp (pe_bm PySem.F.plainAttrs_dict PySem.F.slot_dict_update PySem.F.type_dict_update mt_upd (pv i hN hv hd hcd) (pa_cons he pa_nil hs) hbase hfew hline hs hplain) fun σ H Q => ?_
  rintro ⟨Hf, s, φ, l, s', g, e, q⟩
  unfold kUpd at e
  split at e
  · rename_i xs0 h0
    obtain ⟨⟨d, s1⟩, h1, h2⟩ := R.bind_eq_ok.mp e
    simp only at h2
    split at h2
    · rename_i ys xs hx
      split at h2
      · rename_i hz
        cases h2
        obtain ⟨a, vs0, e0, p0, a0, r0⟩ := g.dct h0
        refine ⟨.ref a, e0, ?_, tE_D g h1 fun v H1 Hf1 φ1 g1 r1 k1 => ?_⟩
        · exact .inr (.inr (.inl ⟨rfl, .inl ⟨vs0, a0⟩⟩))
        obtain ⟨a', vs, e1, p1, a1, r2⟩ := g1.dct hx
        rw [e0] at e1; cases e1
        cases r1 with
        | dct hb rk =>
          rename_i b kb
          have hf : Hf1 a = none := g1.fr i _ a hx (by rw [p1]; simp)
          have ne : a ≠ b := fun z => by
            rcases hb with hb | ⟨_, hb⟩ <;> (rw [← z, hf] at hb; cases hb)
          obtain ⟨g2, o2⟩ := g1.updS (o := .dK (mergeK vs kb)) (t' := .dct (mergeD xs ys)) hx p1 e0 (.dct upd_same (merge_rp rk r2))
          exact ⟨a, b, vs, kb, rfl, rfl, a1, g1.sub.rd hb, ne, by have := sz_line (szOk_le hz); rw [r2.length, rk.length]; omega, q _ _ Hf1 φ1 [] g2 (.d .non) ((k1.updO ⟨i, _, hx, by rw [p1]; simp⟩ hf).weak fun x z => z.elim (o2 x) fun z => nomatch z)⟩
      · cases h2
    · cases h2
  · cases e
end
/-! ### three dicts under three names: made -/
def kTab (x y z : Str) (f g h : EV) : EV := fun s => (f s).bind fun r => match r.1 with
  | .t (.dct p) => (g r.2).bind fun r2 => (match r2.1 with
    | .t (.dct q) => (h r2.2).bind fun r3 => (match r3.1 with
      | .t (.dct u) => if x ≠ y ∧ x ≠ z ∧ y ≠ z then .ok (.t (.tab ⟨x, y, z, p, q, u⟩), r3.2) else .no
      | _ => .no)
    | _ => .no)
  | _ => .no
theorem merge3 {x y z : Str} {a b c : V} (h : x ≠ y ∧ x ≠ z ∧ y ≠ z) : mergeK [] [(Sum.inr x, a), (Sum.inr y, b), (Sum.inr z, c)] = [(Sum.inr x, a), (Sum.inr y, b), (Sum.inr z, c)] := by
  have e1 : (Sum.inr x : Key) ≠ Sum.inr y := fun q => h.1 (Sum.inr.inj q)
  have e2 : (Sum.inr x : Key) ≠ Sum.inr z := fun q => h.2.1 (Sum.inr.inj q)
  have e3 : (Sum.inr y : Key) ≠ Sum.inr z := fun q => h.2.2 (Sum.inr.inj q)
  simp [mergeK, putK, e1, e2, e3]
theorem RLs.four {v3 v2 v1 v0 : V} {t3 t2 t1 t0 : T} {F : List Addr} (r : RLs w σ Hf H s φ [v3, v2, v1, v0] [.t t3, .t t2, .t t1, .t t0] F) : ∃ F3 F2 F1 F0, F = F3 ++ (F2 ++ (F1 ++ F0)) ∧ OR w Hf H v3 t3 F3 ∧ OR w Hf H v2 t2 F2 ∧ OR w Hf H v1 t1 F1 ∧ OR w Hf H v0 t0 F0 ∧
    (∀ a ∈ F, Hf a = none ∧ ¬ Own s φ a) ∧ (∀ a ∈ F3, a ∉ F2 ++ (F1 ++ F0)) ∧ (∀ a ∈ F2, a ∉ F1 ++ F0) ∧ ∀ a ∈ F1, a ∉ F0 := by
  cases r with
  | cons r3 rr d3 =>
    cases rr with
    | cons r2 rr d2 =>
      cases rr with
      | cons r1 rr d1 =>
        cases rr with
        | cons r0 rn d0 =>
          cases rn
          cases r3 with
          | t r3 c3 =>
            cases r2 with
            | t r2 c2 =>
              cases r1 with
              | t r1 c1 =>
                cases r0 with
                | t r0 c0 =>
                  rw [List.append_nil] at d1 d2 d3 ⊢
                  refine ⟨_, _, _, _, rfl, r3, r2, r1, r0, fun a ha => ?_, d3, d2, d1⟩
                  rcases List.mem_append.mp ha with z | z
                  · exact c3 a z
                  · rcases List.mem_append.mp z with z | z
                    · exact c2 a z
                    · rcases List.mem_append.mp z with z | z
                      · exact c1 a z
                      · exact c0 a z
theorem ge_tab {ea eb ec : Expr} {f g h : EV} {j1 j2 j3 : Nat} {p1 p2 p3 : Pos} {x y z : Str} (ha : GE w X ea f) (hb : GE w X eb g) (hc : GE w X ec h) :
    GE w X (.Dict [some (.Constant (.str x) j1 p1), some (.Constant (.str y) j2 p2), some (.Constant (.str z) j3 p3)] [ea, eb, ec] pos) (kTab x y z f g h) := by
  refine pe_imp (pe_disp (pps_cons pe_str ha (pps_cons pe_str hb (pps_cons pe_str hc pps_nil))) rfl rfl (by simp) (by show 3 ≤ 15; decide)) fun σ H Q => ?_
  rintro ⟨Hf, s, φ, l, s', gd, e, q⟩ p hp
  obtain ⟨⟨l1, s1⟩, h1, h2⟩ := R.bind_eq_ok.mp e
  simp only at h2
  split at h2
  · rename_i d1
    obtain ⟨⟨l2, s2⟩, h3, h4⟩ := R.bind_eq_ok.mp h2
    simp only at h4
    split at h4
    · rename_i d2
      obtain ⟨⟨l3, s3⟩, h5, h6⟩ := R.bind_eq_ok.mp h4
      simp only at h6
      split at h6
      · rename_i d3
        split at h6
        · rename_i hne
          cases h6
          have b0 : Bag w σ H Hf (Own s φ) [.ref p] [.t (.dct [])] [p] (upd H p (.dK [])) Hf s φ :=
            ⟨gd.updH hp, .cons (.t (.dct upd_same .nil) fun a ha => by rw [List.mem_singleton] at ha; subst ha; exact ⟨gd.hf_none hp, gd.own_ne hp⟩) .nil (fun _ _ h => nomatch h), Stp.updH hp fun a z => z.imp id fun z => by simpa using z⟩
          refine ⟨Hf, s, φ, .t (.dct d1), s1, b0.g, h1, fun v1 H1 Hf1 φ1 F1 g1 r1 k1 => ?_⟩
          have b1 := b0.add g1 r1 k1
          refine ⟨Hf1, s1, φ1, .t (.dct d2), s2, g1, h3, fun v2 H2 Hf2 φ2 F2 g2 r2 k2 => ?_⟩
          have b2 := b1.add g2 r2 k2
          refine ⟨Hf2, s2, φ2, .t (.dct d3), s', g2, h5, fun v3 H3 Hf3 φ3 F3 g3 r3 k3 => ?_⟩
          have b3 := b2.add g3 r3 k3
          obtain ⟨G3, G2, G1, G0, eF, rd, rc, rb, ra, free, dj3, dj2, dj1⟩ := b3.r.four
          cases rd with
          | dct hd kd =>
            cases rc with
            | dct hc kc =>
              cases rb with
              | dct hb kb =>
                cases ra with
                | dct ha ka =>
                  cases ka
                  rename_i d vd c vc b vb
                  rw [eF] at free
                  have n3 : d ≠ c ∧ d ≠ b ∧ d ≠ p := by simpa using dj3 d (by simp)
                  have n2 : c ≠ b ∧ c ≠ p := by simpa using dj2 c (by simp)
                  have n1 : b ≠ p := by simpa using dj1 b (by simp)
                  obtain ⟨f1, f2⟩ := free p (by simp)
                  refine ⟨ha, [(Sum.inr x, .ref b), (Sum.inr y, .ref c), (Sum.inr z, .ref d)], rfl, (by show 3 ≤ 15; decide), ?_⟩
                  rw [merge3 hne]
                  refine q (.ref p) _ Hf3 φ3 [p, b, c, d] (b3.g.updO f1 f2) (.t (.tab (kb := vb) (kc := vc) (kd := vd) upd_same (by rw [upd_ne n1]; exact hb) (by rw [upd_ne n2.2]; exact hc) (by rw [upd_ne n3.2.2]; exact hd) kb kc kd (by simp only [List.nodup_cons, List.mem_cons, List.not_mem_nil, or_false, not_or, not_false_eq_true, and_true, List.nodup_nil]; exact ⟨⟨n1.symm, n2.2.symm, n3.2.2.symm⟩, ⟨n2.1.symm, n3.2.1.symm⟩, n3.1.symm⟩)) fun a ha => free a ?_) ((b3.k.updO (.inr (by rw [eF]; simp)) f1).weak fun a z => z.imp id fun z => ?_)
                  · simp only [List.mem_cons, List.not_mem_nil, or_false] at ha
                    rcases ha with rfl | rfl | rfl | rfl <;> simp
                  · rw [eF]
                    simp only [List.mem_cons, List.not_mem_nil, or_false] at z
                    rcases z with rfl | rfl | rfl | rfl <;> simp
        · cases h6
      · cases h6
    · cases h4
  · cases h2
/-! ### quiet expressions -/
def qS (x : Str) : Sl → R D := fun _ => .ok (.str x)
def qIx (j : Nat) (i : Int) : Sl → R D := fun s => match s[j]? with
  | some (some (.val (.tuple xs))) => (match (ixD xs.length i).bind (fun m => xs[m]?) with
    | some d => .ok d
    | none => .no)
  | _ => .no
def tq (w : Wd) (f : Sl → R D) : TE := fun σ H Q => ∃ Hf s φ d, Good w σ H Hf s φ ∧ f s = .ok d ∧ ∀ v, Rp w.K Hf v d → Q v H
abbrev GQ (w : Wd) (X : Cx) (e : Expr) (f : Sl → R D) : Prop := PE X e (tq w f)
theorem gq_str {x : Str} {j : Nat} {p : Pos} : GQ w X (.Constant (.str x) j p) (qS x) := pe_imp pe_str fun σ H Q => by
  rintro ⟨Hf, s, φ, d, g, e, q⟩
  cases e
  exact q _ (.str x)
theorem gq_ix (c : Cok w k X) (j : Nat) (i : Int) {x : Str} {px pp : Pos} {jj : Nat} (hN : X.N[j]? = some x := by rfl) (hv : Vis X.env.scope x := by first | exact Or.inl rfl | exact Or.inr (Or.inl rfl) | exact Or.inr (Or.inr rfl)) (hd : (x == ("__debug__" : Str)) = false := by decide) (hcd : (x == ("__classdict__" : Str)) = false := by decide)
    (hs : PlainIx (.Constant (.int i) jj pp) := by exact fun _ _ => rfl) : GQ w X (.Subscript (.Name x px) (.Constant (.int i) jj pp) pos) (qIx j i) := by
  refine pe_imp (pe_ix (ix_all c) (pv j hN hv hd hcd) pe_int hs) fun σ H Q => ?_
  rintro ⟨Hf, s, φ, d, g, e, q⟩
  unfold qIx at e
  split at e
  · rename_i xs hx
    split at e
    · rename_i d' hd'
      cases e
      obtain ⟨v, e1, r⟩ := g.here j _ hx
      generalize φ j = F at r
      cases r with
      | val r =>
        cases r with
        | tup h r =>
          obtain ⟨y, h1, h2⟩ := atI_of r hd'
          refine ⟨_, e1, .inr (.inl ⟨_, _, _, y, rfl, rfl, ?_, h1, q y h2⟩)⟩
          rw [c.K]
          exact (g.sub.stup h).sq
    · cases e
  · cases e
/-! ### told[x][k] = e -/
theorem Good.tabs (g : Good w σ H Hf s φ) {i : Nat} {t : Tab} (h : s[i]? = some (some (.tab t))) : ∃ a b c d kb kc kd, σ[i]? = some (some (.ref a)) ∧ φ i = [a, b, c, d] ∧ H a = some (.dK (tabKv t b c d)) ∧ H b = some (.dK kb) ∧ H c = some (.dK kc) ∧ H d = some (.dK kd) ∧
    RpKv w.K Hf kb t.p ∧ RpKv w.K Hf kc t.q ∧ RpKv w.K Hf kd t.r ∧ [a, b, c, d].Nodup := by
  obtain ⟨v, e, r⟩ := g.here i _ h
  generalize hF : φ i = F at r
  cases r with
  | tab h1 h2 h3 h4 r1 r2 r3 nd => exact ⟨_, _, _, _, _, _, _, e, rfl, h1, h2, h3, h4, r1, r2, r3, nd⟩
def Tab.put (t : Tab) (x : Str) (k d : D) : Option Tab :=
  if x = t.x then some { t with p := putD t.p k d } else if x = t.y then some { t with q := putD t.q k d } else if x = t.z then some { t with r := putD t.r k d } else none
def sTabPut (i : Nat) (k1 k2 : Sl → R D) (f : EV) : SV := fun s => match s[i]? with
  | some (some (.tab _)) => (kD f s).bind fun r => (k1 r.2).bind fun d1 => (k2 r.2).bind fun d2 => (match r.2[i]?, d1 with
    | some (some (.tab t)), .str x => if (keyOf d2).isSome && (szOk (t.p.length + 1) && (szOk (t.q.length + 1) && szOk (t.r.length + 1))) then (match t.put x d2 r.1 with
      | some t' => .ok (.nx, r.2.set i (some (.tab t')))
      | none => .no) else .no
    | _, _ => .no)
  | _ => .no
theorem gs_tabPut (c : Cok w k X) (i : Nat) {x : Str} {px p1 spos : Pos} {ek1 ek2 e : Expr} {k1 k2 : Sl → R D} {f : EV} (he : GE w X e f) (hk1 : GQ w X ek1 k1) (hk2 : GQ w X ek2 k2) (hs1 : PlainIx ek1 := by exact fun _ _ => rfl) (hN : X.N[i]? = some x := by rfl) (hv : Vis X.env.scope x := by first | exact Or.inl rfl | exact Or.inr (Or.inl rfl) | exact Or.inr (Or.inr rfl))
    (hd : (x == ("__debug__" : Str)) = false := by decide) (hcd : (x == ("__classdict__" : Str)) = false := by decide)
    (ha : ∀ v, assign (.Subscript (.Subscript (.Name x px) ek1 p1) ek2 spos) X.env v = (do
      let ov ← holding [v] (eval (.Subscript (.Name x px) ek1 p1) X.env)
      let iv ← holding [v, ov] (eval ek2 X.env)
      standAt spos
      holding [v, ov, iv] (setItem ov iv v)
      release [v, ov, iv] []) := by intro _; rfl)
    (hs : swapsWithSole [.Subscript (.Subscript (.Name x px) ek1 p1) ek2 spos] e pos.line X.env = pure false := by rfl) (hw : swappedStores [.Subscript (.Subscript (.Name x px) ek1 p1) ek2 spos] e X.env = pure none := by rfl) (h1 : (assignEach [.Subscript (.Subscript (.Name x px) ek1 p1) ek2 spos] X.env).map (·.2) = [assign (.Subscript (.Subscript (.Name x px) ek1 p1) ek2 spos) X.env] := by rfl) :
    GS w io X (.Assign [.Subscript (.Subscript (.Name x px) ek1 p1) ek2 spos] e pos) (sTabPut i k1 k2 f) := by
  refine ps_imp (ps_asg he (pg_sub (pe_ix (ix_all c) (pv i hN hv hd hcd) hk1 hs1) hk2 (set_any c) ha) hs hw h1) fun Dn σ H => ?_
  rintro ⟨Hf, s, φ, fl, s', g, e, q⟩
  unfold sTabPut at e
  split at e
  · rename_i t0 h0
    obtain ⟨v0, e0, _⟩ := g.here i _ h0
    obtain ⟨⟨d, s1⟩, h2, h3⟩ := R.bind_eq_ok.mp e
    obtain ⟨d1, h4, h5⟩ := R.bind_eq_ok.mp h3
    obtain ⟨d2, h6, h7⟩ := R.bind_eq_ok.mp h5
    simp only at h4 h6 h7
    split at h7
    · rename_i t y hx
      split at h7
      · rename_i hz
        simp only [Bool.and_eq_true] at hz
        obtain ⟨z0, z1, z2, z3⟩ := hz
        split at h7
        · rename_i t' ht'
          cases h7
          refine tE_D g h2 fun v H1 Hf1 φ1 g1 r1 kk => ⟨v0, e0, Hf1, s1, φ1, _, g1, h4, fun u ru => ?_⟩
          cases ru
          obtain ⟨a, b, c', d', kb, kc, kd, e1, p1, a1, hb, hc, hd, rb, rc, rd, nd⟩ := g1.tabs hx
          rw [e0] at e1; cases e1
          simp only [List.nodup_cons, List.mem_cons, List.not_mem_nil, or_false, not_or, not_false_eq_true, and_true, List.nodup_nil] at nd
          obtain ⟨⟨n1, n2, n3⟩, ⟨n4, n5⟩, n6⟩ := nd
          obtain ⟨ky, hky⟩ := Option.isSome_iff_exists.mp z0
          have ek := keyOf_some hky
          subst ek
          unfold Tab.put at ht'
          have put : ∀ (b0 : Addr) (k0 : List (Key × V)) (m0 : List (D × D)), H1 b0 = some (.dK k0) → RpKv w.K Hf1 k0 m0 → szOk (m0.length + 1) = true → b0 ∈ [a, b, c', d'] → valV (tabKv t b c' d') (Sum.inr y) = some (.ref b0) →
              (∀ o, OR w Hf1 (upd H1 b0 (.dK (putK k0 ky v))) (.ref a) (.tab t') [a, b, c', d']) → rIxA X.K (.ref a) (.str y) H1 (fun ov H2 => tq w k2 σ H2 fun iv H3 => rSetA ov iv v H3 fun H4 => Dn.nx σ H4) := fun b0 k0 m0 hb0 rk hz0 mem look orr => by
            refine .inr (.inr ⟨a, .ref b0, rfl, by have := DGet.k (k := Sum.inr y) a1; rw [look] at this; exact this, Hf1, s1, φ1, _, g1, h6, fun u2 r2 => ?_⟩)
            have ev := (Rw.st (H := H1) r2).key
            subst ev
            have mb : b0 ∈ φ1 i := by rw [p1]; exact mem
            obtain ⟨g3, o3⟩ := g1.updM (o := .dK (putK k0 ky v)) (t' := .tab t') hx mb e0 (by rw [p1]; exact orr 0)
            refine .inr ⟨b0, _, rfl, DPut.k hb0 (by have := sz_line (szOk_le hz0); rw [rk.length]; omega), q σ _ Hf1 φ1 g3 ((kk.updO ⟨i, _, hx, mb⟩ (g1.fr i _ b0 hx mb)).weak o3) Kp.refl⟩
          split at ht'
          · rename_i ey
            cases ht'
            exact put b kb t.p hb rb z1 (by simp) (by simp [valV, tabKv, ey]) fun _ => .tab (t := { t with p := putD t.p (keyD ky) d }) (by rw [upd_ne n1]; exact a1) upd_same (by rw [upd_ne (Ne.symm n4)]; exact hc) (by rw [upd_ne (Ne.symm n5)]; exact hd) (rb.put ky r1) rc rd (by simp [n1, n2, n3, n4, n5, n6])
          · rename_i ny
            split at ht'
            · rename_i ey
              cases ht'
              have f1 : ¬ t.x = y := fun z => ny z.symm
              exact put c' kc t.q hc rc z2 (by simp) (by simp [valV, tabKv, ey, f1, ey ▸ f1]) fun _ => .tab (t := { t with q := putD t.q (keyD ky) d }) (by rw [upd_ne n2]; exact a1) (by rw [upd_ne n4]; exact hb) upd_same (by rw [upd_ne (Ne.symm n6)]; exact hd) rb (rc.put ky r1) rd (by simp [n1, n2, n3, n4, n5, n6])
            · rename_i ny2
              split at ht'
              · rename_i ey
                cases ht'
                have f1 : ¬ t.x = y := fun z => ny z.symm
                have f2 : ¬ t.y = y := fun z => ny2 z.symm
                exact put d' kd t.r hd rd z3 (by simp) (by simp [valV, tabKv, ey, f1, f2, ey ▸ f1, ey ▸ f2]) fun _ => .tab (t := { t with r := putD t.r (keyD ky) d }) (by rw [upd_ne n3]; exact a1) (by rw [upd_ne n5]; exact hb) (by rw [upd_ne n6]; exact hc) upd_same rb rc (rd.put ky r1) (by simp [n1, n2, n3, n4, n5, n6])
              · cases ht'
        · cases h7
      · cases h7
    · cases h7
  · cases e
/-! ### a call that reads them alone -/
def tabD (t : Tab) : D := .dict [(.str t.x, .dict t.p), (.str t.y, .dict t.q), (.str t.z, .dict t.r)]
def kCallR (run : List T → R (T × List T)) (g : CV) : EV := fun s => (g s).bind fun q => match q.1 with
  | [.v a, .io j] => (match q.2[j]? with
    | some (some (.tab t)) => (run [.val a, .val (tabD t)]).bind fun r => (match r with
      | (.val x, []) => if x.hasDict = true then .no else .ok (.d x, q.2)
      | _ => .no)
    | _ => .no)
  | _ => .no
mutual
theorem Rp.nodict {K : PySem.W.Frag} {H H' : Hp} (s : ∀ a o, H a = some o → (∀ kvs, o ≠ .dK kvs) → H' a = some o) : ∀ {v : V} {d : D}, d.hasDict = false → Rp K H v d → Rp K H' v d
  | _, _, _, .non => .non
  | _, _, _, .bl b => .bl b
  | _, _, _, .int i => .int i
  | _, _, _, .str x => .str x
  | _, _, n, .lst h r => .lst (s _ _ h fun _ => by simp) (RpA.nodict s (by rw [PyData.hasDict] at n; exact n) r)
  | _, _, n, .tup h r => .tup (by
      rcases h with ⟨o, h, d⟩ | h
      · exact .inl ⟨o, s _ _ h fun _ => by simp, d⟩
      · exact .inr h) (RpA.nodict s (by rw [PyData.hasDict] at n; exact n) r)
  | _, _, n, .dct h r => by simp [PyData.hasDict] at n
theorem RpA.nodict {K : PySem.W.Frag} {H H' : Hp} (s : ∀ a o, H a = some o → (∀ kvs, o ≠ .dK kvs) → H' a = some o) : ∀ {vs : List V} {ds : List D}, PyData.hasDictAll ds = false → RpA K H vs ds → RpA K H' vs ds
  | _, _, _, .nil => .nil
  | _, _, n, .cons h r => by
    rw [PyData.hasDictAll, Bool.or_eq_false_iff] at n
    exact .cons (Rp.nodict s n.1 h) (RpA.nodict s n.2 r)
end
theorem tR_callR {d : Def} {g : CV} {E : XK} (hio : d.io = []) : tE w (kCallR d.run g) σ H Q → tR w g [false, true] σ H fun vs H1 => spD w 2 d vs H1 Q E := by
  rintro ⟨Hf, s, φ, l, s', gd, e, q⟩
  obtain ⟨⟨as, s1⟩, h1, h2⟩ := R.bind_eq_ok.mp e
  refine ⟨Hf, s, φ, as, s1, gd, h1, fun vs H1 Hf1 φ1 g1 r1 p1 k1 => ?_⟩
  simp only at h2
  split at h2
  · rename_i a j
    cases r1 with
    | cons ra rr =>
    cases rr with
    | cons rb rn =>
    cases rn
    rename_i v0 v1
    cases ra with
    | v ra =>
    cases rb with
    | io hv =>
    split at h2
    · rename_i t hj
      obtain ⟨⟨t2, os⟩, h3, h4⟩ := R.bind_eq_ok.mp h2
      split at h4
      · rename_i x heq
        cases heq
        split at h4
        · cases h4
        · rename_i hx
          cases h4
          have hx : x.hasDict = false := by simpa using hx
          obtain ⟨A, B, C, Z, kb, kc, kd, e1, p2, a1, hb, hc, hd, qb, qc, qd, nd⟩ := g1.tabs hj
          rw [hv] at e1
          cases e1
          have none1 : ∀ y ∈ [A, B, C, Z], Hf1 y = none := fun y hy => g1.fr j _ y hj (by rw [p2]; exact hy)
          have isD : ∀ y ∈ [A, B, C, Z], ∃ kvs, H1 y = some (.dK kvs) := fun y hy => by
            simp only [List.mem_cons, List.not_mem_nil, or_false] at hy
            rcases hy with rfl | rfl | rfl | rfl
            · exact ⟨_, a1⟩
            · exact ⟨_, hb⟩
            · exact ⟨_, hc⟩
            · exact ⟨_, hd⟩
          obtain ⟨Hf2, in2, out2⟩ : ∃ Hf2 : Hp, (∀ y ∈ [A, B, C, Z], Hf2 y = H1 y) ∧ ∀ y, y ∉ [A, B, C, Z] → Hf2 y = Hf1 y := ⟨fun y => if y ∈ [A, B, C, Z] then H1 y else Hf1 y, fun y hy => if_pos hy, fun y hy => if_neg hy⟩
          have sub12 : Sub Hf1 Hf2 := fun y o h => by
            by_cases m : y ∈ [A, B, C, Z]
            · rw [none1 y m] at h; cases h
            · rw [out2 y m]; exact h
          have sub2 : Sub Hf2 H1 := fun y o h => by
            by_cases m : y ∈ [A, B, C, Z]
            · rw [in2 y m] at h; exact h
            · rw [out2 y m] at h; exact g1.sub y o h
          have gN : Good w [some v0, some (.ref A)] H1 Hf2 [some (.val a), some (.val (tabD t))] (fun _ => []) := by
            refine ⟨sub2, rfl, fun i u hi => ?_, fun i u y _ m => (nomatch m), fun i i' u u' y _ _ m => (nomatch m)⟩
            match i, hi with
            | 0, hi => cases hi; exact ⟨v0, rfl, .val (ra.mono sub12)⟩
            | 1, hi =>
              cases hi
              refine ⟨.ref A, rfl, .val (.dct (.inl (by rw [in2 A (by simp)]; exact a1)) ?_)⟩
              exact .cons (k := Sum.inr t.x) (.dct (.inl (by rw [in2 B (by simp)]; exact hb)) (qb.mono sub12)) (.cons (k := Sum.inr t.y) (.dct (.inl (by rw [in2 C (by simp)]; exact hc)) (qc.mono sub12)) (.cons (k := Sum.inr t.z) (.dct (.inl (by rw [in2 Z (by simp)]; exact hd)) (qd.mono sub12)) .nil))
            | n + 2, hi => simp at hi
          refine ⟨Hf2, [.val a, .val (tabD t)], fun _ => [], .val x, [], rfl, gN, h3, fun v H' Hf' ψ F' gb r2 c2 k2 => ?_⟩
          have noown : ∀ y, ¬ Own [some (.val a), some (.val (tabD t))] (fun _ => []) y := fun y ⟨_, _, _, m⟩ => nomatch m
          have keep : ∀ y o, H1 y = some o → H' y = some o := fun y o h => k2.keep y o h (noown y)
          obtain ⟨Hf3, in3, out3⟩ : ∃ Hf3 : Hp, (∀ y ∈ [A, B, C, Z], Hf3 y = none) ∧ ∀ y, y ∉ [A, B, C, Z] → Hf3 y = Hf' y := ⟨fun y => if y ∈ [A, B, C, Z] then none else Hf' y, fun y hy => if_pos hy, fun y hy => if_neg hy⟩
          have sub13 : Sub Hf1 Hf3 := fun y o h => by
            by_cases m : y ∈ [A, B, C, Z]
            · rw [none1 y m] at h; cases h
            · rw [out3 y m]; exact k2.sub y o (sub12 y o h)
          have new3 : ∀ y, Hf3 y ≠ none → Hf1 y ≠ none ∨ H1 y = none := fun y hy => by
            by_cases m : y ∈ [A, B, C, Z]
            · exact (hy (in3 y m)).elim
            · rw [out3 y m] at hy
              rcases k2.new y (.inr hy) with z | z | z
              · exact (noown y z).elim
              · rw [out2 y m] at z; exact .inl z
              · exact .inr z
          have g3 : Good w σ H' Hf3 s' φ1 := by
            refine ⟨fun y o h => ?_, g1.len, fun i u hu => ?_, fun i u y hu hy => ?_, g1.dj⟩
            · by_cases m : y ∈ [A, B, C, Z]
              · rw [in3 y m] at h; cases h
              · rw [out3 y m] at h; exact gb.sub y o h
            · obtain ⟨v', e', r'⟩ := g1.here i u hu
              exact ⟨v', e', r'.stay sub13 fun y _ o ho => keep y o ho⟩
            · cases hz : Hf3 y with
              | none => rfl
              | some o =>
                rcases new3 y (by rw [hz]; simp) with z | z
                · exact (z (g1.fr i u y hu hy)).elim
                · obtain ⟨o', e'⟩ := g1.own_some ⟨i, u, hu, hy⟩
                  rw [e'] at z; cases z
          have rx : Rp w.K Hf' v x := by
            cases r2 with
            | val r => exact r
          refine q v H' Hf3 φ1 [] g3 (.d (Rp.nodict (fun y o hy hne => ?_) hx rx)) ((k1.trans (P1' := Own s' φ1) (P1 := Own s' φ1) (P2 := Own s' φ1) ⟨sub13, fun y o h _ => keep y o h, fun y z => ?_⟩ (fun _ => id) fun y hy => g1.own_free hy).weak fun y z => z.elim id fun z => nomatch z)
          · by_cases m : y ∈ [A, B, C, Z]
            · obtain ⟨kvs, hk⟩ := isD y m
              have : Hf' y = some (.dK kvs) := k2.sub y _ (by rw [in2 y m]; exact hk)
              rw [this] at hy
              cases hy
              exact (hne kvs rfl).elim
            · rw [out3 y m]; exact hy
          · rcases z with z | z
            · exact .inl z
            · exact .inr (new3 y z)
      · cases h4
    · cases h2
  · cases h2
theorem ge_callR {j : Nat} {x : Str} {d : Def} {px : Pos} {e : Expr} {es : List Expr} {g : CV} (c : Cok w k X) (C : CalG X.prog X.w X.K X.mg X.base j x (spD w 2 d)) (ha : GR w X (e :: es) g [false, true]) (hk : j ≤ k := by decide) (hio : d.io = [] := by rfl) (hg : Gl X x := by rfl)
    (hdb : (x == ("__debug__" : Str)) = false := by decide) (he : starEach (e :: es) X.env = (false, eval e X.env) :: starEach es X.env := by rfl) (hpl : (backTo pos (starEach es X.env)).any (·.1) = false := by rfl) : GE w X (.Call (.Name x px) (e :: es) [] pos) (kCallR d.run g) :=
  pe_imp (pe_G (E := E0) c C hk hg ha hdb he hpl) fun _ _ _ => tR_callR hio
/-! ### repr of a dict of what holds no list, no dict -/
mutual
def tupOnly : D → Bool
  | .list _ => false
  | .dict _ => false
  | .tuple xs => tupAll xs
  | .none => true
  | .bool _ => true
  | .int _ => true
  | .str _ => true
def tupAll : List D → Bool
  | [] => true
  | x :: xs => tupOnly x && tupAll xs
end
section
variable {pins : List (Addr × Obj)} {sh : Shared}
mutual
theorem Rp.reads0 (I : Inv X pins σ H sh) : ∀ (d : D) (v : V) (u : Value), tupOnly d = true → Rp X.K H v d → RelV v u → Reads sh.heap u d []
  | .none, _, _, _, h, r => by
    cases h; cases r
    exact Reads.none
  | .bool b, _, _, _, h, r => by
    cases h; cases r
    exact Reads.bool b
  | .int i, _, _, _, h, r => by
    cases h
    obtain ⟨t, rfl⟩ := r
    exact Reads.int i t
  | .str x, _, _, _, h, r => by
    cases h
    obtain ⟨t, rfl⟩ := r
    exact Reads.str x t
  | .list _, _, _, n, _, _ => by rw [tupOnly] at n; cases n
  | .dict _, _, _, n, _, _ => by rw [tupOnly] at n; cases n
  | .tuple ds, _, _, n, h, r => by
    cases h with
    | tup hs ha =>
      cases r
      obtain ⟨its, rv, ⟨o, ho, hc, n', hd⟩, _⟩ := I.tuple hs.sq
      exact Reads.tuple ho hc hd (RpA.reads0 I ds _ its (by rw [tupOnly] at n; exact n) ha rv)
theorem RpA.reads0 (I : Inv X pins σ H sh) : ∀ (ds : List D) (vs : List V) (us : List Value), tupAll ds = true → RpA X.K H vs ds → Vals vs us → ReadsAll sh.heap us ds []
  | [], _, _, _, h, r => by
    cases h; cases r
    exact ReadsAll.nil
  | d :: ds, _, _, n, h, r => by
    rw [tupAll, Bool.and_eq_true] at n
    cases h with
    | cons h1 h2 =>
      cases r with
      | cons r1 r2 => exact ReadsAll.cons (Rp.reads0 I d _ _ n.1 h1 r1) (RpA.reads0 I ds _ _ n.2 h2 r2)
end
theorem key_reads {h : Heap} {k : Key} {u : Value} (e : keyIs k u = true) : Reads h u (keyD k) [] := by
  rcases keyIs_shape e with ⟨i, t, rfl, rfl⟩ | ⟨x, t, rfl, rfl⟩
  · exact Reads.int i t
  · exact Reads.str x t
theorem kv_reads (I : Inv X pins σ H sh) : ∀ {kvs : List (Key × V)} {ds : List (D × D)} {vs : List (Key × Value)} {es : List DictEntry}, RpKv X.K H kvs ds → KV kvs vs → Pairs (mixKind X.prog X.w) es vs → ds.all (fun x => tupOnly x.2) = true →
    ReadsAll sh.heap (es.map (·.key)) (ds.map (·.1)) [] ∧ ReadsAll sh.heap (es.map (·.val)) (ds.map (·.2)) []
  | _, _, _, _, .nil, r, p, _ => by
    cases r
    cases p
    exact ⟨ReadsAll.nil, ReadsAll.nil⟩
  | _, _, _, _, .cons h t, r, p, n => by
    rw [List.all_cons, Bool.and_eq_true] at n
    cases r with
    | cons r1 r2 =>
      cases p with
      | cons p1 p2 p3 =>
        obtain ⟨q1, q2⟩ := kv_reads I t r2 p3 n.2
        rw [List.map_cons, List.map_cons, List.map_cons, List.map_cons, p2]
        rw [← show _ = _ from r1.1] at p1
        exact ⟨ReadsAll.cons (as := []) (bs := []) (key_reads p1) q1, ReadsAll.cons (as := []) (bs := []) (Rp.reads0 I _ _ _ n.1 h r1.2) q2⟩
end
def showOkD (ds : List (D × D)) : Bool := (PyData.dict ds).showable && (decide ((PyData.dict ds).depth ≤ 64) && (ds.all (fun x => tupOnly x.2) && decide ((PyData.dict ds).shown.length ≤ sizeLine)))
def pReprD (d : D) : R L := match d with
  | .dict ds => if showOkD ds then .ok (.d (.str (PyData.dict ds).shown)) else .no
  | _ => .no
def rReprD (K : PySem.W.Frag) : List V → Hp → VK → Prop := fun xs H Q => ∃ a kvs ds, xs = [V.ref a] ∧ Rd H a (.dK kvs) ∧ RpKv K H kvs ds ∧ showOkD ds = true ∧ Q (.str (PyData.dict ds).shown) H
theorem call_reprD (c : Cok w k X) : CallR X (.builtin "repr") (rReprD X.K) := by
  intro pins s σ H xs us Q I r ⟨a, kvs, ds, ex, ha, hr, hs, q⟩
  subst ex
  obtain ⟨u, rfl, rx⟩ := vals1 r
  have hu := c.u
  unfold showOkD at hs
  simp only [Bool.and_eq_true, decide_eq_true_eq] at hs
  obtain ⟨h1, h2, h3, h4⟩ := hs
  cases rx
  obtain ⟨z, hd, vs, rel, o, es, ep, e1, e2, e3, _, e5, _⟩ := dk_rd I.hok ha
  obtain ⟨q1, q2⟩ := kv_reads I hr rel e5 h3
  have fin : ∀ (h' : Heap) (t : Tok) (tk : Nat), (∀ b o, s.heap.get? b = some o → h'.get? b = some o) → EP X pins σ Q (.str (PyData.dict ds).shown t) { s with heap := h', toks := tk } := fun h' t tk hk => ⟨.str (PyData.dict ds).shown, H, I.kept hk, ⟨t, rfl⟩, q⟩
  exact repr_of_reads' (Reads.dict e1 e2.1 e3 q1 q2) h1 (fun _ m => by
    have : sysModules = a := by simpa using m
    rw [this] at hd
    simp at hd) c.gd (by omega) (fun _ _ e => e) (fun h' t tk hk => fin h' t tk hk) h4
theorem ge_reprD {px : Pos} {a : Expr} {f : EV} (hm : X.mg "repr" = none) (c : Cok w k X) (ha : GE w X a f) (hg : Gl X "repr" := by rfl) (he : starEach [a] X.env = (false, eval a X.env) :: starEach [] X.env := by rfl) : GE w X (.Call (.Name "repr" px) [a] [] pos) (k1 pReprD f) := by
  refine ge_b1 (call_reprD c) ?_ hm ha PyProof.Rows.boot_repr hg (by decide) (by decide) he
  intro σ H Hf s φ v d l Q g r hp q
  unfold pReprD at hp
  split at hp
  · rename_i ds
    split at hp
    · rename_i hs
      cases hp
      obtain ⟨a, kvs, rfl, ha, rr⟩ := r.dict g.sub
      rw [c.K]
      exact ⟨a, kvs, ds, rfl, ha, rr.mono g.sub, hs, q.d g (.str _)⟩
    · cases hp
  · cases hp
end
end KV

set_option Elab.async false
set_option linter.all false
set_option maxRecDepth 100000
set_option maxHeartbeats 4000000
/-! KVZ: for k in d, [.. for k in d ..]: the dict is locked as long as it is walked. -/
namespace KV
open PySem L2
open PySem.Spec PyProof.Rows

/-- the dict at d is locked, or unlocked -/
structure Sw (d : Addr) (kk : List (Key × V)) (H H1 : Hp) : Prop where
  ne : ∀ a, a ≠ d → H1 a = H a
  l : Rd H d (.dK kk)
  r : Rd H1 d (.dK kk)
theorem rd_one {H : Hp} {a : Addr} {k1 k2 : List (Key × V)} (h1 : Rd H a (.dK k1)) (h2 : Rd H a (.dK k2)) : k1 = k2 := by
  rcases h1 with h1 | ⟨_, h1⟩ <;> rcases h2 with h2 | ⟨_, h2⟩ <;> (rw [h1] at h2; cases h2; try rfl)
theorem rd_ne {H : Hp} {d a : Addr} {kk : List (Key × V)} {o : HO} (h : Rd H d (.dK kk)) (e : H a = some o) (n1 : ∀ k, o ≠ .dK k) (n2 : ∀ z k, o ≠ .frz z (.dK k)) : a ≠ d := fun z => by
  subst z
  rcases h with h | ⟨_, h⟩
  · rw [h] at e; cases e; exact n1 _ rfl
  · rw [h] at e; cases e; exact n2 _ _ rfl
section
variable {K : PySem.W.Frag} {H H1 : Hp} {d : Addr} {kk : List (Key × V)}
mutual
theorem Rp.swap (s : Sw d kk H H1) : ∀ {v : V} {x : D}, Rp K H v x → Rp K H1 v x
  | _, _, .non => .non
  | _, _, .bl b => .bl b
  | _, _, .int i => .int i
  | _, _, .str x => .str x
  | _, _, .lst h r => .lst (by rw [s.ne _ (rd_ne s.l h (fun _ z => nomatch z) (fun _ _ z => nomatch z))]; exact h) (RpA.swap s r)
  | _, _, .tup h r => .tup (by
      rcases h with ⟨o, h, e⟩ | h
      · exact .inl ⟨o, by rw [s.ne _ (rd_ne s.l h (fun _ z => nomatch z) (fun _ _ z => by cases z))]; exact h, e⟩
      · exact .inr h) (RpA.swap s r)
  | _, _, .dct (a := a) h r => .dct (by
      by_cases e : a = d
      · subst e
        rw [rd_one h s.l]
        exact s.r
      · unfold Rd
        rw [s.ne a e]
        exact h) (RpKv.swap s r)
theorem RpA.swap (s : Sw d kk H H1) : ∀ {vs : List V} {ds : List D}, RpA K H vs ds → RpA K H1 vs ds
  | _, _, .nil => .nil
  | _, _, .cons h r => .cons (Rp.swap s h) (RpA.swap s r)
theorem RpKv.swap (s : Sw d kk H H1) : ∀ {vs : List (Key × V)} {ds : List (D × D)}, RpKv K H vs ds → RpKv K H1 vs ds
  | _, _, .nil => .nil
  | _, _, .cons h r => .cons (Rp.swap s h) (RpKv.swap s r)
end
end
section
variable {w : Wd} {k : Nat} {X : Cx} {pos : Pos} {σ : L2.St} {H Hf H1 Hf1 : Hp} {s s' : Sl} {φ : Nat → List Addr} {Q : VK} {io : List Nat} {d : Addr} {kk : List (Key × V)}
def NoCl (w : Wd) : Prop := ∀ H v n f, ¬ w.CL H v n f
theorem rd_some {u : HO} (h : Rd H d u) : H d ≠ none := by
  rcases h with h | ⟨_, h⟩ <;> (rw [h]; simp)
theorem OR.swap {v : V} {t : T} {F : List Addr} (nc : NoCl w) (sf : Sw d kk Hf Hf1) (keep : ∀ a, a ≠ d → H1 a = H a) (fr : ∀ a ∈ F, Hf a = none) (r : OR w Hf H v t F) : OR w Hf1 H1 v t F := by
  have ne : ∀ a ∈ F, a ≠ d := fun a ha z => rd_some sf.l (z ▸ fr a ha)
  cases r with
  | val r => exact .val (r.swap sf)
  | lst h r => exact .lst (by rw [keep _ (ne _ (by simp))]; exact h) (r.swap sf)
  | dct h r => exact .dct (by rw [keep _ (ne _ (by simp))]; exact h) (r.swap sf)
  | src h1 h2 => exact .src (by rw [keep _ (ne _ (by simp))]; exact h1) (by rw [keep _ (ne _ (by simp))]; exact h2)
  | clo c => exact (nc _ _ _ _ c).elim
  | scr c =>
    refine .scr ?_
    rcases c with c | c
    · refine .inl ?_
      rename_i a ns
      have na : a ≠ d := by
        rcases c with c | ⟨_, c⟩
        · exact rd_ne sf.l c (fun _ z => nomatch z) (fun _ _ z => nomatch z)
        · exact rd_ne sf.l c (fun _ z => nomatch z) (fun _ _ z => by cases z)
      unfold Rd
      rw [sf.ne a na]
      exact c
    · exact .inr c
  | tab h1 h2 h3 h4 r1 r2 r3 nd =>
    exact .tab (by rw [keep _ (ne _ (by simp))]; exact h1) (by rw [keep _ (ne _ (by simp))]; exact h2) (by rw [keep _ (ne _ (by simp))]; exact h3) (by rw [keep _ (ne _ (by simp))]; exact h4) (r1.swap sf) (r2.swap sf) (r3.swap sf) nd
  | tbs e h tr cs =>
    refine .tbs e (by rw [keep _ (ne _ (by simp))]; exact h) tr fun pos cv hc => ?_
    obtain ⟨c, e1, e2⟩ := cs pos cv hc
    exact ⟨c, e1, by rw [sf.ne c (rd_ne sf.l e2 (fun _ z => nomatch (show HO.ext _ = HO.dK _ from z)) (fun _ _ z => nomatch (show HO.ext _ = HO.frz _ _ from z)))]; exact e2⟩
theorem Good.swap (nc : NoCl w) (g : Good w σ H Hf s φ) (sw : Sw d kk H H1) (sf : Sw d kk Hf Hf1) (e : Hf1 d = H1 d) : Good w σ H1 Hf1 s φ := by
  refine ⟨fun a o h => ?_, g.len, fun i t h => ?_, fun i t a h m => ?_, g.dj⟩
  · by_cases z : a = d
    · subst z; rw [← e]; exact h
    · rw [sf.ne a z] at h; rw [sw.ne a z]; exact g.sub a o h
  · obtain ⟨v, h1, r⟩ := g.here i t h
    exact ⟨v, h1, r.swap nc sf sw.ne fun a ha => g.fr i t a h ha⟩
  · have := g.fr i t a h m
    rw [sf.ne a fun z => rd_some sf.l (z ▸ this)]
    exact this
theorem Sw.lock {od : Obj} (h : H d = some (.dK kk)) : Sw d kk H (upd H d (.frz od (.dK kk))) := ⟨fun a n => upd_ne n, .inl h, .inr ⟨od, upd_same⟩⟩
theorem Sw.unlock {od : Obj} (h : H d = some (.frz od (.dK kk))) : Sw d kk H (upd H d (.dK kk)) := ⟨fun a n => upd_ne n, .inr ⟨od, h⟩, .inl upd_same⟩
theorem Stp.unlock {od : Obj} {P P' : Addr → Prop} {H' Hf' : Hp} (h : H d = some (.dK kk)) (hf : Hf d = some (.dK kk)) (q : Stp (upd H d (.frz od (.dK kk))) (upd Hf d (.frz od (.dK kk))) P H' Hf' P') : Stp H Hf P (upd H' d (.dK kk)) (upd Hf' d (.dK kk)) P' := by
  refine ⟨fun a o e => ?_, fun a o e n => ?_, fun a z => ?_⟩
  · by_cases x : a = d
    · subst x; rw [hf] at e; cases e; exact upd_same
    · rw [upd_ne x]; exact q.sub a o (by rw [upd_ne x]; exact e)
  · by_cases x : a = d
    · subst x; rw [h] at e; cases e; exact upd_same
    · rw [upd_ne x]; exact q.keep a o (by rw [upd_ne x]; exact e) n
  · by_cases x : a = d
    · subst x; exact .inr (.inl (by rw [hf]; simp))
    · rw [upd_ne x] at z
      have := q.new a z
      rw [upd_ne x, upd_ne x] at this
      exact this
theorem PQ.lock {od : Obj} {l : L} (nc : NoCl w) (h : H d = some (.dK kk)) (hf : Hf d = some (.dK kk)) (q : PQ w σ H Hf s φ s' l Q) :
    PQ w σ (upd H d (.frz od (.dK kk))) (upd Hf d (.frz od (.dK kk))) s φ s' l (fun v H' => H' d = some (.frz od (.dK kk)) ∧ Q v (upd H' d (.dK kk))) := fun v H' Hf' φ' F g r st => by
  have e1 : Hf' d = some (.frz od (.dK kk)) := st.sub d _ upd_same
  have e2 : H' d = some (.frz od (.dK kk)) := g.sub d _ e1
  refine ⟨e2, q v _ (upd Hf' d (.dK kk)) φ' F (g.swap nc (.unlock e2) (.unlock e1) (by rw [upd_same, upd_same])) ?_ (st.unlock h hf)⟩
  cases r with
  | d r => exact .d (r.swap (.unlock e1))
  | o e => exact .o e
  | t r c => exact .t (r.swap nc (.unlock e1) (fun a n => upd_ne n) fun a ha => (c a ha).1) fun a ha => ⟨by
      have := (c a ha).1
      rw [upd_ne fun z => by rw [z, e1] at this; cases this]
      exact this, (c a ha).2⟩
def EndsL (D : Ends) (d : Addr) (od : Obj) (u : HO) : Ends :=
  ⟨fun σ' H' => H' d = some (.frz od u) ∧ D.nx σ' (upd H' d u), fun v H' => H' d = some (.frz od u) ∧ D.rt v (upd H' d u), fun σ' H' => H' d = some (.frz od u) ∧ D.bk σ' (upd H' d u), fun σ' H' => H' d = some (.frz od u) ∧ D.ct σ' (upd H' d u)⟩
theorem PP.lock {od : Obj} {Dn : Ends} {fl : Fl} (nc : NoCl w) (h : H d = some (.dK kk)) (hf : Hf d = some (.dK kk)) (q : PP w io σ H Hf s φ Dn fl s') :
    PP w io σ (upd H d (.frz od (.dK kk))) (upd Hf d (.frz od (.dK kk))) s φ (EndsL Dn d od (.dK kk)) fl s' := by
  have one : ∀ {σ' : L2.St} {H' Hf' : Hp} {φ' : Nat → List Addr} {P' : Addr → Prop}, Good w σ' H' Hf' s' φ' → Stp (upd H d (.frz od (.dK kk))) (upd Hf d (.frz od (.dK kk))) (Own s φ) H' Hf' P' →
      Hf' d = some (.frz od (.dK kk)) ∧ H' d = some (.frz od (.dK kk)) ∧ Good w σ' (upd H' d (.dK kk)) (upd Hf' d (.dK kk)) s' φ' ∧ Stp H Hf (Own s φ) (upd H' d (.dK kk)) (upd Hf' d (.dK kk)) P' := fun g st => by
    have e1 := st.sub d _ upd_same
    have e2 := g.sub d _ e1
    exact ⟨e1, e2, g.swap nc (.unlock e2) (.unlock e1) (by rw [upd_same, upd_same]), st.unlock h hf⟩
  cases fl with
  | nx => exact fun σ' H' Hf' φ' g st kp => let ⟨_, e2, g2, k2⟩ := one g st; ⟨e2, q σ' _ _ φ' g2 k2 kp⟩
  | bk => exact fun σ' H' Hf' φ' g st kp => let ⟨_, e2, g2, k2⟩ := one g st; ⟨e2, q σ' _ _ φ' g2 k2 kp⟩
  | ct => exact fun σ' H' Hf' φ' g st kp => let ⟨_, e2, g2, k2⟩ := one g st; ⟨e2, q σ' _ _ φ' g2 k2 kp⟩
  | rt t => 
    exact fun v σ' H' Hf' φ' F g r c st kp => by
      obtain ⟨e1, e2, g2, k2⟩ := one g st
      exact ⟨e2, q v σ' _ _ φ' F g2 (r.swap nc (.unlock e1) (fun a n => upd_ne n) fun a ha => (c a ha).1) (fun a ha => ⟨by
        have := (c a ha).1
        rw [upd_ne fun z => by rw [z, e1] at this; cases this]
        exact this, (c a ha).2⟩) k2 kp⟩
/-! ### the keys of a dict, walked -/
def iK0 (i : Nat) : IV := fun s => match s[i]? with
  | some (some (.val (.dict kvs))) => .ok (kvs.map (·.1), s)
  | _ => .no
theorem iK0_ok {i : Nat} {ds : List D} (e : iK0 i s = .ok (ds, s')) : ∃ kvs, s[i]? = some (some (.val (.dict kvs))) ∧ ds = kvs.map (·.1) ∧ s' = s := by
  unfold iK0 at e
  split at e
  · rename_i kvs h
    cases e
    exact ⟨kvs, h, rfl, rfl⟩
  · cases e
theorem Good.dict (g : Good w σ H Hf s φ) {i : Nat} {kvs : List (D × D)} (h : s[i]? = some (some (.val (.dict kvs)))) : ∃ d kk, σ[i]? = some (some (.ref d)) ∧ Rd Hf d (.dK kk) ∧ RpKv w.K Hf kk kvs := by
  obtain ⟨v, e, r⟩ := g.here i _ h
  generalize φ i = F at r
  cases r with
  | val r =>
    cases r with
    | dct h r => exact ⟨_, _, e, h, r⟩
/-- the dict in the slot is locked -/
def Lkd (i : Nat) (σ : L2.St) (H : Hp) : Prop := ∃ d o kk, σ[i]? = some (some (.ref d)) ∧ H d = some (.frz o (.dK kk))
theorem key_at : ∀ {kk : List (Key × V)} {kvs : List (D × D)} {i : Nat} {d : D}, RpKv w.K Hf kk kvs → (kvs.map (·.1))[i]? = some d → ∃ k v, kk[i]? = some (k, v) ∧ d = keyD k
  | _, _, _, _, .nil, h => by simp at h
  | _, _, 0, _, .cons _ _, h => by simp at h; subst h; exact ⟨_, _, rfl, rfl⟩
  | _, _, i + 1, _, .cons _ t, h => by
    obtain ⟨k, v, h1, h2⟩ := key_at (i := i) t (by simpa using h)
    exact ⟨k, v, by simpa using h1, h2⟩
theorem rp_key {K : PySem.W.Frag} {k : Key} : Rp K H (kV k) (keyD k) := by
  cases k
  · exact .int _
  · exact .str _
theorem wk_keys {o : Obj} {kvs : List (D × D)} (h : Hf d = some (.frz o (.dK kk))) (r : RpKv w.K Hf kk kvs) : Wk w (Itk d o kk) (kvs.map (·.1)) Hf := by
  have hl : kk.length = (kvs.map (·.1)).length := by rw [List.length_map, r.length]
  refine ⟨fun i H Hf2 s1 s2 hi => ⟨s2 _ _ (s1 _ _ h), by omega⟩, fun H Hf2 s1 s2 => ⟨s2 _ _ (s1 _ _ h), by omega⟩, fun i H Hf2 x H' y s1 s2 hd yl => ?_⟩
  obtain ⟨rfl, k, v, h1, rfl⟩ := yl
  obtain ⟨k', v', h2, rfl⟩ := key_at r hd
  rw [h1] at h2
  cases h2
  exact ⟨rfl, rp_key⟩
def tIl (w : Wd) (i : Nat) : TI := fun σ H Rv => tI w (iK0 i) σ H Rv ∧ Lkd i σ H
section
variable {x : Str} {px : Pos} {tg : Expr}
theorem gi_keysL (i : Nat) (hN : X.N[i]? = some x) (hv : Vis X.env.scope x) (hd : (x == ("__debug__" : Str)) = false) (hcd : (x == ("__classdict__" : Str)) = false) : PI X tg (.Name x px) (tIl w i) := by
  refine pi_imp (pi_keys (pv i hN hv hd hcd)) fun σ H Rv => ?_
  rintro ⟨⟨Hf, s, φ, ds, s', g, e, q⟩, d', o, kk', e0, hl⟩
  obtain ⟨kvs, h1, rfl, rfl⟩ := iK0_ok e
  obtain ⟨d, kk, e1, hr, rk⟩ := g.dict h1
  rw [e0] at e1
  cases e1
  have hf : Hf d' = some (.frz o (.dK kk)) ∧ kk' = kk := by
    rcases hr with hr | ⟨o', hr⟩
    · have := g.sub _ _ hr
      rw [hl] at this
      cases this
    · have := g.sub _ _ hr
      rw [hl] at this
      cases this
      exact ⟨hr, rfl⟩
  obtain ⟨hf, rfl⟩ := hf
  exact ⟨_, e0, d', o, rfl, .inl ⟨kk', hl, q _ H Hf φ g Stp.refl (wk_keys hf rk)⟩⟩
theorem gs_forK0 {body : List Stmt} {g : GV} {ts : List Nat} {b : SV} (i : Nat) (nc : NoCl w) (c : Cok w k X) (hp : PassesOwn (model X.prog X.w) X.A X.env X.xe) (hg : GG w X tg g ts) (hb : GSs w io X body b)
    (hN : X.N[i]? = some x := by rfl) (hv : Vis X.env.scope x := by first | exact Or.inl rfl | exact Or.inr (Or.inl rfl) | exact Or.inr (Or.inr rfl)) (hd : (x == ("__debug__" : Str)) = false := by decide) (hcd : (x == ("__classdict__" : Str)) = false := by decide) (hio : ∀ i ∈ ts, i ∉ io := by decide)
    (hs : ∀ y, foldedSetIterable (.Name x px) X.env y = pure y := by intro _; rfl) : GS w io X (.For tg (.Name x px) body [] pos) (sFor (iK0 i) g b) := by
  have base := ps_for (pos := pos) hp c.calm (gi_keysL (w := w) (px := px) (tg := tg) i hN hv hd hcd) hg hb hs
  refine ⟨fun pins sh σ H Dn I h => ?_⟩
  have step : ∀ {Dn : Ends} {H : Hp}, tS w io (sFor (iK0 i) g b) Dn σ H → Lkd i σ H → tFor (tIl w i) (tG w g ts) (tS w io b) Dn σ H := fun {Dn H} h lk => by
    obtain ⟨Hf, s, φ, fl, s', gd, e, q⟩ := h
    obtain ⟨⟨ds, s1⟩, h1, h2⟩ := R.bind_eq_ok.mp e
    exact ⟨⟨Hf, s, φ, ds, s1, gd, h1, fun J H1 Hf1 φ1 g1 k1 wk => for_1 hio g1 wk h2 (q.later k1 (fun _ => id) g1)⟩, lk⟩
  obtain ⟨Hf, s, φ, fl, s', gd, e, q⟩ := h
  obtain ⟨⟨ds, s1⟩, h1, h2⟩ := R.bind_eq_ok.mp e
  obtain ⟨kvs, h3, _, _⟩ := iK0_ok h1
  obtain ⟨d, kk, e1, hr, rk⟩ := gd.dict h3
  rcases hr with hr | ⟨o, hr⟩
  · have hH := gd.sub _ _ hr
    exact (ps_lock base).run pins sh σ H Dn I ⟨d, .dK kk, hH, trivial, fun od => step ⟨upd Hf d (.frz od (.dK kk)), s, φ, fl, s', gd.swap nc (.lock hH) (.lock hr) (by rw [upd_same, upd_same]), e, q.lock nc hH hr⟩ ⟨d, od, kk, e1, upd_same⟩⟩
  · exact base.run pins sh σ H Dn I (step ⟨Hf, s, φ, fl, s', gd, e, q⟩ ⟨d, o, kk, e1, gd.sub _ _ hr⟩)
theorem ge_lcK0 {elt : Expr} {ifs : List Expr} {scope : Scope} {g : GV} {ts : List Nat} {c0 : Option BV} {f : EV} (own : List (Str × Nat)) (i : Nat) (nc : NoCl w) (c : Cok w k X) (ok : blkC X.N X.env.scope scope own = true)
    (hg : ∀ (s : Shared) (H : Hp) (C : Addr) (cl : List (Str × Addr)) (fp : List Addr), GG w (X.blk s H scope (compEnvC scope cl C X.env) fp) tg g ts) (ht : ∀ (s : Shared) (H : Hp) (C : Addr) (cl : List (Str × Addr)) (fp : List Addr), GC w (X.blk s H scope (compEnvC scope cl C X.env) fp) ifs c0)
    (he : ∀ (s : Shared) (H : Hp) (C : Addr) (cl : List (Str × Addr)) (fp : List Addr), GE w (X.blk s H scope (compEnvC scope cl C X.env) fp) elt f)
    (hN : X.N[i]? = some x := by rfl) (hv : Vis X.env.scope x := by first | exact Or.inl rfl | exact Or.inr (Or.inl rfl) | exact Or.inr (Or.inr rfl)) (hd : (x == ("__debug__" : Str)) = false := by decide) (hcd : (x == ("__classdict__" : Str)) = false := by decide)
    (hts : ∀ i ∈ ts, i ∈ own.map (·.2) := by decide) (hs : ∀ y, foldedSetIterable (.Name x px) X.env y = pure y := by intro _; rfl) :
    GE w X (.ListComp elt [⟨tg, .Name x px, ifs, 0⟩] scope pos) (kComp (iK0 i) g c0 f (own.map (·.2))) := by
  have base := pe_lc (pos := pos) c.calm c.nd (gi_keysL (w := w) (px := px) (tg := tg) i hN hv hd hcd) (blkOk_by ok) hg ht he hs
  refine ⟨fun pins sh σ H Q I h => ?_⟩
  have step : ∀ {Q : VK} {H : Hp}, tE w (kComp (iK0 i) g c0 f (own.map (·.2))) σ H Q → Lkd i σ H → tLc (tIl w i) (tG w g ts) (tC w c0) (tE w f) (own.map (·.2)) σ H Q := fun {Q H} h lk => ⟨tLc_1 hts h, lk⟩
  obtain ⟨Hf, s, φ, l, s', gd, e, q⟩ := h
  obtain ⟨⟨ds, s1⟩, h1, h2⟩ := R.bind_eq_ok.mp e
  obtain ⟨kvs, h3, _, _⟩ := iK0_ok h1
  obtain ⟨d, kk, e1, hr, rk⟩ := gd.dict h3
  rcases hr with hr | ⟨o, hr⟩
  · have hH := gd.sub _ _ hr
    exact (pe_lock base).run pins sh σ H Q I ⟨d, .dK kk, hH, trivial, fun od => step ⟨upd Hf d (.frz od (.dK kk)), s, φ, l, s', gd.swap nc (.lock hH) (.lock hr) (by rw [upd_same, upd_same]), e, q.lock nc hH hr⟩ ⟨d, od, kk, e1, upd_same⟩⟩
  · exact base.run pins sh σ H Q I (step ⟨Hf, s, φ, l, s', gd, e, q⟩ ⟨d, o, kk, e1, gd.sub _ _ hr⟩)
def iK (i : Nat) : IV := fun s => (kD (kX i) s).bind fun r => match r.1 with
  | .dict kvs => .ok (kvs.map (·.1), r.2)
  | _ => .no
theorem iK_frz {i : Nat} {ds : List D} {s1 : Sl} (g : Good w σ H Hf s φ) (e : iK i s = .ok (ds, s1)) : ∃ Hf1 φ1, Good w σ H Hf1 s1 φ1 ∧ Stp H Hf (Own s φ) H Hf1 (Own s1 φ1) ∧ iK0 i s1 = .ok (ds, s1) := by
  obtain ⟨⟨d, s2⟩, h1, h2⟩ := R.bind_eq_ok.mp e
  simp only at h2
  split at h2
  · rename_i kvs
    cases h2
    unfold kD kX at h1
    split at h1
    · rename_i d' hd'
      cases h1
      exact ⟨Hf, φ, g, Stp.refl, by unfold iK0; rw [hd']⟩
    · rename_i xs hx
      obtain ⟨⟨l, s3⟩, h3, h4⟩ := R.bind_eq_ok.mp h1
      cases h3
      simp only [L.take, hx, T.toD, R.bind_ok] at h4
      cases h4
    · rename_i xs hx
      obtain ⟨⟨l, s3⟩, h3, h4⟩ := R.bind_eq_ok.mp h1
      cases h3
      obtain ⟨v, hv, _⟩ := g.here i _ hx
      obtain ⟨Hf1, φ1, rp, g1, k1⟩ := (RL.o (w := w) (Hf := Hf) (H := H) (s := s) (φ := φ) hv).take g h4
      simp only [L.take, hx, T.toD, R.bind_ok] at h4
      cases h4
      refine ⟨Hf1, φ1, g1, ⟨k1.sub, fun a o h n => k1.keep a o h fun z => z.elim n (fun z => (nomatch z)), fun a z => ?_⟩, ?_⟩
      · rcases k1.new a z with z | z
        · exact .inl (z.elim id fun z => nomatch z)
        · exact .inr z
      · unfold iK0
        rw [List.getElem?_set_self (List.getElem?_eq_some_iff.mp hx).1]
    · cases h1
  · cases h2
theorem gs_forK {body : List Stmt} {g : GV} {ts : List Nat} {b : SV} (i : Nat) (nc : NoCl w) (c : Cok w k X) (hp : PassesOwn (model X.prog X.w) X.A X.env X.xe) (hg : GG w X tg g ts) (hb : GSs w io X body b)
    (hN : X.N[i]? = some x := by rfl) (hv : Vis X.env.scope x := by first | exact Or.inl rfl | exact Or.inr (Or.inl rfl) | exact Or.inr (Or.inr rfl)) (hd : (x == ("__debug__" : Str)) = false := by decide) (hcd : (x == ("__classdict__" : Str)) = false := by decide) (hio : ∀ i ∈ ts, i ∉ io := by decide)
    (hs : ∀ y, foldedSetIterable (.Name x px) X.env y = pure y := by intro _; rfl) : GS w io X (.For tg (.Name x px) body [] pos) (sFor (iK i) g b) :=
  ps_imp (gs_forK0 i nc c hp hg hb hN hv hd hcd hio hs) fun Dn σ H => by
    rintro ⟨Hf, s, φ, fl, s', gd, e, q⟩
    obtain ⟨⟨ds, s1⟩, h1, h2⟩ := R.bind_eq_ok.mp e
    obtain ⟨Hf1, φ1, g1, k1, h3⟩ := iK_frz gd h1
    exact ⟨Hf1, s1, φ1, fl, s', g1, R.bind_eq_ok.mpr ⟨_, h3, h2⟩, q.later k1 (fun _ => id) g1⟩
theorem ge_lcK {elt : Expr} {ifs : List Expr} {scope : Scope} {g : GV} {ts : List Nat} {c0 : Option BV} {f : EV} (own : List (Str × Nat)) (i : Nat) (nc : NoCl w) (c : Cok w k X) (ok : blkC X.N X.env.scope scope own = true)
    (hg : ∀ (s : Shared) (H : Hp) (C : Addr) (cl : List (Str × Addr)) (fp : List Addr), GG w (X.blk s H scope (compEnvC scope cl C X.env) fp) tg g ts) (ht : ∀ (s : Shared) (H : Hp) (C : Addr) (cl : List (Str × Addr)) (fp : List Addr), GC w (X.blk s H scope (compEnvC scope cl C X.env) fp) ifs c0)
    (he : ∀ (s : Shared) (H : Hp) (C : Addr) (cl : List (Str × Addr)) (fp : List Addr), GE w (X.blk s H scope (compEnvC scope cl C X.env) fp) elt f)
    (hN : X.N[i]? = some x := by rfl) (hv : Vis X.env.scope x := by first | exact Or.inl rfl | exact Or.inr (Or.inl rfl) | exact Or.inr (Or.inr rfl)) (hd : (x == ("__debug__" : Str)) = false := by decide) (hcd : (x == ("__classdict__" : Str)) = false := by decide)
    (hts : ∀ i ∈ ts, i ∈ own.map (·.2) := by decide) (hs : ∀ y, foldedSetIterable (.Name x px) X.env y = pure y := by intro _; rfl) :
    GE w X (.ListComp elt [⟨tg, .Name x px, ifs, 0⟩] scope pos) (kComp (iK i) g c0 f (own.map (·.2))) :=
  pe_imp (ge_lcK0 own i nc c ok hg ht he hN hv hd hcd hts hs) fun σ H Q => by
    rintro ⟨Hf, s, φ, l, s', gd, e, q⟩
    obtain ⟨⟨ds, s1⟩, h1, h2⟩ := R.bind_eq_ok.mp e
    obtain ⟨Hf1, φ1, g1, k1, h3⟩ := iK_frz gd h1
    exact ⟨Hf1, s1, φ1, l, s', g1, R.bind_eq_ok.mpr ⟨_, h3, h2⟩, q.later k1 (fun _ => id) g1⟩
end
end
end KV

set_option Elab.async false
set_option linter.all false
set_option maxRecDepth 100000
set_option maxHeartbeats 4000000
/-! KVV: zip(a, b, strict=True) of two tuples that are as long as each other; list(range(..)). -/
namespace KV
open PySem L2
open PySem.Spec PyProof.Rows
abbrev IsZ1 (h : Heap) (z TI TO : Addr) (f0 : Value) : Prop :=
  h.get? z = some { cls := .type "zip", dict := none, data := .fields #[f0, .bool false, .bool true, .ref TI, .ref TO], slots := #[] }
section
variable {prog : Program} {w : World} {A : Around} {E : Value → Shared → Prop} {s : Shared} {z TI TO i1 i2 l1 l2 : Addr} {n1 n2 : Nat} {us vs : Array Value} {f0 : Value}
theorem noe_item {it l : Addr} {i : Nat} {x : Value} {Q : Option Value → Shared → Prop} (gi : s.heap.IsTupleIter it l i) (gl : s.heap.IsTuple l us) (ex : us[i]? = some x)
    (q : ∀ h', h'.IsTupleIter it l (i + 1) → Heap.SameBut it s.heap h' → Q (some x) { s with heap := h' }) : wpAny (model prog w) A (Builtin.SmallTypes.nextOrEnd (.ref it)) Q E s := by
  unfold Builtin.SmallTypes.nextOrEnd
  exact wpAny_bind (wpAny_attempt (RZ.nextOf_tuple_item gi gl ex fun h' a b => wpAny_pure (q h' a b)))
theorem noe_end {it l : Addr} {i : Nat} {Q : Option Value → Shared → Prop} (hh : A.handled = none) (gi : s.heap.IsTupleIter it l i) (gl : s.heap.IsTuple l us) (ex : us[i]? = none)
    (q : ∀ h', Heap.ExtBut it s.heap h' → Q none { s with heap := h' }) : wpAny (model prog w) A (Builtin.SmallTypes.nextOrEnd (.ref it)) Q E s := by
  unfold Builtin.SmallTypes.nextOrEnd
  refine wpAny_bind (wpAny_attempt (RZ.nextOf_tuple_end hh gi gl ex fun h' e b o => ?_))
  obtain ⟨o, ho, hc⟩ := o
  exact wpAny_bind (wpAny_isInstance (T := "StopIteration") (b := true) ⟨o, ho, hc⟩ isSubtype_stop (wpAny_pure (q _ b)))
theorem z1_item {x y a b : Value} {Q : Value → Shared → Prop} (D : ZipApart z TI TO i1 i2 l1 l2) (gz : IsZ1 s.heap z TI TO .none) (gI : IsPair s.heap TI (.ref i1) (.ref i2)) (gO : IsPair s.heap TO a b)
    (ga : s.heap.IsTupleIter i1 l1 n1) (gb : s.heap.IsTupleIter i2 l2 n2) (gl : s.heap.IsTuple l1 us) (gm : s.heap.IsTuple l2 vs) (ex : us[n1]? = some x) (ey : vs[n2]? = some y)
    (q : ∀ h', IsZ1 h' z TI TO (rawInt s.heap.objs.size) → IsPair h' TO x y → h'.IsTupleIter i1 l1 (n1 + 1) → h'.IsTupleIter i2 l2 (n2 + 1) → IsPair h' s.heap.objs.size x y → h'.objs.size = s.heap.objs.size + 1 →
      (∀ c o, c ≠ z → c ≠ TO → c ≠ i1 → c ≠ i2 → s.heap.get? c = some o → h'.get? c = some o) → Q (.ref s.heap.objs.size) { s with heap := h' }) :
    wpAny (model prog w) A (Builtin.«zip.__next__» ⟨[.ref z], []⟩) (fun fin t => ∃ v, fin = .done (.ret v) ∧ Q v t) E s := by
  show wpAny _ _ (field (.ref z) 2 >>= _) _ _ _; refine wpAny_bind (wpAny_field gz rfl (x := .bool true) rfl ?_)
  show wpAny _ _ (field (.ref z) 3 >>= _) _ _ _; refine wpAny_bind (wpAny_field gz rfl (x := .ref TI) rfl (wpAny_bind (wpAny_seqItems gI rfl ?_)))
  show wpAny _ _ (Builtin.SmallTypes.ownedTupleIsFree (.ref z) >>= _) _ _ _; refine wpAny_bind ?_; unfold Builtin.SmallTypes.ownedTupleIsFree
  refine wpAny_bind (wpAny_field gz rfl (x := .none) rfl (wpAny_pure ?_)); simp only [if_true]
  refine wpAny_bind (wpAny_rule (wpAny_bind (wpAny_field gz rfl (x := .ref TO) rfl (wpAny_bind (wpAny_setField_rec gz (by simp) fun g1 z1 b1 => ?_)))))
  replace z1 : IsZ1 g1 z TI TO .ellipsis := z1
  refine wpAny_bind ?_; simp only [List.zipIdx_cons, List.zipIdx_nil, List.forIn_cons, List.forIn_nil]
  refine wpAny_bind (wpAny_bind (wpAny_onRaise ?_)); show wpAny _ _ (Builtin.SmallTypes.nextOrEnd (.ref i1)) _ _ _
  refine noe_item (s := { s with heap := g1 }) (ga.extBut b1.extBut D.i1z) (gl.extBut b1.extBut D.l1z) ex fun g2 a2 b2 => ?_
  have o2 : IsPair g2 TO a b := b2.extBut _ _ D.TOi1 (b1.extBut _ _ D.TOz gO)
  refine wpAny_bind (wpAny_seqItems o2 rfl (wpAny_bind (wpAny_updateSeq_pair o2 fun g3 o3 b3 => ?_)))
  replace o3 : IsPair g3 TO x b := o3
  refine wpAny_bind (wpAny_letGo (wpAny_pure ?_))
  refine wpAny_bind (wpAny_bind (wpAny_onRaise ?_)); show wpAny _ _ (Builtin.SmallTypes.nextOrEnd (.ref i2)) _ _ _
  refine noe_item (s := { s with heap := g3 }) (((gb.extBut b1.extBut D.i2z).extBut b2.extBut D.i12.symm).extBut b3.extBut D.TOi2.symm) (((gm.extBut b1.extBut D.l2z).extBut b2.extBut D.l2i1).extBut b3.extBut D.l2TO) ey fun g4 a4 b4 => ?_
  have o4 : IsPair g4 TO x b := b4.extBut _ _ D.TOi2 o3
  refine wpAny_bind (wpAny_seqItems o4 rfl (wpAny_bind (wpAny_updateSeq_pair o4 fun g5 o5 b5 => ?_)))
  replace o5 : IsPair g5 TO x y := o5
  refine wpAny_bind (wpAny_letGo (wpAny_pure (wpAny_pure ?_)))
  refine wpAny_bind (wpAny_seqItems o5 rfl (wpAny_bind (wpAny_newTuple ?_)))
  have hs : g5.objs.size = s.heap.objs.size := by rw [b5.1, b4.1, b3.1, b2.1, b1.1]
  have z5 : IsZ1 g5 z TI TO .ellipsis := b5.extBut _ _ D.TOz.symm (b4.extBut _ _ D.i2z.symm (b3.extBut _ _ D.TOz.symm (b2.extBut _ _ D.i1z.symm z1)))
  have old : ∀ c o, c ≠ z → c ≠ TO → c ≠ i1 → c ≠ i2 → s.heap.get? c = some o → g5.get? c = some o := fun c o e1 e2 e3 e4 e => b5.extBut _ _ e2 (b4.extBut _ _ e4 (b3.extBut _ _ e2 (b2.extBut _ _ e3 (b1.extBut _ _ e1 e))))
  have a25 : g5.IsTupleIter i1 l1 (n1 + 1) := ((a2.extBut b3.extBut D.TOi1.symm).extBut b4.extBut D.i12).extBut b5.extBut D.TOi1.symm
  have a45 : g5.IsTupleIter i2 l2 (n2 + 1) := a4.extBut b5.extBut D.TOi2.symm
  have zlt : z < g5.objs.size := Heap.lt_size z5
  show wpAny _ _ (Builtin.SmallTypes.ownedTupleHandOut (.ref z) (.ref g5.objs.size) >>= _) _ _ _; refine wpAny_bind ?_; unfold Builtin.SmallTypes.ownedTupleHandOut
  have z6 : IsZ1 (g5.push { cls := .type "tuple", data := .seq #[x, y] }) z TI TO .ellipsis := Heap.get?_push_of_some _ z5
  refine wpAny_bind (wpAny_setField_rec z6 (by simp) fun g7 z7 b7 => ?_)
  replace z7 : IsZ1 g7 z TI TO (rawInt g5.objs.size) := z7
  refine wpAny_setField_rec z7 (by simp) fun g8 z8 b8 => ?_
  replace z8 : IsZ1 g8 z TI TO (rawInt g5.objs.size) := z8
  have up : ∀ c o, c ≠ z → g5.get? c = some o → g8.get? c = some o := fun c o e1 e => b8.extBut _ _ e1 (b7.extBut _ _ e1 (Heap.get?_push_of_some _ e))
  have pr : IsPair g8 g5.objs.size x y := b8.extBut _ _ (Nat.ne_of_gt zlt) (b7.extBut _ _ (Nat.ne_of_gt zlt) (Heap.get?_push_size _ rfl))
  have sz : g8.objs.size = g5.objs.size + 1 := by rw [b8.1, b7.1, Heap.size_push]
  rw [hs] at z8 pr sz
  refine wpAny_pure ⟨_, rfl, ?_⟩; show Q (.ref g5.objs.size) _; rw [hs]
  exact q g8 z8 (up _ _ D.TOz o5) (a25.at fun o e => up _ o D.i1z e) (a45.at fun o e => up _ o D.i2z e) pr sz fun c o e1 e2 e3 e4 e => up c o e1 (old c o e1 e2 e3 e4 e)
theorem z1_end {a b : Value} {Q : Fin → Shared → Prop} (hh : A.handled = none) (D : ZipApart z TI TO i1 i2 l1 l2) (gz : IsZ1 s.heap z TI TO .none) (gI : IsPair s.heap TI (.ref i1) (.ref i2)) (gO : IsPair s.heap TO a b)
    (ga : s.heap.IsTupleIter i1 l1 n1) (gb : s.heap.IsTupleIter i2 l2 n2) (gl : s.heap.IsTuple l1 us) (gm : s.heap.IsTuple l2 vs) (ex : us[n1]? = none) (ey : vs[n2]? = none)
    (q : ∀ h' e, (∀ c o, c ≠ z → c ≠ TO → c ≠ i1 → c ≠ i2 → s.heap.get? c = some o → h'.get? c = some o) → (∃ o, h'.get? e = some o ∧ o.cls = .type "StopIteration") → E (.ref e) { s with heap := h' }) :
    wpAny (model prog w) A (Builtin.«zip.__next__» ⟨[.ref z], []⟩) Q E s := by
  show wpAny _ _ (field (.ref z) 2 >>= _) _ _ _; refine wpAny_bind (wpAny_field gz rfl (x := .bool true) rfl ?_)
  show wpAny _ _ (field (.ref z) 3 >>= _) _ _ _; refine wpAny_bind (wpAny_field gz rfl (x := .ref TI) rfl (wpAny_bind (wpAny_seqItems gI rfl ?_)))
  show wpAny _ _ (Builtin.SmallTypes.ownedTupleIsFree (.ref z) >>= _) _ _ _; refine wpAny_bind ?_; unfold Builtin.SmallTypes.ownedTupleIsFree
  refine wpAny_bind (wpAny_field gz rfl (x := .none) rfl (wpAny_pure ?_)); simp only [if_true]
  refine wpAny_bind (wpAny_rule (wpAny_bind (wpAny_field gz rfl (x := .ref TO) rfl (wpAny_bind (wpAny_setField_rec gz (by simp) fun g1 z1 b1 => ?_)))))
  replace z1 : IsZ1 g1 z TI TO .ellipsis := z1
  refine wpAny_bind ?_; simp only [List.zipIdx_cons, List.zipIdx_nil, List.forIn_cons, List.forIn_nil]
  refine wpAny_bind (wpAny_bind (wpAny_onRaise ?_)); show wpAny _ _ (Builtin.SmallTypes.nextOrEnd (.ref i1)) _ _ _
  refine noe_end (s := { s with heap := g1 }) hh (ga.extBut b1.extBut D.i1z) (gl.extBut b1.extBut D.l1z) ex fun g2 b2 => ?_
  have z2 : IsZ1 g2 z TI TO .ellipsis := b2 _ _ D.i1z.symm z1
  refine wpAny_bind (wpAny_setField_rec z2 (by simp) fun g3 z3 b3 => ?_)
  refine wpAny_bind ?_
  show wpAny _ _ (((Builtin.SmallTypes.nextOrEnd (.ref i2) >>= _) >>= _) >>= _) _ _ _
  refine wpAny_bind (wpAny_bind (wpAny_bind (noe_end (s := { s with heap := g3 }) hh (((gb.extBut b1.extBut D.i2z).extBut b2 D.i12.symm).extBut b3.extBut D.i2z) (((gm.extBut b1.extBut D.l2z).extBut b2 D.l2i1).extBut b3.extBut D.l2z) ey fun g4 b4 => wpAny_pure (wpAny_pure ?_))))
  refine wpAny_bind (wpAny_rule ?_); show wpAny _ _ (newExc (.type "StopIteration") [] >>= _) _ _ _
  refine wpAny_bind ?_; simp only [newExc, newTuple]
  refine wpAny_bind (wpAny_newObj_type ?_ (by size_fits))
  refine wpAny_bind (m := firstArgMember _ _) (wpAny_of_eq (a := Value.none) (by first | rfl | (simp only [firstArgMember]; rfl)) (wpAny_newObj_type ?_ (by size_fits)))
  simp only [raiseNew]; refine wpAny_bind (wpAny_handled ?_)
  first | rw [show A.in1.handled = none from hh] | rw [hh]
  refine wpAny_bind (wpAny_pure (wpAny_throw ?_))
  exact q _ _ (fun c o e1 e2 e3 e4 x => Heap.get?_push_of_some _ (Heap.get?_push_of_some _ (b4 _ _ e4 (b3.extBut _ _ e1 (b2 _ _ e3 (b1.extBut _ _ e1 x)))))) ⟨_, Heap.get?_push_size _ rfl, rfl⟩
/-! ### turns -/
theorem z1_next {x y a b : Value} {Q : Option Value → Shared → Prop} (D : ZipApart z TI TO i1 i2 l1 l2) (gz : IsZ1 s.heap z TI TO .none) (gI : IsPair s.heap TI (.ref i1) (.ref i2)) (gO : IsPair s.heap TO a b)
    (ga : s.heap.IsTupleIter i1 l1 n1) (gb : s.heap.IsTupleIter i2 l2 n2) (gl : s.heap.IsTuple l1 us) (gm : s.heap.IsTuple l2 vs) (ex : us[n1]? = some x) (ey : vs[n2]? = some y)
    (q : ∀ h', IsZ1 h' z TI TO (rawInt s.heap.objs.size) → IsPair h' TO x y → h'.IsTupleIter i1 l1 (n1 + 1) → h'.IsTupleIter i2 l2 (n2 + 1) → IsPair h' s.heap.objs.size x y → h'.objs.size = s.heap.objs.size + 1 →
      (∀ c o, c ≠ z → c ≠ TO → c ≠ i1 → c ≠ i2 → s.heap.get? c = some o → h'.get? c = some o) → Q (some (.ref s.heap.objs.size)) { s with heap := h' }) :
    wpAny (model prog w) A (pyNext (.ref z)) Q E s := by
  have ty : s.TypeIs (.ref z) "zip" := ⟨_, gz, rfl⟩
  unfold pyNext
  exact wpAny_bind (wpAny_attempt (wpAny_callSpecial?_slot (name := Str.ofString "__next__") ty PySem.F.slot_zip_next (wpAny_call_entry PySem.F.slot_zip_next ty PySem.F.entry_zip_next (z1_item D gz gI gO ga gb gl gm ex ey fun h' a1 a2 a3 a4 a5 a6 a7 => wpAny_pure (q h' a1 a2 a3 a4 a5 a6 a7)) (PySem.F.args_zip_next_1 _))))
theorem z1_stop {a b : Value} {Q : Option Value → Shared → Prop} (hh : A.handled = none) (D : ZipApart z TI TO i1 i2 l1 l2) (gz : IsZ1 s.heap z TI TO .none) (gI : IsPair s.heap TI (.ref i1) (.ref i2)) (gO : IsPair s.heap TO a b)
    (ga : s.heap.IsTupleIter i1 l1 n1) (gb : s.heap.IsTupleIter i2 l2 n2) (gl : s.heap.IsTuple l1 us) (gm : s.heap.IsTuple l2 vs) (ex : us[n1]? = none) (ey : vs[n2]? = none)
    (q : ∀ h', (∀ c o, c ≠ z → c ≠ TO → c ≠ i1 → c ≠ i2 → s.heap.get? c = some o → h'.get? c = some o) → Q none { s with heap := h' }) : wpAny (model prog w) A (pyNext (.ref z)) Q E s := by
  have ty : s.TypeIs (.ref z) "zip" := ⟨_, gz, rfl⟩
  unfold pyNext
  refine wpAny_bind (wpAny_attempt (wpAny_callSpecial?_slot (name := Str.ofString "__next__") ty PySem.F.slot_zip_next (wpAny_call_entry PySem.F.slot_zip_next ty PySem.F.entry_zip_next (z1_end hh D gz gI gO ga gb gl gm ex ey fun h' e k o => ?_) (PySem.F.args_zip_next_1 _))))
  obtain ⟨o, ho, hc⟩ := o
  exact wpAny_bind (wpAny_isInstance (T := "StopIteration") (b := true) ⟨o, ho, hc⟩ isSubtype_stop (wpAny_pure (q _ k)))
theorem z1_go {elts : List Expr} {x1} {pos : Pos} {T : Addr} {Q : Unit → Shared → Prop} (gz : IsZ1 s.heap z TI TO (rawInt T)) (q : ∀ h', IsZ1 h' z TI TO .none → Heap.SameBut z s.heap h' → Q () { s with heap := h' }) :
    wpAny (model prog w) A (letOwnedTupleGo (.Tuple elts x1 pos) (.ref z) (.ref T)) Q E s := by
  unfold letOwnedTupleGo; refine wpAny_bind (wpAny_load gz ?_)
  show wpAny _ _ (if (["enumerate", "zip", "dict_itemiterator", "dict_reverseitemiterator", "odict_iterator", "itertools.zip_longest", "itertools.pairwise"].contains "zip" && (#[rawInt T, .bool false, .bool true, .ref TI, .ref TO] : Array Value)[0]? == some (rawInt T)) = true then _ else _) Q E s
  rw [if_pos (by simp)]; refine wpAny_bind (wpAny_rule ?_)
  show wpAny _ _ (setField (.ref z) 0 .none) Q E s; exact wpAny_setField_rec gz (by simp) fun h' a b => q h' a b
theorem z1_iter {Q : Value → Shared → Prop} (gz : IsZ1 s.heap z TI TO f0) (q : Q (.ref z) s) : wpAny (model prog w) A (pyIter (.ref z)) Q E s := by
  have ty : s.TypeIs (.ref z) "zip" := ⟨_, gz, rfl⟩
  refine wpAny_pyIter_slot ty PySem.F.slot_zip_iter (wpAny_call_entry PySem.F.slot_zip_iter ty PySem.F.entry_zip_iter ?_ (PySem.F.args_zip_iter_1 _))
  show wpAny _ _ (ret (.ref z)) _ _ s; exact wpAny_pure ⟨_, rfl, "zip", _, ty, PySem.F.slot_zip_next.lookup, q⟩
end
/-- two tuples side by side, as long as each other -/
def Itz1 (K : PySem.W.Frag) (a b : Addr) : It :=
  ⟨(RZ.ItzT K a b).go, (RZ.ItzT K a b).yld, fun i H => ∃ xs ys : List V, SqT K H a xs ∧ SqT K H b ys ∧ xs.length ≤ i ∧ ys.length ≤ i⟩
theorem turn_z1 {P : Program} {w : World} {K : PySem.W.Frag} {elts : List Expr} {kk : Nat} {tpos : Pos} {a b z TI TO i1 i2 : Addr} (D : ZipApart z TI TO i1 i2 a b) :
    Turn P w K (.Tuple elts kk tpos) (Itz1 K a b) [z, TI, TO, i1, i2] z (fun i h => IsZ1 h z TI TO .none ∧ IsPair h TI (.ref i1) (.ref i2) ∧ (∃ x y, IsPair h TO x y) ∧ h.IsTupleIter i1 a i ∧ h.IsTupleIter i2 b i) where
  mem := by simp
  obj := fun i h st c hc => by
    obtain ⟨gz, gI, ⟨x, y, gO⟩, ⟨o1, e1, _, d1⟩, ⟨o2, e2, _, d2⟩⟩ := st
    have e' : c = z ∨ c = TI ∨ c = TO ∨ c = i1 ∨ c = i2 := by simpa using hc
    rcases e' with rfl | rfl | rfl | rfl | rfl
    · exact ⟨_, gz, fun v q => (nomatch q)⟩
    · exact ⟨_, gI, fun v q => (nomatch q)⟩
    · exact ⟨_, gO, fun v q => (nomatch q)⟩
    · exact ⟨o1, e1, fun v q => by rw [d1] at q; cases q⟩
    · exact ⟨o2, e2, fun v q => by rw [d2] at q; cases q⟩
  keep := fun i h h' st k => by
    obtain ⟨gz, gI, ⟨x, y, gO⟩, ga, gb⟩ := st
    exact ⟨k z (by simp) _ gz, k TI (by simp) _ gI, ⟨x, y, k TO (by simp) _ gO⟩, ga.at fun o q => k i1 (by simp) o q, gb.at fun o q => k i2 (by simp) o q⟩
  item := by
    intro X hP hw hK hc i pins s σ H E I hf st hg
    subst hP hw hK
    obtain ⟨gz, gI, ⟨x0, y0, gO⟩, ga, gb⟩ := st
    obtain ⟨xs, ys, x, y, qx, qy, ex, ey⟩ := hg
    obtain ⟨its, rv, p, _⟩ := I.tuple qx
    obtain ⟨its2, rv2, p2, _⟩ := I.tuple qy
    obtain ⟨u, eu, ru⟩ := rv.get ex
    obtain ⟨u2, eu2, ru2⟩ := rv2.get ey
    have zl : z < s.heap.objs.size := Heap.lt_size gz
    refine z1_next D gz gI gO ga gb p p2 (x := u) (y := u2) (by simpa using eu) (by simpa using eu2) fun h1 z1 o1 a1 b1 pr sz old => ?_
    refine ⟨_, rfl, z1_go (s := { s with heap := h1 }) z1 fun h2 z2 sb => ?_⟩
    have pr2 : h2.get? s.heap.objs.size = some { cls := .type "tuple", data := .seq #[u, u2] } := (sb.2 _ (Nat.ne_of_gt zl)).trans pr
    have nw : ObjOk X.prog X.w (upd H s.heap.objs.size (.tup [x, y])) h2 s.heap.objs.size (.tup [x, y]) := ⟨by show 2 ≤ sizeLine; decide, [u, u2], .cons ru (.cons ru2 .nil), ⟨_, pr2, rfl, _, rfl⟩⟩
    have I1 : Inv X pins σ (upd H s.heap.objs.size (.tup [x, y])) { s with heap := h2 } := by
      refine I.turnedNew (t' := s.toks) (ch := [z, TI, TO, i1, i2]) (fun c o hb q => ?_) hf (Nat.le_refl _) nw
      simp only [List.mem_cons, List.not_mem_nil, or_false, not_or] at hb
      exact (sb.2 c hb.1).trans (old c o hb.1 hb.2.2.1 hb.2.2.2.1 hb.2.2.2.2 q)
    refine ⟨.ref s.heap.objs.size, _, I1, rfl, ⟨_, x, y, rfl, I.hok.fresh (Nat.le_refl _), rfl, fun l hl => by rw [I.tuple_inj hl qx]; exact ex, fun l hl => by rw [I.tuple_inj hl qy]; exact ey⟩, ⟨z2, ?_, ⟨u, u2, ?_⟩, ?_, ?_⟩, fun c hcm => ?_⟩
    · exact (sb.2 _ D.TIz).trans (old _ _ D.TIz D.TITO D.TIi1 D.TIi2 gI)
    · exact (sb.2 _ D.TOz).trans o1
    · exact a1.at fun o q => (sb.2 _ D.i1z).trans q
    · exact b1.at fun o q => (sb.2 _ D.i2z).trans q
    · have lt : c < s.heap.objs.size := by
        have e' : c = z ∨ c = TI ∨ c = TO ∨ c = i1 ∨ c = i2 := by simpa using hcm
        rcases e' with rfl | rfl | rfl | rfl | rfl
        · exact zl
        · exact Heap.lt_size gI
        · exact Heap.lt_size gO
        · obtain ⟨_, e1, _⟩ := ga; exact Heap.lt_size e1
        · obtain ⟨_, e2, _⟩ := gb; exact Heap.lt_size e2
      rw [upd_ne (Nat.ne_of_lt lt)]; exact (hf c hcm).1
  done := by
    intro X hP hw hK hc i pins s σ H E I hf st hg
    subst hP hw hK
    obtain ⟨gz, gI, ⟨x0, y0, gO⟩, ga, gb⟩ := st
    obtain ⟨xs, ys, qx, qy, e1, e2⟩ := hg
    obtain ⟨its, rv, p, _⟩ := I.tuple qx
    obtain ⟨its2, rv2, p2, _⟩ := I.tuple qy
    have m1 := rv.length
    have m2 := rv2.length
    refine z1_stop (I.ok.hd hc) D gz gI gO ga gb p p2 (by simp; omega) (by simp; omega) fun h' old => ⟨rfl, I.turnedL (t' := s.toks) (ch := [z, TI, TO, i1, i2]) (fun c o hb q => ?_) hf⟩
    simp only [List.mem_cons, List.not_mem_nil, or_false, not_or] at hb
    exact old c o hb.1 hb.2.2.1 hb.2.2.2.1 hb.2.2.2.2 q
  self := fun A i s Q E st q => z1_iter st.1 q
/-! ### the call -/
theorem tc_zip1 (a b v : Value) : checkTypeCall "zip" ⟨[a, b], [("strict", v)]⟩ = pure () := by kernel_rfl
theorem nc_zip1 (a b v : Value) : checkBuiltinCall "zip.__new__" ⟨[.type "zip", a, b], [("strict", v)]⟩ = pure () := by kernel_rfl
theorem oi_zip1 (a b c v : Value) : argsOk "object.__init__" ⟨[a, b, c], [("strict", v)]⟩ := by
  unfold argsOk; rw [signature?_of (id := "object.__init__") (n := ['_', '_', 't', 'i', 'n', 'i', '_', '_']) (o := ['t', 'c', 'e', 'j', 'b', 'o']) (by kernel_rfl) PySem.F.owner_object]; kernel_rfl
section
variable {prog : Program} {w : World} {A : Around} {E : Value → Shared → Prop} {s : Shared}
theorem oi_kw {T newId : String} {self a : Value} {rest : List Value} {kw : List (Str × Value)} (hl : typeLookup (.type T) "__init__" = pure (some (.builtin "object.__init__")))
    (hm : Bind.madeBy (.type T) = pure (some newId)) (hne : (some newId != some "object.__new__") = true) :
    Meets (Builtin.«object.__init__» ⟨self :: a :: rest, kw⟩) (fun _ R s => s.TypeIs self T ∧ R (.ok (.ret .none)) s) := by
  refine Meets.of_wp fun prog w A R s hs => ?_
  obtain ⟨hT, hq⟩ := hs
  repeat (any_goals (first | assumption | wp_step))
  exact ⟨_, rfl, hq⟩
theorem callTypeK {T newId : String} {Bn : Builtin} {a : Value} {args : List Value} {kw : List (Str × Value)} {S : PySem.Spec} {Q : Value → Shared → Prop} (ft : TypeCalled T newId "object.__init__") (hne : (some newId != some "object.__new__") = true)
    (hct : checkTypeCall T ⟨a :: args, kw⟩ = pure ()) (hcn : checkBuiltinCall newId ⟨.type T :: a :: args, kw⟩ = pure ()) (hok : ∀ obj, argsOk "object.__init__" ⟨obj :: a :: args, kw⟩)
    (en : entryFor table newId = some Bn) (g : Meets (Bn ⟨.type T :: a :: args, kw⟩) S) (h : S A.in1 (wants (fun obj s1 => s1.TypeIs obj T ∧ Q obj s1) E) s) : wpAny (model prog w) A (call (.type T) (a :: args) kw) Q E s := by
  obtain ⟨c, tl, hmro⟩ := ft.mro
  have hmade := ft.made
  have hsub := ft.sub
  refine wpAny_call (codeAny_of_tree ?_); show wpAny _ _ (callAny (.type T) _) _ _ _
  refine wpAny_pure ⟨Code.quiet_builtin _ (by decide +kernel), codeAny_builtin PySem.F.entry_type_call ?_⟩
  rw [Around.under_plain (weight_type_call_type T (a :: args) kw) (units_type_call_type T (a :: args) kw)]
  have h1 := ft.notType
  have h2 := ft.canCreate
  repeat (any_goals (first | assumption | wp_step))
  refine codeAny_mono (codeAny_call_builtin ft.plain en (wpAny_of_eq hcn (g prog w A.in1 _ s h))) fun r s1 hr => ?_
  cases r with
  | error e => exact hr
  | ok fl =>
    cases fl with
    | ret obj =>
      obtain ⟨hT, hq⟩ := hr
      have hli := ft.init.lookup
      have hbi := ft.init.bind obj
      repeat (any_goals (first | assumption | wp_step))
      refine codeAny_mono (codeAny_call_builtin ft.init.plain PySem.F.entry_object_init (ft.init.check _ _ _ _ _ _ _ _ hT (hok obj) (oi_kw hli hmade hne prog w A.in1 (wants (fun r s2 => r = .none ∧ Q obj s2) E) s1 ⟨hT, rfl, hq⟩))) fun r2 s2 hr2 => ?_
      cases r2 with
      | error e => exact hr2
      | ok fl2 =>
        cases fl2 with
        | ret r =>
          obtain ⟨rfl, hq2⟩ := hr2
          repeat (any_goals (first | assumption | wp_step))
        | _ => exact hr2.elim
    | _ => exact hr.elim
abbrev z1H (h : Heap) (l1 l2 : Addr) : Heap := (RZ.zipTH4 h l1 l2).push { cls := .type "zip", data := .fields #[.none, .bool false, .bool true, .ref (RZ.zipTH2 h l1 l2).objs.size, .ref (RZ.zipTH3 h l1 l2).objs.size] }
theorem meets_z1 (l1 l2 : Addr) (xs ys : Array Value) :
    Meets (Builtin.«zip.__new__» ⟨[.type "zip", .ref l1, .ref l2], [("strict", .bool true)]⟩) (fun _ R s => s.heap.IsTuple l1 xs ∧ s.heap.IsTuple l2 ys ∧ R (.ok (.ret (.ref (RZ.zipTH4 s.heap l1 l2).objs.size))) { s with heap := z1H s.heap l1 l2 }) :=
  .of_wp fun prog w A R s h => by
    obtain ⟨hp, g, d, tk, os⟩ := s
    obtain ⟨g1, g2, h⟩ := h
    have hsub := sub_zip
    have t1 : Heap.IsTuple (Shared.heap ⟨hp, g, d, tk, os⟩) l1 xs := g1
    have t2 : Heap.IsTuple (Shared.heap ⟨hp.push { cls := .type "tuple_iterator", data := .fields #[.ref l1, .int 0 0] }, g, d, tk, os⟩) l2 ys := Heap.IsTuple.push g2 _
    wp_walk using wpAny_pyIter_tuple t1, wpAny_pyIter_tuple t2
    exact ⟨_, rfl, h⟩
/-! ### it is walked -/
theorem call_z1 {l1 l2 : Addr} {xs ys : Array Value} {Q : Value → Shared → Prop} (g1 : s.heap.IsTuple l1 xs) (g2 : s.heap.IsTuple l2 ys)
    (q : ∀ h', IsZ1 h' (s.heap.objs.size + 4) (s.heap.objs.size + 2) (s.heap.objs.size + 3) .none → IsPair h' (s.heap.objs.size + 2) (.ref s.heap.objs.size) (.ref (s.heap.objs.size + 1)) → IsPair h' (s.heap.objs.size + 3) .none .none →
      h'.IsTupleIter s.heap.objs.size l1 0 → h'.IsTupleIter (s.heap.objs.size + 1) l2 0 → (∀ c o, s.heap.get? c = some o → h'.get? c = some o) → Q (.ref (s.heap.objs.size + 4)) { s with heap := h' }) :
    wpAny (model prog w) A (call (.type "zip") [.ref l1, .ref l2] [("strict", .bool true)]) Q E s := by
  refine callTypeK PySem.F.called_zip (by decide) (tc_zip1 _ _ _) (nc_zip1 _ _ _) (fun obj => oi_zip1 obj _ _ _) PySem.F.entry_zip_new (meets_z1 l1 l2 xs ys) ⟨g1, g2, ?_⟩
  have z1 : (RZ.zipTH1 s.heap l1).objs.size = s.heap.objs.size + 1 := Heap.size_push ..
  have z2 : (RZ.zipTH2 s.heap l1 l2).objs.size = s.heap.objs.size + 2 := by rw [Heap.size_push, z1]
  have z3 : (RZ.zipTH3 s.heap l1 l2).objs.size = s.heap.objs.size + 3 := by rw [Heap.size_push, z2]
  have z4 : (RZ.zipTH4 s.heap l1 l2).objs.size = s.heap.objs.size + 4 := by rw [Heap.size_push, z3]
  have k5 : (z1H s.heap l1 l2).get? (RZ.zipTH4 s.heap l1 l2).objs.size = some _ := Heap.get?_push_size _ rfl
  have k4 : (z1H s.heap l1 l2).get? (RZ.zipTH3 s.heap l1 l2).objs.size = some _ := Heap.get?_push_of_some _ (Heap.get?_push_size _ rfl)
  have k3 : (z1H s.heap l1 l2).get? (RZ.zipTH2 s.heap l1 l2).objs.size = some _ := Heap.get?_push_of_some _ (Heap.get?_push_of_some _ (Heap.get?_push_size _ rfl))
  have k2 : (z1H s.heap l1 l2).get? (RZ.zipTH1 s.heap l1).objs.size = some _ := Heap.get?_push_of_some _ (Heap.get?_push_of_some _ (Heap.get?_push_of_some _ (Heap.get?_push_size _ rfl)))
  have k1 : (z1H s.heap l1 l2).get? s.heap.objs.size = some _ := Heap.get?_push_of_some _ (Heap.get?_push_of_some _ (Heap.get?_push_of_some _ (Heap.get?_push_of_some _ (Heap.get?_push_size _ rfl))))
  show _ ∧ _
  rw [z2, z3, z4] at k5; rw [z1, z2] at k3; rw [z3] at k4; rw [z1] at k2; rw [z4]
  exact ⟨⟨_, k5, rfl⟩, q _ k5 k3 k4 ⟨_, k1, rfl, rfl⟩ ⟨_, k2, rfl, rfl⟩ fun c o x => Heap.get?_push_of_some _ (Heap.get?_push_of_some _ (Heap.get?_push_of_some _ (Heap.get?_push_of_some _ (Heap.get?_push_of_some _ x))))⟩
theorem callWith_typeK {pos : Pos} {T : String} {args : List (Bool × Sem Value)} {keywords : List (Option Str × Sem Value)} {Q : Value → Shared → Prop} (hplain : args.any (·.1) = false) (hkw : keywords.any (·.1.isNone) = false)
    (h : wpAny (model prog w) A (evalArgs (.type T) true args keywords) (fun a s1 => wpAny (model prog w) A (call (.type T) a.pos a.kw) Q E s1) E s) : wpAny (model prog w) A (callWith pos (.type T) [] args keywords) Q E s := by
  unfold callWith
  refine wpAny_bind (wpAny_holding (wpAny_mono h (fun a s1 h1 => wpAny_bind (wpAny_standAt ?_)) fun _ _ x => x))
  simp only [hplain, hkw, Bool.or_false]; refine wpAny_bind (wpAny_pure ?_)
  exact wpAny_bind (wpAny_mono h1 (fun r s2 hr => wpAny_bind (wpAny_holding (wpAny_point (wpAny_pure hr)))) fun _ _ x => x)
end
def iZ1A (K : PySem.W.Frag) (ta : TA) : TI := fun σ H R => ta σ H fun vs H1 => ∃ a b xs ys, vs = [.ref a, .ref b] ∧ SqT K H1 a xs ∧ SqT K H1 b ys ∧ R (Itz1 K a b) H1
theorem pi_z1 {X : Cx} {e e2 : Expr} {ta : TA} {p pos tpos cp kp : Pos} {elts : List Expr} {kk : Nat} (hg : Gl X "zip") (hm : X.mg "zip" = none) (ha : PA X [e, e2] ta)
    (hs : backTo pos (starEach [e, e2] X.env) = (false, eval e X.env) :: backTo pos (starEach [e2] X.env) := by rfl) (hpl : (backTo pos (starEach [e, e2] X.env)).any (·.1) = false := by rfl) :
    PI X (.Tuple elts kk tpos) (.Call (.Name "zip" p) [e, e2] [⟨some "strict", .Constant (.bool true) 0 cp, kp⟩] pos) (iZ1A X.K ta) := by
  refine ⟨fun pins s σ H R I h => ?_⟩
  refine wpAny_Call_Name_kw (ld_blt I hg hm PyProof.Rows.boot_zip (callWith_typeK hpl rfl ?_))
  rw [hs]
  refine PyProof.Rows.evalArgs_kwB rfl ?_
  rw [← hs]
  refine thn (ha.run pos pins s σ H _ I h) fun us s1 ⟨vs, H1, I1, r1, q1⟩ => ?_
  refine PyProof.Rows.kws_cons (wpAny_of_eq (a := .bool true) rfl (PyProof.Rows.kws_nil ?_))
  obtain ⟨a, b, xs, ys, rfl, qx, qy, q1⟩ := q1
  cases r1 with
  | cons r rr =>
    cases rr with
    | cons r' rr =>
      cases rr
      cases r
      cases r'
      have fr : ∀ c, c ∈ [s1.heap.objs.size + 4, s1.heap.objs.size + 2, s1.heap.objs.size + 3, s1.heap.objs.size, s1.heap.objs.size + 1] → FpOk X pins H1 c := fun c hc => by
        have le : s1.heap.objs.size ≤ c := by
          simp only [List.mem_cons, List.not_mem_nil, or_false] at hc
          omega
        exact I1.fpOk le (I1.hok.fresh le)
      obtain ⟨its, rv, p1, _⟩ := I1.tuple qx
      obtain ⟨its2, rv2, p2, _⟩ := I1.tuple qy
      obtain ⟨o1, ho1, _⟩ := id p1
      obtain ⟨o2, ho2, _⟩ := id p2
      refine call_z1 (show s1.heap.IsTuple a its.toArray from p1) (show s1.heap.IsTuple b its2.toArray from p2) fun h' gz gI gO ga gb old => z1_iter gz ?_
      have I2 : Inv X pins σ H1 { s1 with heap := h' } := I1.kept (t' := s1.toks) old
      exact ⟨s1.heap.objs.size + 4, [s1.heap.objs.size + 4, s1.heap.objs.size + 2, s1.heap.objs.size + 3, s1.heap.objs.size, s1.heap.objs.size + 1], _, _, H1, rfl, I2, turn_z1 (PySem.W.ktu_apart s1.heap.objs.size a b (Heap.lt_size ho1) (Heap.lt_size ho2)), ⟨gz, gI, ⟨_, _, gO⟩, ga, gb⟩, fr, q1⟩
section
variable {w : Wd} {k : Nat} {X : Cx} {pos : Pos} {Hf : Hp}
theorem wk_z1 {a b : Addr} {vs us : List V} {ds es : List D} (hl : ds.length = es.length) (h : STup w.K Hf a vs) (r : RpA w.K Hf vs ds) (h' : STup w.K Hf b us) (r' : RpA w.K Hf us es) : Wk2 w (Itz1 w.K a b) (zipD ds es) Hf := by
  have W := wk_zipT h r h' r'
  refine ⟨W.1, fun H Hf2 s1 s2 => ?_, W.3⟩
  refine ⟨vs, us, (s2.stup (s1.stup h)).sq, (s2.stup (s1.stup h')).sq, ?_, ?_⟩
  · rw [zipD_len, r.length]; omega
  · rw [zipD_len, r'.length]; omega
/-- zip(a, b, strict=True) of two tuples -/
def iZ1 (f g : EV) : IV := fun s => (kD f s).bind fun r => (kD g r.2).bind fun q => match r.1, q.1 with
  | .tuple xs, .tuple ys => if xs.length = ys.length then .ok (zipD xs ys, q.2) else .no
  | _, _ => .no
theorem gi_z1 (c : Cok w k X) {e e2 : Expr} {f f' : EV} {p tpos cp kp : Pos} {elts : List Expr} {kk : Nat} (hm : X.mg "zip" = none) (he : GE w X e f) (he2 : GE w X e2 f') (hg : Gl X "zip" := by rfl)
    (hs0 : starEach [e, e2] X.env = (false, eval e X.env) :: starEach [e2] X.env := by rfl) (hs2 : starEach [e2] X.env = (false, eval e2 X.env) :: starEach [] X.env := by rfl)
    (hs : backTo pos (starEach [e, e2] X.env) = (false, eval e X.env) :: backTo pos (starEach [e2] X.env) := by rfl) (hpl : (backTo pos (starEach [e, e2] X.env)).any (·.1) = false := by rfl) :
    GI2 w X (.Tuple elts kk tpos) (.Call (.Name "zip" p) [e, e2] [⟨some "strict", .Constant (.bool true) 0 cp, kp⟩] pos) (iZ1 f f') := by
  refine pi_imp (pi_z1 hg hm (pa_cons he (pa_cons he2 pa_nil hs2) hs0) hs hpl) fun σ H Rv => ?_
  rintro ⟨Hf, s, φ, ds, s', gd, e, q⟩
  obtain ⟨⟨d, s1⟩, h1, h2⟩ := R.bind_eq_ok.mp e
  obtain ⟨⟨d2, s2⟩, h3, h4⟩ := R.bind_eq_ok.mp h2
  refine tE_D gd h1 fun v H1 Hf1 φ1 g1 r1 k1 => tE_D g1 h3 fun v2 H2 Hf2 φ2 g2 r2 k2 => ?_
  have k12 := k1.trans k2 (fun _ => id) fun x hx => g1.own_free hx
  have r1' := r1.mono k2.sub
  simp only at h4
  split at h4
  · split at h4
    · rename_i hl
      cases h4
      cases r1' with
      | tup h r =>
        cases r2 with
        | tup h' r' => exact ⟨_, _, _, _, rfl, by rw [c.K]; exact (g2.sub.stup h).sq, by rw [c.K]; exact (g2.sub.stup h').sq, by rw [c.K]; exact q _ H2 Hf2 φ2 g2 k12 (wk_z1 hl h r h' r')⟩
    · cases h4
  · cases h4
end
/-! ### list(range(..)) -/
section
variable {w : Wd} {k : Nat} {X : Cx} {pos : Pos} {Hf H : Hp}
def kLR (i : IV) : EV := fun s => (i s).bind fun r => if szOk r.1.length then .ok (.t (.lst r.1), r.2) else .no
theorem rp_rgV {K : PySem.W.Frag} (a b : Int) : RpA K Hf (rgV a b) (intR a (b - a).toNat) := by
  unfold rgV intR
  generalize List.range (b - a).toNat = l
  induction l with
  | nil => exact .nil
  | cons x r ih => exact .cons (.int _) ih
theorem rgok_of {a b : Int} (h1 : -16000000 ≤ a ∧ a ≤ 16000000) (h2 : -16000000 ≤ b ∧ b ≤ 16000000) (h3 : (b - a).toNat ≤ 16000000) : RgOk a b := ⟨by omega, by omega, by omega, by omega, by omega⟩
theorem ge_lrg1 {a : Expr} {f : EV} {p p2 pos2 : Pos} (hm : X.mg "list" = none) (hm2 : X.mg "range" = none) (c : Cok w k X) (ha : GE w X a f) (hg : Gl X "list" := by rfl) (hg2 : Gl X "range" := by rfl)
    (hs : starEach [a] X.env = (false, eval a X.env) :: starEach [] X.env := by rfl)
    (hs2 : starEach [.Call (.Name "range" p2) [a] [] pos2] X.env = (false, eval (.Call (.Name "range" p2) [a] [] pos2) X.env) :: starEach [] X.env := by rfl) :
    GE w X (.Call (.Name "list" p) [.Call (.Name "range" p2) [a] [] pos2] [] pos) (kLR (iRg1 f)) := by
  refine pe_imp (pe_listRg c.calm hg hm (prg_1 hg2 hm2 ha hs) hs2) fun σ H Q => ?_
  rintro ⟨Hf, s, φ, l, s', gd, e, q⟩
  obtain ⟨⟨ds, s1⟩, e1, e2⟩ := R.bind_eq_ok.mp e
  obtain ⟨⟨d, s2⟩, h1, h2⟩ := R.bind_eq_ok.mp e1
  refine tE_D gd h1 fun v H1 Hf1 φ1 g1 r1 k1 => ?_
  simp only at h2 e2
  split at h2
  · split at h2
    · rename_i n hb
      cases h2
      split at e2
      · rename_i hz
        cases e2
        cases r1
        have hz2 := szOk_le hz
        rw [intR_len] at hz2
        refine ⟨_, rfl, rgok_of (by omega) (by omega) (by omega), fun p hp => (q.later k1 (fun _ => id) g1).lst g1 ?_ hp⟩
        have e3 : n.toNat = (n - 0).toNat := by rw [Int.sub_zero]
        rw [e3]; exact rp_rgV 0 n
      · cases e2
    · cases h2
  · cases h2
theorem ge_lrg2 {a b : Expr} {f f' : EV} {p p2 pos2 : Pos} (hm : X.mg "list" = none) (hm2 : X.mg "range" = none) (c : Cok w k X) (ha : GE w X a f) (hb : GE w X b f') (hg : Gl X "list" := by rfl) (hg2 : Gl X "range" := by rfl)
    (hs : starEach [a, b] X.env = (false, eval a X.env) :: starEach [b] X.env := by rfl) (hs1 : starEach [b] X.env = (false, eval b X.env) :: starEach [] X.env := by rfl) (hpl : (backTo pos2 (starEach [b] X.env)).any (·.1) = false := by rfl)
    (hs2 : starEach [.Call (.Name "range" p2) [a, b] [] pos2] X.env = (false, eval (.Call (.Name "range" p2) [a, b] [] pos2) X.env) :: starEach [] X.env := by rfl) :
    GE w X (.Call (.Name "list" p) [.Call (.Name "range" p2) [a, b] [] pos2] [] pos) (kLR (iRg2 f f')) := by
  refine pe_imp (pe_listRg c.calm hg hm (prg_2 hg2 hm2 ha hb hs hs1 hpl) hs2) fun σ H Q => ?_
  rintro ⟨Hf, s, φ, l, s', gd, e, q⟩
  obtain ⟨⟨ds, s1⟩, e1, e2⟩ := R.bind_eq_ok.mp e
  obtain ⟨⟨d, s2⟩, h1, h2⟩ := R.bind_eq_ok.mp e1
  obtain ⟨⟨d2, s3⟩, h3, h4⟩ := R.bind_eq_ok.mp h2
  refine tE_D gd h1 fun v H1 Hf1 φ1 g1 r1 k1 => tE_D g1 h3 fun v2 H2 Hf2 φ2 g2 r2 k2 => ?_
  simp only at h4 e2
  split at h4
  · split at h4
    · rename_i hb
      cases h4
      split at e2
      · rename_i hz
        cases e2
        cases r1
        cases r2
        have hz2 := szOk_le hz
        rw [intR_len] at hz2
        exact ⟨_, _, rfl, rfl, rgok_of hb.1 hb.2 hz2, fun p hp => (q.later (k1.trans k2 (fun _ => id) fun x hx => g1.own_free hx) (fun _ => id) g2).lst g2 (rp_rgV _ _) hp⟩
      · cases e2
    · cases h4
  · cases h4
end
/-! ### sorted(..) of ints -/
def insI (x : Int) : List Int → List Int
  | [] => [x]
  | y :: r => if y < x then y :: insI x r else x :: y :: r
def sortI : List Int → List Int
  | [] => []
  | x :: r => insI x (sortI r)
theorem insI_perm (x : Int) : ∀ l : List Int, (insI x l).Perm (x :: l)
  | [] => List.Perm.refl _
  | y :: r => by
    unfold insI
    split
    · exact ((insI_perm x r).cons y).trans (List.Perm.swap x y r)
    · exact List.Perm.refl _
theorem sortI_perm : ∀ l : List Int, (sortI l).Perm l
  | [] => List.Perm.refl _
  | x :: r => (insI_perm x _).trans ((sortI_perm r).cons x)
theorem insI_pw {x : Int} : ∀ {l : List Int}, l.Pairwise (· ≤ ·) → (insI x l).Pairwise (· ≤ ·)
  | [], _ => List.pairwise_singleton _ _
  | y :: r, h => by
    obtain ⟨h1, h2⟩ := List.pairwise_cons.mp h
    unfold insI
    split
    · refine List.pairwise_cons.mpr ⟨fun z hz => ?_, insI_pw h2⟩
      rcases List.mem_cons.mp ((insI_perm x r).mem_iff.mp hz) with e | e
      · omega
      · exact h1 z e
    · refine List.pairwise_cons.mpr ⟨fun z hz => ?_, h⟩
      rcases List.mem_cons.mp hz with e | e
      · omega
      · have := h1 z e; omega
theorem sortI_pw : ∀ l : List Int, (sortI l).Pairwise (· ≤ ·)
  | [] => List.Pairwise.nil
  | x :: r => insI_pw (sortI_pw r)
theorem pwI_one : ∀ {l m : List Int}, l.Perm m → l.Pairwise (· ≤ ·) → m.Pairwise (· ≤ ·) → l = m
  | [], m, p, _, _ => p.nil_eq
  | a :: l, [], p, _, _ => absurd p.symm.nil_eq (by simp)
  | a :: l, b :: m, p, h1, h2 => by
    obtain ⟨a1, a2⟩ := List.pairwise_cons.mp h1
    obtain ⟨b1, b2⟩ := List.pairwise_cons.mp h2
    have hab : a ≤ b := by
      rcases List.mem_cons.mp (p.mem_iff.mpr (List.mem_cons_self ..)) with e | e
      · omega
      · exact a1 b e
    have hba : b ≤ a := by
      rcases List.mem_cons.mp (p.mem_iff.mp (List.mem_cons_self ..)) with e | e
      · omega
      · exact b1 a e
    have e : a = b := by omega
    subst e
    rw [pwI_one (List.Perm.cons_inv p) a2 b2]
theorem sortI_the {ys xs : List Int} (p : ys.Perm xs) (h : ys.Pairwise (· ≤ ·)) : ys = sortI xs := pwI_one (p.trans (sortI_perm xs).symm) h (sortI_pw xs)
theorem ints_pt : ∀ {vs : List Value} {ss : List Int}, vs.length = ss.length → (∀ (j : Nat) (v : Value), vs[j]? = some v → ∃ (x : Int) (t : Tok), ss[j]? = some x ∧ v = Value.int x t) → IntsAre vs ss
  | [], [], _, _ => .nil
  | [], _ :: _, h, _ => by simp at h
  | _ :: _, [], h, _ => by simp at h
  | v :: vs, x :: ss, h, k => by
    obtain ⟨y, t, e1, rfl⟩ := k 0 v rfl
    simp at e1
    subst e1
    exact .cons _ _ (ints_pt (by simpa using h) fun j v hj => by simpa using k (j + 1) v (by simpa using hj))
theorem vals_of_ints : ∀ {vs : List Value} {ns : List Int}, IntsAre vs ns → Vals (ns.map V.int) vs
  | _, _, .nil => .nil
  | _, _, .cons _ t r => .cons ⟨t, rfl⟩ (vals_of_ints r)
def rSortI (K : PySem.W.Frag) : List V → Hp → VK → Prop := fun vs H Q => ∃ (a : Addr) (kvs : List (Key × V)) (ss : List Int), vs = [V.ref a] ∧ Rd H a (.dK kvs) ∧ kvs.map (·.1) = ss.map Sum.inl ∧ ss.length < 64 ∧
  ∀ (p : Addr), H p = none → Q (.ref p) (upd H p (.lst ((sortI ss).map V.int)))
section
open PySem.W PySem.Calls
theorem cr_sortI {X : Cx} (hc : X.calm = true) : CallR X (.builtin "sorted") (rSortI X.K) := by
  intro pins s σ H vs us Q I r h
  obtain ⟨a, kvs, ss, rfl, ha, hk, h64, q⟩ := h
  rw [Vals.ref1 r]
  obtain ⟨hlen, hbig, prs, rel, hd⟩ : ObjOk X.prog X.w _ _ a (.dK kvs) := ha.ok I.hok
  obtain ⟨ep, hat⟩ := hd.dictAt
  have hh := I.ok.hd hc
  have hks : prs.map (·.1) = ss.map Sum.inl := (kv_key rel).trans hk
  have hpl : prs.length = ss.length := by have := congrArg List.length hks; simpa using this
  refine Calls.call_function_entry kind_sorted plain_sorted entry_sorted (args_sorted1 _) ?_
  unfold Builtin.«sorted»
  refine wpAny_bind (m := checkCount "sorted" 1 1 _) (wpAny_pure ?_)
  refine wpAny_bind (kdu_collect (A := X.A.in1) (kdl_dict (knd := mixKind X.prog X.w) (kvs := prs) (ep := ep) hbig) hh hat (by rw [hpl, sizeLine_eq]; omega) fun h' tk acc k1 items => ?_)
  have hS : IntsAre acc.toList ss := ints_pt (by rw [Array.length_toList, items.1, hpl]) fun j v hj => by
    obtain ⟨k, x, e1, e2⟩ := items.2 j v (by rw [← Array.getElem?_toList]; exact hj)
    have e3 : (ss.map (Sum.inl : Int → Key))[j]? = some k := by rw [← hks, List.getElem?_map, e1]; rfl
    rw [List.getElem?_map] at e3
    obtain ⟨y, e4, e5⟩ := Option.map_eq_some_iff.mp e3
    subst e5
    rcases keyIs_shape (show keyIs (Sum.inl y) v = true from e2) with ⟨i, t, e6, e7⟩ | ⟨z, t, e6, _⟩
    · cases e6
      exact ⟨y, t, e4, e7⟩
    · cases e6
  have hvl : acc.toList.length = ss.length := hS.length
  refine wpAny_bind (wpAny_newList ?_ (by rw [hvl, sizeLine_eq]; omega))
  have hoL : (h'.push (seqObj "list" acc.toList.toArray 0)).get? h'.objs.size = some (seqObj "list" acc.toList.toArray 0) := Heap.get?_push_size _ rfl
  refine wpAny_bind (wpAny_holding (wpAny_call_entry slot_list_sort ⟨_, hoL, rfl⟩ entry_list_sort (list_sort_treeAny hoL hS (by rw [hvl, sizeLine_eq]; omega) fun out ys b1 b2 b3 => ⟨_, rfl, ?_⟩) (args_list_sort _)))
  have ey := sortI_the b2 b3
  subst ey
  obtain ⟨c, hcc⟩ := sortedHeap_at (vs := acc.toList) (out := out) hoL
  have hn : H h'.objs.size = none := (I.hok.kept k1).fresh (Nat.le_refl _)
  have hg : s.heap.get? h'.objs.size = none := by
    cases e : s.heap.get? h'.objs.size with
    | none => rfl
    | some u => exact absurd (Heap.lt_size (k1 _ _ e)) (Nat.lt_irrefl _)
  have old : ∀ b o, s.heap.get? b = some o → (sortedHeap (h'.push (seqObj "list" acc.toList.toArray 0)) h'.objs.size acc.toList out).get? b = some o := fun b o e => by
    have e1 := k1 b o e
    have hlt := Heap.lt_size e1
    rw [sortedHeap_old (Nat.ne_of_lt hlt) (by rw [size_push']; exact Nat.lt_succ_of_lt hlt)]
    exact Heap.get?_push_of_some _ e1
  refine wpAny_pure ⟨_, rfl, ?_⟩
  exact ⟨.ref h'.objs.size, upd H h'.objs.size (.lst ((sortI ss).map V.int)), I.laidN (t' := tk) old hg hn ⟨by rw [List.length_map, (sortI_perm ss).length_eq, sizeLine_eq]; omega, out.toList, c, vals_of_ints b1, by rw [Array.toArray_toList]; exact hcc⟩, rfl, q _ hn⟩
end
def intsOfD : List D → Option (List Int)
  | [] => some []
  | .int x :: r => (intsOfD r).map (x :: ·)
  | _ :: _ => none
theorem intsOfD_eq : ∀ {ds : List D} {ss : List Int}, intsOfD ds = some ss → ds = ss.map PyData.int
  | [], ss, h => by cases h; rfl
  | d :: r, ss, h => by
    cases d <;> first | cases h | skip
    unfold intsOfD at h
    obtain ⟨q, h1, rfl⟩ := Option.map_eq_some_iff.mp h
    rw [intsOfD_eq h1]
    rfl
theorem intsOfD_map : ∀ {ss : List Int}, intsOfD (ss.map PyData.int) = some ss
  | [] => rfl
  | x :: r => by
    rw [List.map_cons]
    unfold intsOfD
    rw [intsOfD_map]
    rfl
/-- sorted(..) of texts, or of a dict's numbers -/
def pSort2 (d : D) : R L := match pSorted d with
  | .ok l => .ok l
  | _ => match d with
    | .dict kvs => match intsOfD (kvs.map (·.1)) with
      | some ss => if ss.length < 64 then .ok (.t (.lst ((sortI ss).map PyData.int))) else .no
      | none => .no
    | _ => .no
section
variable {w : Wd} {k : Nat} {X : Cx} {pos : Pos} {Hf H : Hp}
theorem cr_sort2 (hc : X.calm = true) : CallR X (.builtin "sorted") (fun vs H Q => rSortAny X.K vs H Q ∨ rSortI X.K vs H Q) := by
  intro pins s σ H vs us Q I r h
  rcases h with h | h
  · exact cr_sortAny hc pins s σ H vs us Q I r h
  · exact cr_sortI hc pins s σ H vs us Q I r h
theorem rp_ints {K : PySem.W.Frag} : ∀ {ss : List Int}, RpA K Hf (ss.map V.int) (ss.map PyData.int)
  | [] => .nil
  | _ :: _ => .cons (.int _) rp_ints
theorem rpkv_keysI {K : PySem.W.Frag} : ∀ {kvs : List (Key × V)} {ds : List (D × D)} {ss : List Int}, RpKv K Hf kvs ds → ds.map (·.1) = ss.map PyData.int → kvs.map (·.1) = ss.map Sum.inl
  | _, _, [], .nil, _ => rfl
  | _, _, [], .cons _ _, h => by simp at h
  | _, _, _ :: _, .nil, h => by simp at h
  | _, _, x :: ss, .cons (k := k) _ t, h => by
    rw [List.map_cons, List.map_cons, List.cons.injEq] at h
    have e : k = Sum.inl x := by
      cases k with
      | inl i => cases h.1; rfl
      | inr y => cases h.1
    rw [List.map_cons, List.map_cons, rpkv_keysI t h.2, e]
theorem u_sort2 (c : Cok w k X) : U1 w (fun v H Q => rSortAny X.K [v] H Q ∨ rSortI X.K [v] H Q) pSort2 := by
  intro σ H Hf s φ v d l Q g r hp q
  unfold pSort2 at hp
  split at hp
  · rename_i l' hl
    cases hp
    exact .inl (u_sorted c σ H Hf s φ v d l Q g r hl q)
  · split at hp
    · split at hp
      · rename_i kvs ss hs
        split at hp
        · rename_i h64
          cases hp
          obtain ⟨a, ks, rfl, ha, ra⟩ := r.dict g.sub
          exact .inr ⟨a, ks, ss, rfl, ha, rpkv_keysI ra (intsOfD_eq hs), h64, fun p hp => q.lst g rp_ints hp⟩
        · cases hp
      · cases hp
    · cases hp
theorem ge_sort2 (hm : X.mg "sorted" = none) (c : Cok w k X) {a : Expr} {f : EV} {px : Pos} (ha : GE w X a f) (hg : Gl X "sorted" := by rfl) (he : starEach [a] X.env = (false, eval a X.env) :: starEach [] X.env := by rfl) : GE w X (.Call (.Name "sorted" px) [a] [] pos) (k1 pSort2 f) :=
  ge_b1 (cr_sort2 c.calm) (u_sort2 c) hm ha (by decide +kernel) hg (by decide) (by decide) he
end
/-! ### the signs of a text -/
def signsD (x : Str) : List D := x.cps.toList.map fun c => .str ⟨#[c]⟩
def iTxt (f : EV) : IV := fun s => (kD f s).bind fun r => match r.1 with
  | .str x => .ok (signsD x, r.2)
  | _ => .no
section
variable {w : Wd} {k : Nat} {X : Cx} {pos : Pos} {Hf H : Hp}
theorem wk_txt {x : Str} : Wk w (Its x) (signsD x) Hf := by
  have len : (signsD x).length = x.cps.size := by simp [signsD]
  refine ⟨fun i H Hf2 s1 s2 hi => by rw [len] at hi; exact hi, fun H Hf2 s1 s2 => by rw [len]; exact Nat.le_refl _, fun i H Hf2 v H' d s1 s2 hd y => ?_⟩
  obtain ⟨rfl, c, hc, rfl⟩ := y
  have e : d = .str ⟨#[c]⟩ := by
    simp only [signsD, List.getElem?_map, Array.getElem?_toList, hc, Option.map_some] at hd
    exact (Option.some.inj hd).symm
  subst e
  exact ⟨rfl, .str _⟩
theorem gi_txt (c : Cok w k X) {tg e : Expr} {f : EV} (he : GE w X e f) : GI w X tg e (iTxt f) := by
  refine pi_imp (pi_str he) fun σ H Rv => ?_
  rintro ⟨Hf, s, φ, ds, s', gd, e, q⟩
  obtain ⟨⟨d, s1⟩, h1, h2⟩ := R.bind_eq_ok.mp e
  refine tE_D gd h1 fun v H1 Hf1 φ1 g1 r1 k1 => ?_
  simp only at h2
  split at h2
  · cases h2
    cases r1
    exact ⟨_, rfl, q _ H1 Hf1 φ1 g1 k1 wk_txt⟩
  · cases h2
end
/-! ### dict(zip(a, b)) of two lists -/
def kDictZipL (f g : EV) : EV := fun s => (kD f s).bind fun r => (kD g r.2).bind fun q => match r.1, q.1 with
  | .list xs, .list ys => if xs.all (fun x => (keyOf x).isSome) then .ok (.t (.dct (mergeD [] (xs.zip ys))), q.2) else .no
  | _, _ => .no
def tDzL (K : PySem.W.Frag) (ta : TA) : TE := fun σ H Q => ta σ H fun vs H1 => ∃ (a b : Addr) (ks : List Key) (ys : List V), vs = [.ref a, .ref b] ∧ SqL K H1 a (ks.map kV) ∧ SqL K H1 b ys ∧ ∀ p, H1 p = none → Q (.ref p) (upd H1 p (.dK (mergeK [] (ks.zip ys))))
section
variable {w : Wd} {k : Nat} {X : Cx} {pos : Pos} {σ : L2.St} {H Hf : Hp} {s s' : Sl} {φ : Nat → List Addr} {Q : VK}
theorem pe_dzL {e e2 : Expr} {ta : TA} {p p2 pos2 : Pos} (hcalm : X.calm = true) (hg : Gl X "dict") (hm : X.mg "dict" = none) (hg2 : Gl X "zip") (hm2 : X.mg "zip" = none) (ha : PA X [e, e2] ta)
    (hs : starEach [e, e2] X.env = (false, eval e X.env) :: starEach [e2] X.env) (hpl : (backTo pos2 (starEach [e2] X.env)).any (·.1) = false)
    (hs2 : starEach [.Call (.Name "zip" p2) [e, e2] [] pos2] X.env = (false, eval (.Call (.Name "zip" p2) [e, e2] [] pos2) X.env) :: starEach [] X.env) :
    PE X (.Call (.Name "dict" p) [.Call (.Name "zip" p2) [e, e2] [] pos2] [] pos) (tDzL X.K ta) := by
  refine ⟨fun pins s σ H Q I h => ?_⟩
  refine Call_ (ld_blt I hg hm boot_dict (PyProof.Rows.callWith_type1 (args_cons (Call_ (ld_blt I hg2 hm2 PyProof.Rows.boot_zip (PyProof.Rows.callWith_type1 (thn (ha.run pos2 pins s σ H _ I h) fun us s1 ⟨vs, H1, I1, r1, q1⟩ => ?_) hs hpl))) hs2) hs2 rfl))
  obtain ⟨a, b, ks, ys, ex, hx, hy, q⟩ := q1
  subst ex
  cases r1 with
  | cons r rr =>
    cases rr with
    | cons r' rr =>
      cases rr
      cases r
      cases r'
      obtain ⟨it1, v1, t1, z1⟩ := I1.list hx
      obtain ⟨it2, v2, t2, z2⟩ := I1.list hy
      have T1 : s1.heap.IsList a it1.toArray := t1.isList
      have T2 : s1.heap.IsList b it2.toArray := t2.isList
      have l1 : it1.length = ks.length := by rw [← v1.length, List.length_map]
      have l2 : it2.length = ys.length := v2.length.symm
      refine call_zip_2 T1 T2 fun h' gz gI gO ga gb hsz hk => args_nil ?_
      have D := PySem.W.ktu_apart s1.heap.objs.size a b t1.lt t2.lt
      refine PySem.call_dict_pairs (s := { s1 with heap := h' }) (knd := mixKind X.prog X.w) (kvs := ks.zip it2) (PairArg.zip _ _ _ _ _ _ _ D it1.toArray it2.toArray) (I1.ok.hd hcalm)
        ⟨gz, gI, ⟨_, _, gO⟩, ga, gb, T1.at fun o e => hk _ o e, T2.at fun o e => hk _ o e⟩ ⟨?_, fun i key v h => ?_⟩ ?_ fun g' tk hd' kp => ?_
      · rw [List.length_zip, List.size_toArray, List.size_toArray, l1]
      · obtain ⟨h1, h2⟩ := h
        have h1' : it1[i]? = some key := by simpa using h1
        have h2' : it2[i]? = some v := by simpa using h2
        have hi : i < ks.length := by rw [← l1]; exact (List.getElem?_eq_some_iff.mp h1').1
        obtain ⟨u, hu, ru⟩ := v1.get (show (ks.map kV)[i]? = some (kV ks[i]) by rw [List.getElem?_map, List.getElem?_eq_getElem hi]; rfl)
        rw [h1'] at hu
        cases hu
        exact ⟨ks[i], by rw [List.getElem?_zip_eq_some]; exact ⟨List.getElem?_eq_getElem hi, h2'⟩, kV_is (P := X.prog) (w := X.w) ru⟩
      · rw [List.size_toArray, List.size_toArray]
        exact Nat.le_trans (Nat.min_le_left _ _) (by rw [← v1.length]; exact z1)
      · have old : ∀ c o, s1.heap.get? c = some o → g'.get? c = some o := fun c o e => by
          have hc := Heap.lt_size e
          refine kp c o (fun hm => ?_) (hk c o e)
          simp only [List.mem_cons, List.not_mem_nil, or_false] at hm
          rcases hm with z | z | z | z
          · exact absurd hc (by rw [z]; exact Nat.not_lt.mpr (Nat.le_add_right _ _))
          · exact absurd hc (by rw [z]; exact Nat.not_lt.mpr (Nat.le_add_right _ _))
          · exact absurd hc (by rw [z]; exact Nat.lt_irrefl _)
          · exact absurd hc (by rw [z]; exact Nat.not_lt.mpr (Nat.le_add_right _ _))
        have hbig : (h'.objs.size == sysModules) = false := beq_eq_false_iff_ne.mpr (Nat.ne_of_gt (Nat.lt_of_lt_of_le I1.big (by rw [hsz]; exact Nat.le_add_right _ _)))
        have hlen : (mergeK [] (ks.zip ys)).length ≤ sizeLine := by
          refine Nat.le_trans (length_mergeK _ []) ?_
          rw [List.length_nil, Nat.zero_add, List.length_zip, ← l1]
          exact Nat.le_trans (Nat.min_le_left _ _) (by rw [← v1.length]; exact z1)
        exact ⟨.ref h'.objs.size, upd H1 h'.objs.size (.dK (mergeK [] (ks.zip ys))), I1.laid (t' := tk) old (by rw [hsz]; exact Nat.le_add_right _ _) (show ObjOk X.prog X.w _ _ _ (.dK (mergeK [] (ks.zip ys))) from ⟨hlen, hbig, merged [] (ks.zip it2), L2.KV.merge (zip_kv ks v2) .nil, hd'⟩), rfl, q _ (I1.hok.fresh (by rw [hsz]; exact Nat.le_add_right _ _))⟩
theorem ge_dictZipL (hm : X.mg "dict" = none) (hm2 : X.mg "zip" = none) (c : Cok w k X) {e e2 : Expr} {f f' : EV} {p p2 pos2 : Pos} (he : GE w X e f) (he2 : GE w X e2 f') (hg : Gl X "dict" := by rfl) (hg2 : Gl X "zip" := by rfl)
    (hs : starEach [e, e2] X.env = (false, eval e X.env) :: starEach [e2] X.env := by rfl) (hs2 : starEach [e2] X.env = (false, eval e2 X.env) :: starEach [] X.env := by rfl) (hpl : (backTo pos2 (starEach [e2] X.env)).any (·.1) = false := by rfl)
    (hs3 : starEach [.Call (.Name "zip" p2) [e, e2] [] pos2] X.env = (false, eval (.Call (.Name "zip" p2) [e, e2] [] pos2) X.env) :: starEach [] X.env := by rfl) :
    GE w X (.Call (.Name "dict" p) [.Call (.Name "zip" p2) [e, e2] [] pos2] [] pos) (kDictZipL f f') := by
  refine pe_imp (pe_dzL c.calm hg hm hg2 hm2 (pa_cons he (pa_cons he2 pa_nil hs2) hs) hs hpl hs3) fun σ H Q => ?_
  rintro ⟨Hf, s, φ, l, s', gd, e, q⟩
  obtain ⟨⟨d, s1⟩, h1, h2⟩ := R.bind_eq_ok.mp e
  obtain ⟨⟨d2, s2⟩, h3, h4⟩ := R.bind_eq_ok.mp h2
  refine tE_D gd h1 fun v H1 Hf1 φ1 g1 r1 k1 => tE_D g1 h3 fun v2 H2 Hf2 φ2 g2 r2 k2 => ?_
  have k12 := k1.trans k2 (fun _ => id) fun x hx => g1.own_free hx
  have r1' := r1.mono k2.sub
  simp only at h4
  split at h4
  · split at h4
    · rename_i hall
      cases h4
      cases r1' with
      | lst h r =>
        cases r2 with
        | lst h' r' =>
          obtain ⟨ks, rfl, rfl⟩ := keys_rp r hall
          exact ⟨_, _, ks, _, rfl, SqL.of (g2.sub _ _ h), SqL.of (g2.sub _ _ h'), fun p hp => (q.later k12 (fun _ => id) g2).dct g2 (merge_rp (zip_rp ks r') .nil) hp⟩
    · cases h4
  · cases h4
end
end KV

set_option Elab.async false
set_option linter.all false
set_option maxRecDepth 100000
set_option maxHeartbeats 4000000
/-! KVS: denotations run: loops by what stays true. -/
namespace KV
open PySem L2

namespace R
variable {α β : Type}
theorem W_of {r : R α} {a : α} {Q : α → Prop} (e : r = .ok a) (q : Q a) : r.W Q := by rw [e]; exact q
theorem W_get {r : R α} {Q : α → Prop} (h : r.W Q) : ∃ a, r = .ok a ∧ Q a := W_iff.mp h
end R

theorem run_mk {n : Nat} {io : List Nat} {b : SV} {ts : List T} : (Def.mk n io b).run ts = (b (ts.map some ++ List.replicate (n - ts.length) none)).bind fun r => (endOf r.1).bind fun t => (outs io r.2).bind fun os => .ok (t, os) := rfl
theorem sCons_nx {f g : SV} {s s1 : Sl} (h : f s = .ok (.nx, s1)) : sCons f g s = g s1 := by
  show (f s).bind _ = _
  rw [h]; rfl
theorem sCons_rt {f g : SV} {s s1 : Sl} {t : T} (h : f s = .ok (.rt t, s1)) : sCons f g s = .ok (.rt t, s1) := by
  show (f s).bind _ = _
  rw [h]; rfl
theorem run_rt {n : Nat} {io : List Nat} {b : SV} {ts : List T} {t : T} {s1 : Sl} {os : List T} (h : b (ts.map some ++ List.replicate (n - ts.length) none) = .ok (.rt t, s1)) (ho : outs io s1 = .ok os) : (Def.mk n io b).run ts = .ok (t, os) := by
  rw [run_mk, h]
  simp only [R.bind_ok, endOf, ho]
/-! ### for -/
theorem forD_inv {g : GV} {b : SV} {ds : List D} (I : Nat → Sl → Prop) (h : ∀ i x s, ds[i]? = some x → I i s → (g x s).W fun s1 => (b s1).W fun r => (r.1 = .nx ∨ r.1 = .ct) ∧ I (i + 1) r.2) :
    ∀ {k : Nat} {s : Sl}, I k s → k ≤ ds.length → (forD g b (ds.drop k) s).W fun r => r.1 = .nx ∧ I ds.length r.2 := by
  intro k s hi hk
  generalize hn : ds.length - k = n
  induction n generalizing k s with
  | zero =>
    have : k = ds.length := by omega
    subst this
    rw [List.drop_length]
    exact ⟨rfl, hi⟩
  | succ n ih =>
    have hlt : k < ds.length := by omega
    rw [List.drop_eq_getElem_cons hlt]
    obtain ⟨s1, e1, h1⟩ := R.W_get (h k ds[k] s (List.getElem?_eq_getElem hlt) hi)
    obtain ⟨⟨fl, s2⟩, e2, h2, h3⟩ := R.W_get h1
    have next := ih (k := k + 1) (s := s2) h3 hlt (by omega)
    unfold forD
    rw [e1, R.bind_ok, e2, R.bind_ok]
    rcases h2 with h2 | h2 <;> (simp only at h2; subst h2; exact next)
theorem for_inv {g : GV} {b : SV} {ds : List D} {s : Sl} (I : Nat → Sl → Prop) (h0 : I 0 s) (h : ∀ i x s, ds[i]? = some x → I i s → (g x s).W fun s1 => (b s1).W fun r => (r.1 = .nx ∨ r.1 = .ct) ∧ I (i + 1) r.2) :
    (forD g b ds s).W fun r => r.1 = .nx ∧ I ds.length r.2 := forD_inv I h (k := 0) h0 (Nat.zero_le _)

/-! ### while -/
theorem while_inv {c : BV} {b : SV} (I : Nat → Sl → Prop) (Z : Sl → Prop) (h : ∀ m s, I m s → (c s).W fun r => if r.1 = true then (b r.2).W fun q => (q.1 = .nx ∨ q.1 = .ct) ∧ ∃ m', m' < m ∧ I m' q.2 else Z r.2) :
    ∀ {n m : Nat} {s : Sl}, I m s → m < n → (whileD c b n s).W fun r => r.1 = .nx ∧ Z r.2
  | 0, m, s, _, hm => absurd hm (Nat.not_lt_zero m)
  | n + 1, m, s, hi, hm => by
    obtain ⟨⟨t, s1⟩, e1, h1⟩ := R.W_get (h m s hi)
    unfold whileD
    rw [e1, R.bind_ok]
    cases t with
    | false => exact ⟨rfl, by simpa using h1⟩
    | true =>
      simp only [if_true] at h1 ⊢
      obtain ⟨⟨fl, s2⟩, e2, h2, m', hm', h3⟩ := R.W_get h1
      have next := while_inv I Z h (n := n) h3 (by omega)
      rw [e2, R.bind_ok]
      rcases h2 with h2 | h2 <;> (simp only at h2; subst h2; exact next)

/-! ### comprehensions -/
theorem comp_pure {g : GV} {c : Option BV} {f : EV} {own : List Nat} {s : Sl} (S : D → Sl) (P : D → Bool) (F : D → D) (hw : wipeD s own = s) : ∀ {ds : List D},
    (∀ x ∈ ds, g x s = .ok (S x) ∧ wipeD (S x) own = s ∧ bOf c (S x) = .ok (P x, S x) ∧ (P x = true → kD f (S x) = .ok (F x, S x))) → compD g c f own ds s = .ok ((ds.filter P).map F, s)
  | [], _ => rfl
  | x :: ds, h => by
    obtain ⟨h1, h2, h3, h4⟩ := h x (List.mem_cons_self ..)
    have ih := comp_pure S P F hw (ds := ds) fun y hy => h y (List.mem_cons_of_mem _ hy)
    rw [compD_cons, hw, h1, R.bind_ok, h3, R.bind_ok]
    cases e : P x with
    | false =>
      simp only [Bool.false_eq_true, if_false]
      rw [h2, ih, List.filter_cons_of_neg (by simp [e])]
    | true =>
      simp only [if_true]
      rw [h4 e, R.bind_ok, h2, ih, R.bind_ok, List.filter_cons_of_pos (by simp [e]), List.map_cons]
/-- over data that are told by something else -/
theorem comp_map {α : Type} {g : GV} {c : Option BV} {f : EV} {own : List Nat} {s : Sl} (enc : α → D) (S : α → Sl) (P : α → Bool) (F : α → D) (hw : wipeD s own = s) : ∀ {xs : List α},
    (∀ x ∈ xs, g (enc x) s = .ok (S x) ∧ wipeD (S x) own = s ∧ bOf c (S x) = .ok (P x, S x) ∧ (P x = true → kD f (S x) = .ok (F x, S x))) → compD g c f own (xs.map enc) s = .ok ((xs.filter P).map F, s)
  | [], _ => rfl
  | x :: xs, h => by
    obtain ⟨h1, h2, h3, h4⟩ := h x (List.mem_cons_self ..)
    have ih := comp_map enc S P F hw (xs := xs) fun y hy => h y (List.mem_cons_of_mem _ hy)
    rw [List.map_cons, compD_cons, hw, h1, R.bind_ok, h3, R.bind_ok]
    cases e : P x with
    | false =>
      simp only [Bool.false_eq_true, if_false]
      rw [h2, ih, List.filter_cons_of_neg (by simp [e])]
    | true =>
      simp only [if_true]
      rw [h4 e, R.bind_ok, h2, ih, R.bind_ok, List.filter_cons_of_pos (by simp [e]), List.map_cons]
/-- the own names' slots not empty ahead -/
theorem comp_map2 {α : Type} {g : GV} {c : Option BV} {f : EV} {own : List Nat} {s : Sl} (enc : α → D) (S : α → Sl) (P : α → Bool) (F : α → D) (hw : wipeD (wipeD s own) own = wipeD s own) {xs : List α}
    (h : ∀ x ∈ xs, g (enc x) (wipeD s own) = .ok (S x) ∧ wipeD (S x) own = wipeD s own ∧ bOf c (S x) = .ok (P x, S x) ∧ (P x = true → kD f (S x) = .ok (F x, S x))) : ∃ s', compD g c f own (xs.map enc) s = .ok ((xs.filter P).map F, s') ∧ (s' = s ∨ s' = wipeD s own) := by
  cases xs with
  | nil => exact ⟨s, rfl, .inl rfl⟩
  | cons x xs =>
    refine ⟨wipeD s own, ?_, .inr rfl⟩
    have e := comp_map (g := g) (c := c) (f := f) (own := own) (s := wipeD s own) enc S P F hw (xs := x :: xs) h
    rw [List.map_cons, compD_cons] at e ⊢
    rw [hw] at e
    exact e
/-- the same, the own names' slots not empty ahead -/
theorem comp_pure2 {g : GV} {c : Option BV} {f : EV} {own : List Nat} {s : Sl} (S : D → Sl) (P : D → Bool) (F : D → D) (hw : wipeD (wipeD s own) own = wipeD s own) : ∀ {ds : List D},
    (∀ x ∈ ds, g x (wipeD s own) = .ok (S x) ∧ wipeD (S x) own = wipeD s own ∧ bOf c (S x) = .ok (P x, S x) ∧ (P x = true → kD f (S x) = .ok (F x, S x))) → ∃ s', compD g c f own ds s = .ok ((ds.filter P).map F, s') ∧ (s' = s ∨ s' = wipeD s own)
  | [], _ => ⟨s, rfl, .inl rfl⟩
  | x :: ds, h => by
    refine ⟨wipeD s own, ?_, .inr rfl⟩
    have e := comp_pure (g := g) (c := c) (f := f) (own := own) (s := wipeD s own) S P F hw (ds := x :: ds) h
    rw [compD_cons] at e ⊢
    rw [hw] at e
    exact e
/-- one that changes what the slots hold, no test -/
theorem comp_inv {g : GV} {f : EV} {own : List Nat} {ds : List D} (I : Nat → List D → Sl → Prop) (h : ∀ i x acc s, ds[i]? = some x → I i acc s → (g x (wipeD s own)).W fun s1 => (kD f s1).W fun q => I (i + 1) (acc ++ [q.1]) (wipeD q.2 own)) :
    ∀ {k : Nat} {acc : List D} {s : Sl}, I k acc s → k ≤ ds.length → (compD g none f own (ds.drop k) s).W fun r => I ds.length (acc ++ r.1) r.2 := by
  intro k acc s hi hk
  generalize hn : ds.length - k = n
  induction n generalizing k s acc with
  | zero =>
    have : k = ds.length := by omega
    subst this
    rw [List.drop_length]
    show I _ (acc ++ []) s
    rw [List.append_nil]
    exact hi
  | succ n ih =>
    have hlt : k < ds.length := by omega
    rw [List.drop_eq_getElem_cons hlt, compD_cons]
    obtain ⟨s1, e1, h1⟩ := R.W_get (h k ds[k] acc s (List.getElem?_eq_getElem hlt) hi)
    obtain ⟨q, e2, h2⟩ := R.W_get h1
    obtain ⟨r, e3, h3⟩ := R.W_get (ih (k := k + 1) h2 hlt (by omega))
    rw [e1, R.bind_ok]
    show (((R.ok (true, s1)).bind _).W _)
    rw [R.bind_ok]
    simp only [if_true]
    rw [e2, R.bind_ok, e3, R.bind_ok]
    show I _ (acc ++ q.1 :: r.1) r.2
    have : acc ++ q.1 :: r.1 = acc ++ [q.1] ++ r.1 := by simp
    rw [this]
    exact h3
theorem comp_inv0 {g : GV} {f : EV} {own : List Nat} {ds : List D} {s : Sl} (I : Nat → List D → Sl → Prop) (h0 : I 0 [] s) (h : ∀ i x acc s, ds[i]? = some x → I i acc s → (g x (wipeD s own)).W fun s1 => (kD f s1).W fun q => I (i + 1) (acc ++ [q.1]) (wipeD q.2 own)) :
    (compD g none f own ds s).W fun r => I ds.length r.1 r.2 := by
  have := comp_inv I h (k := 0) h0 (Nat.zero_le _)
  simpa using this

/-! ### data that may be compared, shown -/
/-- texts that are sound, short numbers, no dict; at most n deep, m heavy -/
structure fit (n m : Nat) (d : D) : Prop where
  lay : d.canLay0 = true
  dep : d.depth ≤ n
  wt : d.weight ≤ m
  sh : d.intsShort 13 = true
  sw : d.showable = true
theorem fit.eqOk {n m : Nat} {d : D} (h : fit n m d) (hn : n ≤ 64) : eqOk d = true := by
  have : (d.canLay0 && decide (d.depth ≤ 64)) = true := by
    rw [Bool.and_eq_true]
    exact ⟨h.lay, decide_eq_true (Nat.le_trans h.dep hn)⟩
  exact this
theorem fit.mono {n m n' m' : Nat} {d : D} (h : fit n m d) (hn : n ≤ n') (hm : m ≤ m') : fit n' m' d := ⟨h.lay, Nat.le_trans h.dep hn, Nat.le_trans h.wt hm, h.sh, h.sw⟩
mutual
theorem noDict_of : ∀ d : D, d.canLay0 = true → d.hasDict = false
  | .none, _ => by simp [PyData.hasDict]
  | .bool _, _ => by simp [PyData.hasDict]
  | .int _, _ => by simp [PyData.hasDict]
  | .str _, _ => by simp [PyData.hasDict]
  | .list xs, h => by rw [PyData.hasDict]; exact noDicts_of xs (by rw [PyData.canLay0] at h; exact h)
  | .tuple xs, h => by rw [PyData.hasDict]; exact noDicts_of xs (by rw [PyData.canLay0] at h; exact h)
  | .dict _, h => by rw [PyData.canLay0] at h; cases h
theorem noDicts_of : ∀ ds : List D, PyData.canLayAll0 ds = true → PyData.hasDictAll ds = false
  | [], _ => rfl
  | x :: xs, h => by
    rw [PyData.canLayAll0, Bool.and_eq_true] at h
    rw [PyData.hasDictAll, noDict_of x h.1, noDicts_of xs h.2]
    rfl
end
theorem fit.show {n m : Nat} {d : D} (h : fit n m d) (hn : n ≤ 64) (hm : m ≤ 1048576) : showOk d = true := by
  have hl : PyData.layable0 d = true := by
    unfold PyData.layable0
    rw [Bool.and_eq_true, Bool.and_eq_true]
    exact ⟨⟨h.lay, decide_eq_true (Nat.le_trans h.dep hn)⟩, decide_eq_true (Nat.le_trans h.wt hm)⟩
  have hz := PyProof.Rows.shown_le13 hl h.sh
  unfold showOk
  rw [h.sw, noDict_of d h.lay, decide_eq_true (Nat.le_trans h.dep hn), decide_eq_true (by rw [sizeLine_eq]; omega)]
  rfl
theorem fits_all : ∀ {ds : List D} {n m : Nat}, (∀ d ∈ ds, fit n m d) → PyData.canLayAll0 ds = true ∧ PyData.depthAll ds ≤ n ∧ PyData.weightAll ds ≤ ds.length * (m + 1) ∧ PyData.intsShortAll 13 ds = true ∧ PyData.showableAll ds = true
  | [], n, m, _ => ⟨rfl, Nat.zero_le _, Nat.zero_le _, rfl, rfl⟩
  | d :: ds, n, m, h => by
    obtain ⟨h1, h2, h3, h4, h5⟩ := fits_all (ds := ds) (n := n) (m := m) fun x hx => h x (List.mem_cons_of_mem _ hx)
    obtain ⟨g1, g2, g3, g4, g5⟩ := h d (List.mem_cons_self ..)
    refine ⟨by rw [PyData.canLayAll0, g1, h1]; rfl, by rw [PyData.depthAll]; omega, ?_, by rw [PyData.intsShortAll, g4, h4]; rfl, by rw [PyData.showableAll, g5, h5]; rfl⟩
    rw [PyData.weightAll, List.length_cons, Nat.add_mul, Nat.one_mul]
    omega
theorem fit_tup {ds : List D} {n m k : Nat} (h : ∀ d ∈ ds, fit n m d) (hk : ds.length ≤ k) : fit (n + 1) (k * (m + 1)) (.tuple ds) := by
  obtain ⟨h1, h2, h3, h4, h5⟩ := fits_all h
  exact ⟨by rw [PyData.canLay0]; exact h1, by rw [PyData.depth]; omega, by rw [PyData.weight]; exact Nat.le_trans h3 (Nat.mul_le_mul_right _ hk), by rw [PyData.intsShort]; exact h4, by rw [PyData.showable]; exact h5⟩
theorem fit_lst {ds : List D} {n m k : Nat} (h : ∀ d ∈ ds, fit n m d) (hk : ds.length ≤ k) : fit (n + 1) (k * (m + 1)) (.list ds) := by
  obtain ⟨h1, h2, h3, h4, h5⟩ := fits_all h
  exact ⟨by rw [PyData.canLay0]; exact h1, by rw [PyData.depth]; omega, by rw [PyData.weight]; exact Nat.le_trans h3 (Nat.mul_le_mul_right _ hk), by rw [PyData.intsShort]; exact h4, by rw [PyData.showable]; exact h5⟩
theorem fit_bool {b : Bool} {n m : Nat} : fit n m (.bool b) := ⟨by simp [PyData.canLay0], by simp [PyData.depth], by simp [PyData.weight], by simp [PyData.intsShort], by simp [PyData.showable]⟩
theorem fit_none {n m : Nat} : fit n m .none := ⟨by simp [PyData.canLay0], by simp [PyData.depth], by simp [PyData.weight], by simp [PyData.intsShort], by simp [PyData.showable]⟩
theorem fit_str {x : Str} {n m : Nat} (h : PyData.strOk x = true) (hm : x.cps.size ≤ m) : fit n m (.str x) := ⟨by simp [PyData.canLay0, h], by simp [PyData.depth], by simp [PyData.weight, hm], by simp [PyData.intsShort], by simp [PyData.showable]⟩
theorem pEq_of {d e : D} (h1 : eqOk d = true) (h2 : eqOk e = true) : pEq d e = bl (PyData.eqv d e) := by unfold pEq; rw [h1, h2]; rfl
theorem pNe_of {d e : D} (h1 : eqOk d = true) (h2 : eqOk e = true) : pNe d e = bl (!PyData.eqv d e) := by unfold pNe; rw [h1, h2]; rfl
theorem pRepr_of {d : D} (h : showOk d = true) : pRepr d = .ok (.d (.str d.shown)) := by unfold pRepr; rw [if_pos h]
theorem eqv_str {x y : Str} : PyData.eqv (.str x) (.str y) = decide (x = y) := by
  show (x == y) = _
  by_cases h : x = y
  · subst h; simp
  · simp [h]
theorem eqv_str_self {x : Str} : PyData.eqv (.str x) (.str x) = true := by rw [eqv_str]; simp
end KV

set_option Elab.async false
set_option linter.all false
set_option maxRecDepth 100000
set_option maxHeartbeats 4000000
/-! KWA: a ghost slot that owns a table of code objects; defs and calls that hand it on. -/
namespace KV
open PySem L2
open PySem.Spec PyProof.Rows
section
variable {w : Wd} {k : Nat} {X : Cx} {pos : Pos} {σ : L2.St} {H Hf : Hp} {s s' : Sl} {φ : Nat → List Addr} {Q : VK} {io : List Nat}
/-- a name that the scope does not know may hold anything -/
theorem inv_ghost {pins : List (Addr × Obj)} {sh : Shared} (I : Inv X pins σ H sh) {i : Nat} {y : Str} {v : V} (hN : X.N[i]? = some y) (hv : ¬ Vis X.env.scope y) : Inv X pins (σ.set i (some v)) H sh := by
  obtain ⟨m, hn, hl⟩ := I.loc
  refine ⟨I.ok, I.os, I.bare, I.base, ⟨m, hn, fun j x u e1 e2 e3 => ?_⟩, I.cell, I.free, I.freeC, I.pin, I.hok, by rw [List.length_set]; exact I.len⟩
  by_cases z : j = i
  · subst z
    rw [hN] at e1
    cases e1
    exact (hv e3).elim
  · rw [List.getElem?_set_ne (Ne.symm z)] at e2
    exact hl j x u e1 e2 e3
theorem pss_ghost {sts : List Stmt} {t : TS} {i : Nat} {y : Str} {v : V} (h : PSs X sts t) (hN : X.N[i]? = some y) (hv : ¬ Vis X.env.scope y) : PSs X sts (fun D σ H => t D (σ.set i (some v)) H) :=
  ⟨fun pins s σ H D I q => h.run pins s _ H D (inv_ghost I hN hv) q⟩
/-- what a def promises that is handed tables behind its arguments -/
def spT (w : Wd) (np : Nat) (d : Def) : Sp := fun vs H Q E => vs.length = np ∧ ∃ v0, spD w (np + 1) d (vs ++ [v0]) H Q E
theorem start_ghost {N : List Str} {vs : List V} {v0 : V} (h : vs.length + 1 ≤ N.length) : (start N vs).set vs.length (some v0) = (vs ++ [v0]).map some ++ List.replicate (N.length - (vs.length + 1)) none := by
  have e : N.length - vs.length = (N.length - (vs.length + 1)) + 1 := by omega
  unfold L2.start
  rw [e, List.replicate_succ, List.set_append_right _ _ (by simp), List.map_append, List.append_assoc]
  simp
/-- a def by its denotation, its last parameter the tables -/
theorem fnT_of {P : Program} {w0 : World} {K : PySem.W.Frag} {mg : Str → Option Value} {base : Heap} {f : Addr} {x y : Str} {st : Stmt} {fd : FuncData} {N ps : List Str} {d : Def} (F : L2.Fun K x x st f fd) (S : FnScope N ps (defScope st)) (hn : d.n = N.length) (hnd : d.io.Nodup) (hio : ∀ i ∈ d.io, i < ps.length + 1)
    (hy : N[ps.length]? = some y) (hv : (defScope st).names.lookup y = none)
    (hb : ∀ (cdv : Value) (A : Around) (outer : List Env) (s : Shared) (H : Hp) (E : XK), Room k (A.deeper (envOfC x (defScope st) s.heap.objs.size f cdv)) → A.guards = some [] → GSs w d.io (bodyCx P w0 K mg base N x st f cdv A outer s H E) (defBody st) d.body) : FnG P w0 K mg base (k + 1) f fd ps (spT w ps.length d) := by
  have hlN : ps.length + 1 ≤ N.length := (List.getElem?_eq_some_iff.mp hy).1
  refine fnG_of F S (fun vs H Q E h => h.1) fun cdv A outer s0 H vs Q E room gd h => ?_
  obtain ⟨hl0, v0, Hf, ts, φ, t, os, hl, g, hr, q⟩ := h
  have hvis : ¬ Vis (bodyCx P w0 K mg base N x st f cdv A outer s0 H E).env.scope y := by
    have e : (bodyCx P w0 K mg base N x st f cdv A outer s0 H E).env.scope = defScope st := rfl
    rw [e]
    unfold Vis
    rw [hv]
    rintro (z | z | z) <;> cases z
  refine ⟨_, pss_ghost (v := v0) (i := ps.length) (y := y) (hb cdv A outer s0 H E room gd) hy hvis, ?_⟩
  show tS w d.io d.body _ ((start N vs).set ps.length (some v0)) H
  rw [← hl0, start_ghost (by rw [hl0]; exact hlN)]
  generalize hvs : vs ++ [v0] = vs1 at *
  have hl1 : vs1.length = ps.length + 1 := hl
  have hlt : ts.length = vs1.length := by have := g.len; simpa using this
  obtain ⟨⟨fl, s1⟩, h1, h2⟩ := R.bind_eq_ok.mp hr
  obtain ⟨t', h3, h4⟩ := R.bind_eq_ok.mp h2
  obtain ⟨os', h5, h6⟩ := R.bind_eq_ok.mp h4
  cases h6
  have en : N.length - (vs.length + 1) = N.length - vs1.length := by rw [hl1, hl0]
  rw [en]
  obtain ⟨g0, o0⟩ := g.pad (n := N.length - vs1.length)
  rw [hn, hlt] at h1
  refine ⟨Hf, _, φ, fl, s1, g0, h1, ?_⟩
  have fin : ∀ v σ' H' Hf' φ' F1, Good w σ' H' Hf' s1 φ' → OR w Hf' H' v t F1 → (∀ a ∈ F1, Hf' a = none ∧ ¬ Own s1 φ' a) → Stp H Hf (Own (ts.map some ++ List.replicate (N.length - vs1.length) none) φ) H' Hf' (fun a => Own s1 φ' a ∨ a ∈ F1) → Kp d.io (vs1.map some ++ List.replicate (N.length - vs1.length) none) σ' → Q v H' := by
    intro v σ' H' Hf' φ' F1 g1 r1 c1 k1 kp
    obtain ⟨ψ, g2, o2⟩ := outs_ok (vs := vs1) g1 h5 hnd fun i hi => by
      have hlt2 : i < vs1.length := by rw [hl1]; exact hio i hi
      refine ⟨vs1[i], List.getElem?_eq_getElem hlt2, ?_⟩
      rw [kp i hi]
      rw [List.getElem?_append_left (by simpa using hlt2), List.getElem?_map, List.getElem?_eq_getElem hlt2]
      rfl
    have up : ∀ a, Own (os.map some) ψ a → Own s1 φ' a := fun a z => by
      obtain ⟨i, _, t, e, m⟩ := o2 a z
      exact ⟨i, t, e, m⟩
    refine q v H' Hf' ψ F1 g2 r1 (fun a ha => ⟨(c1 a ha).1, fun z => (c1 a ha).2 (up a z)⟩) ⟨k1.sub, fun a o e n => k1.keep a o e fun z => n ((o0 a).mp z), fun a z => ?_⟩
    have := k1.new a (z.imp (fun z => z.imp (up a) id) id)
    rcases this with z | z | z
    · exact .inl ((o0 a).mp z)
    · exact .inr (.inl z)
    · exact .inr (.inr z)
  cases fl with
  | nx =>
    cases h3
    exact fun σ' H' Hf' φ' g1 k1 kp => fin .non σ' H' Hf' φ' [] g1 (.val .non) (fun a h => nomatch h) (k1.weak fun a z => z.elim id fun z => nomatch z) kp
  | rt t2 =>
    cases h3
    exact fun v σ' H' Hf' φ' F1 g1 r1 c1 k1 kp => fin v σ' H' Hf' φ' F1 g1 r1 c1 k1 kp
  | bk => cases h3
  | ct => cases h3
/-! ### calls that hand the tables on -/
def tRT (w : Wd) (g : CV) (p : List Bool) : TA := fun σ H Q => ∃ Hf s φ as s', Good w σ H Hf s φ ∧ g s = .ok (as, s') ∧
  ∀ vs v0 H' Hf' φ', Good w σ H' Hf' s' φ' → RAs w σ Hf' H' (vs ++ [v0]) as → as.map isIo = p → Stp H Hf (Own s φ) H' Hf' (Own s' φ') → Q vs H'
abbrev GRT (w : Wd) (X : Cx) (es : List Expr) (g : CV) (p : List Bool) : Prop := PA X es (tRT w g p)
theorem grt_nil (i : Nat) : GRT w X [] (cMv i cNil) [true] := pa_imp pa_nil fun σ H Q => by
  rintro ⟨Hf, s, φ, as, s', g, e, q⟩
  unfold cMv at e
  split at e
  · rename_i t ht
    obtain ⟨⟨as', s2⟩, h3, h4⟩ := R.bind_eq_ok.mp e
    cases h3
    cases h4
    obtain ⟨v, hv, _⟩ := g.here i t ht
    exact q [] v H Hf φ g (.cons (.io hv) .nil) rfl Stp.refl
  · cases e
theorem grt_v {e : Expr} {es : List Expr} {f : EV} {g : CV} {p : List Bool} (he : GE w X e f) (hr : GRT w X es g p) (hs : starEach (e :: es) X.env = (false, eval e X.env) :: starEach es X.env := by rfl) : GRT w X (e :: es) (cV f g) (false :: p) := by
  refine pa_imp (pa_cons he hr hs) fun σ H Q => ?_
  rintro ⟨Hf, s, φ, as, s', gd, e, q⟩
  obtain ⟨⟨d, s1⟩, h1, h2⟩ := R.bind_eq_ok.mp e
  obtain ⟨⟨as', s2⟩, h3, h4⟩ := R.bind_eq_ok.mp h2
  cases h4
  refine tE_D gd h1 fun v H1 Hf1 φ1 g1 r1 k1 => ⟨Hf1, s1, φ1, as', _, g1, h3, fun vs v0 H2 Hf2 φ2 g2 r2 p2 k2 => ?_⟩
  exact q (v :: vs) v0 H2 Hf2 φ2 g2 (.cons (.v (r1.mono k2.sub)) r2) (by rw [List.map_cons, p2]; rfl) (k1.trans k2 (fun _ => id) fun x hx => g1.own_free hx)
theorem tRT_call {np : Nat} {d : Def} {g : CV} {p : List Bool} {E : XK} (hp : ioAt 0 p = d.io) (hnp : p.length = np + 1) (h : tE w (kCall d.run g) σ H Q) : tRT w g p σ H fun vs H1 => spT w np d vs H1 Q E := by
  obtain ⟨Hf, s, φ, as, s1, gd, h1, h2⟩ := tR_call (E := E) hp hnp h
  refine ⟨Hf, s, φ, as, s1, gd, h1, fun vs v0 H1 Hf1 φ1 g1 r1 p1 k1 => ⟨?_, v0, h2 (vs ++ [v0]) H1 Hf1 φ1 g1 r1 p1 k1⟩⟩
  have e1 := r1.length
  have e2 : as.length = np + 1 := by rw [← hnp, ← p1, List.length_map]
  rw [List.length_append, List.length_singleton] at e1
  omega
theorem ge_callT {j np : Nat} {x : Str} {d : Def} {px : Pos} {e : Expr} {es : List Expr} {g : CV} {p : List Bool} (c : Cok w k X) (C : CalG X.prog X.w X.K X.mg X.base j x (spT w np d)) (ha : GRT w X (e :: es) g p) (hk : j ≤ k := by decide) (hp : ioAt 0 p = d.io := by rfl) (hnp : p.length = np + 1 := by rfl) (hg : Gl X x := by rfl)
    (hdb : (x == ("__debug__" : Str)) = false := by decide) (he : starEach (e :: es) X.env = (false, eval e X.env) :: starEach es X.env := by rfl) (hpl : (backTo pos (starEach es X.env)).any (·.1) = false := by rfl) : GE w X (.Call (.Name x px) (e :: es) [] pos) (kCall d.run g) :=
  pe_imp (pe_G (E := E0) c C hk hg ha hdb he hpl) fun _ _ _ => tRT_call hp hnp
end
end KV

set_option Elab.async false
set_option linter.all false
set_option maxRecDepth 100000
set_option maxHeartbeats 4000000
/-! KWB: a def in a def, a lambda: what is made of them. -/
namespace KV
open PySem L2
open PySem.Spec PyProof.Rows NdefX LamX
/-- a made function: a def's, a lambda's -/
structure CF where
  name : Str
  qual : Str
  params : Arguments
  body : FuncBody
  scope : Scope
  cl : List (Str × Addr)
  c : Addr
abbrev CF.fd (F : CF) (doc pm ctv : Value) : FuncData :=
  { name := F.name, qualname := F.qual, params := F.params, body := F.body, scope := F.scope, globals := mainGlobals, closure := F.cl, defaults := .none, kwdefaults := .none, doc := doc, pyModule := pm, annotations := none, code := .ref F.c, closureTuple := ctv, builtins := builtinsNs }
def CfO (f : Addr) (F : CF) : HO := .ext fun h => ∃ (od : Option Addr) (sl : Array (Option Value)) (doc pm ctv : Value), h.get? f = some (⟨.type "function", od, .func (F.fd doc pm ctv), sl⟩ : Obj)
theorem cfO_at {P : Program} {w : World} {H : Hp} {h : Heap} {f : Addr} {F : CF} (hok : HOk P w H h) (e : H f = some (CfO f F)) : ∃ (od : Option Addr) (sl : Array (Option Value)) (doc pm ctv : Value), h.get? f = some (⟨.type "function", od, .func (F.fd doc pm ctv), sl⟩ : Obj) := by
  obtain ⟨z, _, _⟩ := hok f _ e
  exact z
section
variable {X : Cx} {σ : L2.St} {H : Hp} {s : Shared} {pins : List (Addr × Obj)}
theorem inv_cf {F : CF} {o : Obj} {t' : Nat} {doc pm ctv : Value} (I : Inv X pins σ H s) (ho : o = { cls := .type "function", data := .func (F.fd doc pm ctv) }) :
    Inv X pins σ (upd H s.heap.objs.size (CfO s.heap.objs.size F)) { s with heap := s.heap.push o, toks := t' } := by
  subst ho
  have there := Heap.get?_push_size s.heap (o := ({ cls := .type "function", data := .func (F.fd doc pm ctv) } : Obj)) rfl
  exact I.laid (fun b u e => Heap.get?_push_of_some _ e) (Nat.le_refl _) ⟨⟨_, _, doc, pm, ctv, there⟩, ⟨_, there⟩, fun _ _ ⟨od, sl, d1, d2, d3, z⟩ st => ⟨od, sl, d1, d2, d3, st _ z⟩⟩
/-- what follows the making of a function whose code object may be new -/
structure MkOut (X : Cx) (pins : List (Addr × Obj)) (σ : L2.St) (H : Hp) (P : Addr) (ps : Array Value) (pos : Pos) (q : Str) (mk : Addr → CF) (Q : Value → Shared → Prop) : Prop where
  hit : ∀ (f c' : Addr) (s' : Shared), H f = none → codeAmong pos ps.toList = some (.ref c') → H c' = some (CodeO c' q) → Inv X pins σ (upd H f (CfO f (mk c'))) s' → Q (.ref f) s'
  new : ∀ (f c' : Addr) (s' : Shared), H f = none → H c' = none → f ≠ c' → Inv X pins σ (upd (upd (upd H P (.tbl (ps ++ #[rawInt pos.line, rawInt pos.col, .ref c']))) c' (CodeO c' q)) f (CfO f (mk c'))) s' → Q (.ref f) s'
/-- what the table tells -/
def TabC (H : Hp) (ps : Array Value) (nm : Nat → Nat → Str) : Prop := TriplesOk ps.toList ∧ ∀ (pos : Pos) (cv : Value), codeAmong pos ps.toList = some cv → ∃ c, cv = .ref c ∧ H c = some (CodeO c (nm pos.line pos.col))
theorem mk_def {nm : Nat → Nat → Str} {c P : Addr} {ps : Array Value} {name : Str} {params : Arguments} {body : List Stmt} {scope : Scope} {pos : Pos} {E : Value → Shared → Prop} {Q : Value → Shared → Prop} (I : Inv X pins σ H s) (TB : TabB X.base X.mg c P) (hcode : X.env.code = .ref c)
    (tH : H P = some (.tbl ps)) (hT : TabC H ps nm) (hn : nm pos.line pos.col = X.env.qual ++ name) (hfree : ∀ y ∈ scope.names, y.2 = .free → ∃ c, X.env.cells.lookup y.1 = some c)
    (h : MkOut X pins σ H P ps pos (X.env.qual ++ name) (fun c' => ⟨name, X.env.qual ++ name, params, .stmts body, scope, cloFrom X.env.cells scope.names [], c'⟩) Q) :
    wpAny (model X.prog X.w) X.A (makeFunction name (X.env.qual ++ name) params (.stmts body) scope X.env [] [] [] pos pos.line) Q E s := by
  obtain ⟨trip, tells⟩ := hT
  have bAt : s.heap.BuiltinsAt X.mg P := TB.bm.keeps I.bk
  have tAt : s.heap.get? P = some { cls := .none, data := .fields ps } := I.hok P _ tH
  cases seen : codeAmong pos ps.toList with
  | none =>
    refine PySem.W.makeFunction_K (mg := X.mg) (c := c) (P := P) (ps := ps) (closure_ok hfree) I.ok.glob (I.mod.glob.keeps I.bk) hcode (TB.code.keeps I.bk) tAt trip seen TB.gP bAt fun c' ctv doc h' tn kept ge0 lt0 rec0 tab0 => ?_
    obtain ⟨cz, oz, fz, t, ez, atz, dz, vz⟩ := rec0
    cases ez
    have J1 := inv_table (t' := tn) (more := #[rawInt pos.line, rawInt pos.col, .ref c']) (h' := h') I tH (fun b o hb e => kept b o hb e) tab0 ge0 ⟨oz, fz, t, atz, dz, vz⟩
    have J2 := inv_cf (F := ⟨name, X.env.qual ++ name, params, .stmts body, scope, cloFrom X.env.cells scope.names [], c'⟩) (t' := tn) (doc := doc) (pm := (X.mg "__name__").getD .none) (ctv := ctv) J1 rfl
    exact h.new _ c' _ (I.hok.fresh (Nat.le_trans ge0 (Nat.le_of_lt lt0))) (I.hok.fresh ge0) (Nat.ne_of_gt lt0) J2
  | some cv =>
    obtain ⟨c', e, coz⟩ := tells pos cv seen
    subst e
    rw [hn] at coz
    refine PySem.W.makeFunction_hit (mg := X.mg) (c := c) (P := P) (ps := ps) (closure_ok hfree) I.ok.glob (I.mod.glob.keeps I.bk) hcode (TB.code.keeps I.bk) tAt trip seen bAt fun ctv doc h' tn kept sz0 => ?_
    have J1 : Inv X pins σ H { s with heap := h', toks := tn } := I.kept kept
    have J2 := inv_cf (F := ⟨name, X.env.qual ++ name, params, .stmts body, scope, cloFrom X.env.cells scope.names [], c'⟩) (t' := tn) (doc := doc) (pm := (X.mg "__name__").getD .none) (ctv := ctv) J1 rfl
    exact h.hit _ c' _ (J1.hok.fresh (Nat.le_refl _)) seen coz J2
theorem mk_lam {nm : Nat → Nat → Str} {c P : Addr} {ps : Array Value} {params : Arguments} {body : Expr} {scope : Scope} {pos : Pos} {E : Value → Shared → Prop} {Q : Value → Shared → Prop} (I : Inv X pins σ H s) (TB : TabB X.base X.mg c P) (hcode : X.env.code = .ref c)
    (tH : H P = some (.tbl ps)) (hT : TabC H ps nm) (hn : nm pos.line pos.col = X.env.qual ++ "<lambda>") (hdef : defaultsOf params X.env = ([], [])) (hfree : ∀ y ∈ scope.names, y.2 = .free → ∃ c, X.env.cells.lookup y.1 = some c)
    (h : MkOut X pins σ H P ps pos (X.env.qual ++ "<lambda>") (fun c' => ⟨"<lambda>", X.env.qual ++ "<lambda>", params, .expr body, scope, cloFrom X.env.cells scope.names [], c'⟩) Q) :
    wpAny (model X.prog X.w) X.A (eval (.Lambda params body scope pos) X.env) Q E s := by
  obtain ⟨trip, tells⟩ := hT
  apply PySem.W.kla_eval hdef
  have bAt : s.heap.BuiltinsAt X.mg P := TB.bm.keeps I.bk
  have tAt : s.heap.get? P = some { cls := .none, data := .fields ps } := I.hok P _ tH
  cases seen : codeAmong pos ps.toList with
  | none =>
    refine PySem.W.kla_makeFunction (mg := X.mg) (c := c) (P := P) (ps := ps) (closure_ok hfree) I.ok.glob (I.mod.glob.keeps I.bk) hcode (TB.code.keeps I.bk) tAt trip seen TB.gP bAt fun c' ctv h' tn kept ge0 lt0 rec0 tab0 => ?_
    obtain ⟨cz, oz, fz, t, ez, atz, dz, vz⟩ := rec0
    cases ez
    have J1 := inv_table (t' := tn) (more := #[rawInt pos.line, rawInt pos.col, .ref c']) (h' := h') I tH (fun b o hb e => kept b o hb e) tab0 ge0 ⟨oz, fz, t, atz, dz, vz⟩
    have J2 := inv_cf (F := ⟨"<lambda>", X.env.qual ++ "<lambda>", params, .expr body, scope, cloFrom X.env.cells scope.names [], c'⟩) (t' := tn) (doc := .none) (pm := (X.mg "__name__").getD .none) (ctv := ctv) J1 rfl
    exact h.new _ c' _ (I.hok.fresh (Nat.le_trans ge0 (Nat.le_of_lt lt0))) (I.hok.fresh ge0) (Nat.ne_of_gt lt0) J2
  | some cv =>
    obtain ⟨c', e, coz⟩ := tells pos cv seen
    subst e
    rw [hn] at coz
    refine PySem.W.kla_makeFunctionHit (mg := X.mg) (c := c) (P := P) (ps := ps) (closure_ok hfree) I.ok.glob (I.mod.glob.keeps I.bk) hcode (TB.code.keeps I.bk) tAt trip seen bAt fun ctv h' tn kept sz0 => ?_
    have J1 : Inv X pins σ H { s with heap := h', toks := tn } := I.kept kept
    have J2 := inv_cf (F := ⟨"<lambda>", X.env.qual ++ "<lambda>", params, .expr body, scope, cloFrom X.env.cells scope.names [], c'⟩) (t' := tn) (doc := .none) (pm := (X.mg "__name__").getD .none) (ctv := ctv) J1 rfl
    exact h.hit _ c' _ (J1.hok.fresh (Nat.le_refl _)) seen coz J2
end
/-! ### the slots behind it -/
section
variable {w : Wd} {k : Nat} {X : Cx} {pos : Pos} {σ : L2.St} {H Hf : Hp} {s s' : Sl} {φ : Nat → List Addr} {Q : VK} {io : List Nat}
theorem Good.tbs (g : Good w σ H Hf s φ) {i : Nat} (h : s[i]? = some (some .tbs)) : ∃ v P nm ps, σ[i]? = some (some v) ∧ φ i = [P] ∧ w.tb = some (P, nm) ∧ H P = some (.tbl ps) ∧ TabC Hf ps nm := by
  obtain ⟨v, e, r⟩ := g.here i _ h
  generalize hF : φ i = F at r
  cases r with
  | tbs h1 h2 h3 h4 => exact ⟨v, _, _, _, e, rfl, h1, h2, h3, h4⟩
/-- the table is written -/
theorem Good.tbl (g : Good w σ H Hf s φ) {i : Nat} {P : Addr} {nm : Nat → Nat → Str} {ps ps' : Array Value} (h : s[i]? = some (some .tbs)) (hφ : φ i = [P]) (hw : w.tb = some (P, nm)) (hP : H P = some (.tbl ps)) (hT : TabC Hf ps' nm) : Good w σ (upd H P (.tbl ps')) Hf s φ := by
  have nf : Hf P = none := g.fr i _ P h (by rw [hφ]; simp)
  refine ⟨fun a o e => ?_, g.len, fun j t e => ?_, g.fr, g.dj⟩
  · rw [upd_ne (fun z => by rw [z, nf] at e; cases e)]
    exact g.sub a o e
  · obtain ⟨v, e1, r⟩ := g.here j t e
    refine ⟨v, e1, ?_⟩
    by_cases z : j = i
    · subst z
      rw [h] at e
      cases e
      rw [hφ]
      exact .tbs hw upd_same hT.1 hT.2
    · refine r.stay (Sub.refl _) fun a ha o q => ?_
      rw [upd_ne (fun y => z (g.dj j i t _ a e h ha (by rw [hφ, y]; simp)))]
      exact q
theorem TabC.mono {ps : Array Value} {nm : Nat → Nat → Str} {Hf' : Hp} (t : TabC Hf ps nm) (sb : Sub Hf Hf') : TabC Hf' ps nm := ⟨t.1, fun pos cv hc => let ⟨c, e1, e2⟩ := t.2 pos cv hc; ⟨c, e1, sb _ _ e2⟩⟩
theorem TabC.snoc {ps : Array Value} {nm : Nat → Nat → Str} {Hf' : Hp} {c' : Addr} (t : TabC Hf ps nm) (sb : Sub Hf Hf') (hc : Hf' c' = some (CodeO c' (nm pos.line pos.col))) : TabC Hf' (ps ++ #[rawInt pos.line, rawInt pos.col, .ref c']) nm := by
  have asL : (ps ++ #[rawInt pos.line, rawInt pos.col, .ref c']).toList = ps.toList ++ [rawInt pos.line, rawInt pos.col, .ref c'] := Array.toList_append
  refine ⟨by rw [asL]; exact PySem.TriplesOk_snoc _ _ _ _ t.1, fun p' cv hcv => ?_⟩
  rw [asL] at hcv
  rcases among_app2 _ t.1 hcv with z | ⟨z, z1, z2⟩
  · obtain ⟨c0, e1, e2⟩ := t.2 p' cv z
    exact ⟨c0, e1, sb _ _ e2⟩
  · exact ⟨c', z, by rw [← z1, ← z2]; exact hc⟩
/-- a new function: the heap of which the slots tell, a step on -/
structure Mk1 (w : Wd) (σ : L2.St) (H Hf : Hp) (s : Sl) (φ : Nat → List Addr) (f c' : Addr) (q : Str) (F : CF) (H1 Hf1 : Hp) : Prop where
  g : Good w σ H1 Hf1 s φ
  st : Stp H Hf (Own s φ) H1 Hf1 (Own s φ)
  f : Hf1 f = some (CfO f F)
  c : Hf1 c' = some (CodeO c' q)
theorem mk1_hit (g : Good w σ H Hf s φ) {f c' : Addr} {q : Str} {F : CF} (hf : H f = none) (hc : Hf c' = some (CodeO c' q)) : Mk1 w σ H Hf s φ f c' q F (upd H f (CfO f F)) (upd Hf f (CfO f F)) :=
  ⟨g.updB hf, Stp.updB hf (g.hf_none hf), upd_same, by rw [upd_ne (fun z => by rw [z, g.hf_none hf] at hc; cases hc)]; exact hc⟩
theorem mk1_new (g : Good w σ H Hf s φ) {i : Nat} {f c' P : Addr} {F : CF} {nm : Nat → Nat → Str} {ps : Array Value} (h : s[i]? = some (some .tbs)) (hφ : φ i = [P]) (hw : w.tb = some (P, nm)) (hP : H P = some (.tbl ps)) (hT : TabC Hf ps nm)
    (hf : H f = none) (hc : H c' = none) (hne : f ≠ c') :
    ∃ Hf1, Mk1 w σ H Hf s φ f c' (nm pos.line pos.col) F (upd (upd (upd H P (.tbl (ps ++ #[rawInt pos.line, rawInt pos.col, .ref c']))) c' (CodeO c' (nm pos.line pos.col))) f (CfO f F)) Hf1 := by
  have nf : Hf P = none := g.fr i _ P h (by rw [hφ]; simp)
  have Pf : P ≠ f := fun z => by rw [z, hf] at hP; cases hP
  have Pc : P ≠ c' := fun z => by rw [z, hc] at hP; cases hP
  have g1 := g.updB (o := CodeO c' (nm pos.line pos.col)) hc
  have hf1 : upd H c' (CodeO c' (nm pos.line pos.col)) f = none := by rw [upd_ne hne]; exact hf
  have g2 := g1.updB (o := CfO f F) hf1
  have s1 : Sub Hf (upd (upd Hf c' (CodeO c' (nm pos.line pos.col))) f (CfO f F)) := (Sub.upd (g.hf_none hc)).trans (Sub.upd (by rw [upd_ne hne]; exact g.hf_none hf))
  have hcc : upd (upd Hf c' (CodeO c' (nm pos.line pos.col))) f (CfO f F) c' = some (CodeO c' (nm pos.line pos.col)) := by rw [upd_ne hne.symm, upd_same]
  have g3 := g2.tbl (ps' := ps ++ #[rawInt pos.line, rawInt pos.col, .ref c']) h hφ hw (by rw [upd_ne Pf, upd_ne Pc]; exact hP) (hT.snoc s1 hcc)
  have eH : upd (upd (upd H P (.tbl (ps ++ #[rawInt pos.line, rawInt pos.col, .ref c']))) c' (CodeO c' (nm pos.line pos.col))) f (CfO f F) = upd (upd (upd H c' (CodeO c' (nm pos.line pos.col))) f (CfO f F)) P (.tbl (ps ++ #[rawInt pos.line, rawInt pos.col, .ref c'])) := by
    funext a
    by_cases z1 : a = f
    · subst z1; rw [upd_same, upd_ne Pf.symm, upd_same]
    · by_cases z2 : a = c'
      · subst z2; rw [upd_ne z1, upd_same, upd_ne Pc.symm, upd_ne z1, upd_same]
      · by_cases z3 : a = P
        · subst z3; rw [upd_ne z1, upd_ne z2, upd_same, upd_same]
        · rw [upd_ne z1, upd_ne z2, upd_ne z3, upd_ne z3, upd_ne z1, upd_ne z2]
  rw [eH]
  refine ⟨upd (upd Hf c' (CodeO c' (nm pos.line pos.col))) f (CfO f F), g3, ⟨s1, fun a o e n => ?_, fun a z => ?_⟩, upd_same, hcc⟩
  · have aP : a ≠ P := fun z => n ⟨i, _, h, by rw [hφ, z]; simp⟩
    rw [upd_ne aP, upd_ne (ne_of_none e hf), upd_ne (ne_of_none e hc)]
    exact e
  · rcases z with z | z
    · exact .inl z
    · by_cases z1 : a = f
      · exact .inr (.inr (z1 ▸ hf))
      · by_cases z2 : a = c'
        · exact .inr (.inr (z2 ▸ hc))
        · rw [upd_ne z1, upd_ne z2] at z
          exact .inr (.inl z)
/-! ### def f(..): .. in a def -/
theorem qual_of {name : Str} (hx : Loc X.env.scope name) : qualnameIn X.env name name = X.env.qual ++ name := by
  have kind : X.env.kindOf name = some .local ∨ X.env.kindOf name = some .cell := hx
  unfold qualnameIn
  rcases kind with z | z
  · rw [z]; rfl
  · rw [z]; first | rfl | exact if_neg (by decide)
def dmy : List D → R D := fun _ => .no
def sNdef (i gh n : Nat) : SV := fun s => match s[gh]? with
  | some (some .tbs) => .ok (.nx, s.set i (some (.clo n dmy)))
  | _ => .no
/-- which functions the slots of a frame may hold -/
def Holds (w : Wd) (n : Nat) (q : Str) (mk : Addr → CF) : Prop := ∀ (Hf : Hp) (f c' : Addr), Hf f = some (CfO f (mk c')) → Hf c' = some (CodeO c' q) → w.CL Hf (.ref f) n dmy
theorem gs_ndef {st : Stmt} {nm : Nat → Nat → Str} {c P : Addr} {name : Str} (i gh n : Nat) (hst : st = .FunctionDef name (C8.fnArgs st) (C8.fnBody st) [] none [] (C8.fnScope st) none name pos) (TB : TabB X.base X.mg c P) (hcode : X.env.code = .ref c) (hw : w.tb = some (P, nm)) (hn : nm pos.line pos.col = X.env.qual ++ name)
    (hfree : ∀ y ∈ (C8.fnScope st).names, y.2 = .free → X.env.scope.names.lookup y.1 = some .cell ∨ X.env.scope.names.lookup y.1 = some .free) (hd0 : (C8.fnArgs st).defaults = []) (hk0 : (C8.fnArgs st).kw_defaults = []) (ha : annTrees (C8.fnArgs st) none X.env = [])
    (hN : X.N.Nodup) (hi : X.N[i]? = some name) (hx : Loc X.env.scope name) (hf : X.fn name = true ∨ X.env.scope.names.lookup name = some .local) (hio : i ∉ io)
    (hh : Holds w n (X.env.qual ++ name) fun c' => ⟨name, X.env.qual ++ name, C8.fnArgs st, .stmts (C8.fnBody st), C8.fnScope st, cloFrom X.env.cells (C8.fnScope st).names [], c'⟩) : GS w io X st (sNdef i gh n) := by
  refine ⟨fun pins sh σ H D I h => ?_⟩
  obtain ⟨Hf, s, φ, fl, s', g, e, q⟩ := h
  unfold sNdef at e
  split at e
  · rename_i hg
    cases e
    obtain ⟨v0, P', nm', ps, _, hφ, hw', hP, hT⟩ := g.tbs hg
    rw [hw] at hw'
    cases hw'
    have hTH : TabC H ps nm := hT.mono g.sub
    have qn : qualnameIn X.env name name = X.env.qual ++ name := qual_of hx
    have hfr : ∀ y ∈ (C8.fnScope st).names, y.2 = .free → ∃ c, X.env.cells.lookup y.1 = some c := fun y hy e => (hfree y hy e).elim (fun z => I.ok.has _ (.inl z)) fun z => I.ok.has _ (.inr z)
    have fin : ∀ {f c' : Addr} {H1 Hf1 : Hp} {s1 : Shared}, Mk1 w σ H Hf s φ f c' (X.env.qual ++ name) ⟨name, X.env.qual ++ name, C8.fnArgs st, .stmts (C8.fnBody st), C8.fnScope st, cloFrom X.env.cells (C8.fnScope st).names [], c'⟩ H1 Hf1 → Inv X pins σ H1 s1 →
        wpAny (model X.prog X.w) X.A (storeName X.env name (.ref f)) (fun _ s'' => SP X pins D .next s'') X.xe s1 := fun {f c' H1 Hf1 s1} m I1 =>
      store_ok I1 hN hi hx (v := .ref f) rfl (fun s'' J => ⟨_, H1, J, by
        obtain ⟨g2, o2⟩ := m.g.set (i := i) (.clo (hh Hf1 f c' m.f m.c)) fun a h => nomatch h
        refine q _ _ Hf1 _ g2 ⟨m.st.sub, m.st.keep, fun a z => m.st.new a (z.imp (fun z => (o2 a z).elim id fun z => nomatch z) id)⟩ (Kp.set hio)⟩) hf
    rw [hst]
    apply PySem.W.nestDef_K hd0 hk0 ha
    rw [qn]
    refine mk_def I TB hcode hP hTH hn hfr ⟨fun f c' s1 hf0 hc _ I1 => ?_, fun f c' s1 hf0 hc0 hne I1 => ?_⟩
    · obtain ⟨c1, e1, e2⟩ := hT.2 pos _ hc
      cases e1
      rw [hn] at e2
      exact fin (mk1_hit g hf0 e2) I1
    · obtain ⟨Hf1, m⟩ := mk1_new (pos := pos) (F := ⟨name, X.env.qual ++ name, C8.fnArgs st, .stmts (C8.fnBody st), C8.fnScope st, cloFrom X.env.cells (C8.fnScope st).names [], c'⟩) g hg hφ hw hP hT hf0 hc0 hne
      rw [hn] at m
      exact fin m I1
  · cases e
/-! ### lambda x: .. -/
def kLam (gh n : Nat) : EV := fun s => match s[gh]? with
  | some (some .tbs) => .ok (.t (.clo n dmy), s)
  | _ => .no
theorem ge_lam {nm : Nat → Nat → Str} {c P : Addr} {params : Arguments} {body : Expr} {scope : Scope} (gh n : Nat) (TB : TabB X.base X.mg c P) (hcode : X.env.code = .ref c) (hw : w.tb = some (P, nm)) (hn : nm pos.line pos.col = X.env.qual ++ "<lambda>") (hdef : defaultsOf params X.env = ([], []))
    (hfree : ∀ y ∈ scope.names, y.2 = .free → X.env.scope.names.lookup y.1 = some .cell ∨ X.env.scope.names.lookup y.1 = some .free)
    (hh : Holds w n (X.env.qual ++ "<lambda>") fun c' => ⟨"<lambda>", X.env.qual ++ "<lambda>", params, .expr body, scope, cloFrom X.env.cells scope.names [], c'⟩) : GE w X (.Lambda params body scope pos) (kLam gh n) := by
  refine ⟨fun pins sh σ H Q I h => ?_⟩
  obtain ⟨Hf, s, φ, l, s', g, e, q⟩ := h
  unfold kLam at e
  split at e
  · rename_i hg
    cases e
    obtain ⟨v0, P', nm', ps, _, hφ, hw', hP, hT⟩ := g.tbs hg
    rw [hw] at hw'
    cases hw'
    have hTH : TabC H ps nm := hT.mono g.sub
    have caught : ∀ y ∈ scope.names, y.2 = .free → ∃ c, X.env.cells.lookup y.1 = some c := fun y hy e => I.ok.has y.1 (hfree y hy e)
    have fin : ∀ {f c' : Addr} {H1 Hf1 : Hp} {s1 : Shared}, Mk1 w σ H Hf s φ f c' (X.env.qual ++ "<lambda>") ⟨"<lambda>", X.env.qual ++ "<lambda>", params, .expr body, scope, cloFrom X.env.cells scope.names [], c'⟩ H1 Hf1 → Inv X pins σ H1 s1 →
        EP X pins σ Q (.ref f) s1 := fun {f c' H1 Hf1 s1} m I1 =>
      ⟨.ref f, H1, I1, rfl, q (.ref f) H1 Hf1 φ [] m.g (.t (.clo (hh Hf1 f c' m.f m.c)) fun a h => nomatch h) (m.st.weak fun a z => z.elim id fun z => nomatch z)⟩
    refine mk_lam I TB hcode hP hTH hn hdef caught ⟨fun f c' s1 hf0 hc _ I1 => ?_, fun f c' s1 hf0 hc0 hne I1 => ?_⟩
    · obtain ⟨c1, e1, e2⟩ := hT.2 pos _ hc
      cases e1
      rw [hn] at e2
      exact fin (mk1_hit g hf0 e2) I1
    · obtain ⟨Hf1, m⟩ := mk1_new (pos := pos) (F := ⟨"<lambda>", X.env.qual ++ "<lambda>", params, .expr body, scope, cloFrom X.env.cells scope.names [], c'⟩) g hg hφ hw hP hT hf0 hc0 hne
      rw [hn] at m
      exact fin m I1
  · cases e
end
end KV

set_option Elab.async false
set_option linter.all false
set_option maxRecDepth 100000
set_option maxHeartbeats 4000000
/-! KWC: made functions handed to a def and called there. -/
namespace KV
open PySem L2
open PySem.Spec PyProof.Rows NdefX LamX
def CF.nf (F : CF) : NF := ⟨F.name, F.qual, F.params, [], F.scope, F.cl, F.c⟩
/-- the context of a made function's body -/
abbrev cfCx (P : Program) (w0 : World) (K : PySem.W.Frag) (mg : Str → Option Value) (base : Heap) (N : List Str) (F : CF) (f : Addr) (A : Around) (outer : List Env) (s : Shared) (H : Hp) (E : XK) : Cx := (ncx CX0 P w0 K mg base N F.nf f A outer s H E).nox
section
variable {P : Program} {w0 : World} {K : PySem.W.Frag} {mg : Str → Option Value} {base : Heap} {N ps fr : List Str} {F : CF} {f : Addr} {k : Nat} {A : Around} {outer : List Env} {s : Shared} {H : Hp} {E : XK} {us : List Value} {vs : List V} {ws : List (Option V)} {Q : VK}
theorem cf_stmts {body : List Stmt} (hB : F.body = .stmts body) (S : NScope N ps fr F.scope) (hb : ∀ (dc mz cz : Value) (us : List Value), us.length = ps.length → bindArgs (F.fd dc mz cz) ⟨us, []⟩ = pure (ps.zip us)) (hr : Room (k + 1) A) (e0 : Env0 P w0 K mg base A outer s H) (hf : H f = some (CfO f F)) (hc : H F.c = some (CodeO F.c F.qual))
    (C : CellsAt F.cl fr ws s.heap H) (r : Vals vs us) (hl : vs.length = ps.length)
    (hbody : Room k (A.deeper (envF F.nf f s.heap.objs.size)) → ∃ t, PSs (cfCx P w0 K mg base N F f A outer s H E) body t ∧ t { nx := fun _ H' => Q .non H', rt := Q } (startF N vs ws) H) :
    codeAny (model P w0) A (.call (.ref f) ⟨us, []⟩) (CR CX0 outer P w0 H s Q E) s := by
  have noLim : s.heap.NoLimit := e0.mod.nolimit.keeps fun b o e => (e0.bs b o e).1
  obtain ⟨dz0, slz, dc, mz, cz, atF⟩ := cfO_at e0.hok hf
  refine codeAny_call_function hr.depth atF rfl S.co S.gen hB (codeO_at e0.hok hc) ?_
  rw [hb dc mz cz us (by rw [← r.length]; exact hl)]
  refine wpAny_pure (wpAny_newFunctionEnv S.nocell (fun ⟨n, _⟩ hy => S.par n (List.of_mem_zip hy).1) (fun h₁ nsp same => ⟨noLim.fresh _ same, ?_⟩) S.kind)
  show codeAny _ _ (.func body (envF F.nf f s.heap.objs.size)) _ _
  refine codeAny_func ?_
  have old : ∀ b o, s.heap.get? b = some o → h₁.get? b = some o := fun b o e => same.extBut b o (Nat.ne_of_lt (Heap.lt_size e)) (Heap.get?_push_of_some _ e)
  obtain ⟨t, tb, tq⟩ := hbody (hr.deeper _)
  have inv0 : Inv (ncx CX0 P w0 K mg base N F.nf f A outer s H E) [] (startF N vs ws) H { s with heap := h₁, toks := s.toks + (ps.zip us).length } := inv_startN S hr.hd e0 hl r C nsp old
  refine wpAny_mono (tb.nox.run [] _ (startF N vs ws) H _ inv0 tq) (fun fl s' hs => ?_) fun e s' hs => hs
  have done : ∀ {σ' : L2.St} {H' : Hp} {v : V} {u : Value}, Inv (ncx CX0 P w0 K mg base N F.nf f A outer s H E) [] σ' H' s' → L2.RelV v u → Q v H' → CE outer P w0 H s Q u s' :=
    fun {σ' H' v u} I2 rel q => ⟨v, H', I2.os, I2.bare, I2.base, I2.hok, rel, q⟩
  cases fl with
  | ret u =>
    obtain ⟨v, σ', H', I2, rel, q⟩ := hs
    exact done I2 rel q
  | next =>
    obtain ⟨σ', H', I2, q⟩ := hs
    exact done (v := V.non) (u := Value.none) I2 rfl q
  | brk =>
    obtain ⟨_, _, _, q⟩ := hs
    exact False.elim q
  | cont =>
    obtain ⟨_, _, _, q⟩ := hs
    exact False.elim q
theorem cf_expr {body : Expr} (hB : F.body = .expr body) (S : NScope N ps fr F.scope) (hb : ∀ (dc mz cz : Value) (us : List Value), us.length = ps.length → bindArgs (F.fd dc mz cz) ⟨us, []⟩ = pure (ps.zip us)) (hr : Room (k + 1) A) (e0 : Env0 P w0 K mg base A outer s H) (hf : H f = some (CfO f F)) (hc : H F.c = some (CodeO F.c F.qual))
    (C : CellsAt F.cl fr ws s.heap H) (r : Vals vs us) (hl : vs.length = ps.length)
    (hbody : Room k (A.deeper (envF F.nf f s.heap.objs.size)) → ∃ t, PE (cfCx P w0 K mg base N F f A outer s H E) body t ∧ t (startF N vs ws) H Q) :
    codeAny (model P w0) A (.call (.ref f) ⟨us, []⟩) (CR CX0 outer P w0 H s Q E) s := by
  have noLim : s.heap.NoLimit := e0.mod.nolimit.keeps fun b o e => (e0.bs b o e).1
  obtain ⟨dz0, slz, dc, mz, cz, atF⟩ := cfO_at e0.hok hf
  obtain ⟨c', oz, fz, tz, ez, atz, dz, vz⟩ := codeO_at e0.hok hc
  refine PySem.W.kla_callFunE hr.depth atF rfl S.co S.gen hB ⟨c', oz, fz, tz, ez, atz, dz, vz⟩ ?_
  rw [hb dc mz cz us (by rw [← r.length]; exact hl)]
  refine wpAny_pure (wpAny_newFunctionEnv S.nocell (fun ⟨n, _⟩ hy => S.par n (List.of_mem_zip hy).1) (fun h₁ nsp same => ⟨noLim.fresh _ same, ?_⟩) S.kind)
  show codeAny _ _ (.expr body (envF F.nf f s.heap.objs.size)) _ _
  have old : ∀ b o, s.heap.get? b = some o → h₁.get? b = some o := fun b o e => same.extBut b o (Nat.ne_of_lt (Heap.lt_size e)) (Heap.get?_push_of_some _ e)
  obtain ⟨t, tb, tq⟩ := hbody (hr.deeper _)
  have inv0 : Inv (ncx CX0 P w0 K mg base N F.nf f A outer s H E) [] (startF N vs ws) H { s with heap := h₁, toks := s.toks + (ps.zip us).length } := inv_startN S hr.hd e0 hl r C nsp old
  refine PySem.W.kla_codeExpr (wpAny_mono (tb.nox.run [] _ (startF N vs ws) H Q inv0 tq) (fun v s' hs => ?_) fun e s' hs => hs)
  obtain ⟨v', H', I2, rel, q⟩ := hs
  exact ⟨v', H', I2.os, I2.bare, I2.base, I2.hok, rel, q⟩
end
/-! ### a promise, told of the body's slots -/
section
variable {w : Wd} {k : Nat} {X : Cx} {pos : Pos} {σ : L2.St} {H Hf : Hp} {s s' : Sl} {φ : Nat → List Addr} {Q : VK} {io : List Nat}
theorem startF_eq {N : List Str} {vs ws : List V} : startF N vs (ws.map some) = (vs ++ ws).map some ++ List.replicate (N.length - (vs ++ ws).length) none := by
  unfold startF
  rw [List.map_append, List.append_assoc, List.length_map, List.length_append]
  congr 3
  omega
theorem spD_tS {np n : Nat} {d : Def} {vs : List V} {E : XK} (hn : d.n = n) (hio : d.io = []) (h : spD w np d vs H Q E) : tS w [] d.body { nx := fun _ H' => Q .non H', rt := Q } (vs.map some ++ List.replicate (n - vs.length) none) H := by
  obtain ⟨Hf, ts, φ, t, os, hl, g, hr, q⟩ := h
  have hlt : ts.length = vs.length := by have := g.len; simpa using this
  obtain ⟨⟨fl, s1⟩, h1, h2⟩ := R.bind_eq_ok.mp hr
  obtain ⟨t', h3, h4⟩ := R.bind_eq_ok.mp h2
  obtain ⟨os', h5, h6⟩ := R.bind_eq_ok.mp h4
  cases h6
  rw [hio] at h5
  cases h5
  obtain ⟨g0, o0⟩ := g.pad (n := n - vs.length)
  rw [hn, hlt] at h1
  refine ⟨Hf, _, φ, fl, s1, g0, h1, ?_⟩
  have fin : ∀ v σ' H' Hf' φ' F1, Good w σ' H' Hf' s1 φ' → OR w Hf' H' v t F1 → (∀ a ∈ F1, Hf' a = none ∧ ¬ Own s1 φ' a) → Stp H Hf (Own (ts.map some ++ List.replicate (n - vs.length) none) φ) H' Hf' (fun a => Own s1 φ' a ∨ a ∈ F1) → Q v H' := by
    intro v σ' H' Hf' φ' F1 g1 r1 c1 k1
    refine q v H' Hf' φ' F1 (by rw [hio]; exact Good.nilS g1.sub) r1 (fun a ha => ⟨(c1 a ha).1, fun ⟨i, t, e, _⟩ => by simp at e⟩) ⟨k1.sub, fun a o e n => k1.keep a o e fun z => n ((o0 a).mp z), fun a z => ?_⟩
    have z' : (Own s1 φ' a ∨ a ∈ F1) ∨ Hf' a ≠ none := by
      rcases z with (⟨i, t, e, _⟩ | z) | z
      · simp at e
      · exact .inl (.inr z)
      · exact .inr z
    rcases k1.new a z' with z | z | z
    · exact .inl ((o0 a).mp z)
    · exact .inr (.inl z)
    · exact .inr (.inr z)
  cases fl with
  | nx =>
    cases h3
    exact fun σ' H' Hf' φ' g1 k1 _ => fin .non σ' H' Hf' φ' [] g1 (.val .non) (fun a h => nomatch h) (k1.weak fun a z => z.elim id fun z => nomatch z)
  | rt t2 =>
    cases h3
    exact fun v σ' H' Hf' φ' F1 g1 r1 c1 k1 _ => fin v σ' H' Hf' φ' F1 g1 r1 c1 k1
  | bk => cases h3
  | ct => cases h3
/-- the value for good: what a lambda gives -/
def sRetD (f : EV) : SV := fun s => (kD f s).bind fun r => .ok (.rt (.val r.1), r.2)
theorem spD_tE {np n : Nat} {f : EV} {vs : List V} {E : XK} (h : spD w np ⟨n, [], sRetD f⟩ vs H Q E) : tE w f (vs.map some ++ List.replicate (n - vs.length) none) H Q := by
  obtain ⟨Hf, s, φ, fl, s', g, e, q⟩ := spD_tS (n := n) rfl rfl h
  obtain ⟨⟨d, s1⟩, h1, h2⟩ := R.bind_eq_ok.mp e
  cases h2
  exact tE_D g h1 fun v H1 Hf1 φ1 g1 r1 k1 => q v _ H1 Hf1 φ1 [] g1 (.val r1) (fun a h => nomatch h) (k1.weak fun a z => z.elim id fun z => nomatch z) Kp.refl
/-! ### captured cells: hidden, shown -/
def Hid (cl : List (Str × Addr)) (b : Addr) : Prop := ∃ y, cl.lookup y = some b
open Classical in
noncomputable def hid (cl : List (Str × Addr)) (H : Hp) : Hp := fun b => if Hid cl b then none else H b
open Classical in
noncomputable def unh (cl : List (Str × Addr)) (H H2 : Hp) : Hp := fun b => if Hid cl b then H b else H2 b
/-- a thing of which nothing is told but that it is there -/
def u0 : HO := .ext fun _ => True
section
variable {cl : List (Str × Addr)} {H2 : Hp} {b : Addr}
theorem hid_in (h : Hid cl b) : hid cl H b = none := if_pos h
theorem hid_out (h : ¬ Hid cl b) : hid cl H b = H b := if_neg h
theorem unh_in (h : Hid cl b) : unh cl H H2 b = H b := if_pos h
theorem unh_out (h : ¬ Hid cl b) : unh cl H H2 b = H2 b := if_neg h
/-- what is hidden is a frozen thing -/
def Frz (cl : List (Str × Addr)) (H : Hp) : Prop := ∀ b u, Hid cl b → H b = some u → ∃ o, u = .frz o u0
theorem Frz.sub (h : Frz cl H) (s : Sub Hf H) : Frz cl Hf := fun b u hb e => h b u hb (s _ _ e)
theorem Frz.not {u : HO} (h : Frz cl H) (e : H b = some u) (n : ∀ o, u ≠ .frz o u0) : ¬ Hid cl b := fun z => by
  obtain ⟨o, q⟩ := h b u z e
  exact n o q
theorem Frz.hid (h : Frz cl H) {u : HO} (e : H b = some u) (n : ∀ o, u ≠ .frz o u0) : hid cl H b = some u := by rw [hid_out (h.not e n)]; exact e
theorem hid_some {u : HO} (e : hid cl H b = some u) : ¬ Hid cl b ∧ H b = some u := by
  by_cases z : Hid cl b
  · rw [hid_in z] at e; cases e
  · rw [hid_out z] at e; exact ⟨z, e⟩
theorem u0_ne {u : HO} (h : ∀ φ, u ≠ .ext φ) (o o' : Obj) : HO.frz o u ≠ HO.frz o' u0 := fun z => by
  unfold u0 at z
  cases z
  exact h _ rfl
end
section
variable {K : PySem.W.Frag} {cl : List (Str × Addr)}
mutual
theorem Rp.hid (h : Frz cl Hf) : ∀ {v : V} {x : D}, Rp K Hf v x → Rp K (KV.hid cl Hf) v x
  | _, _, .non => .non
  | _, _, .bl b => .bl b
  | _, _, .int i => .int i
  | _, _, .str x => .str x
  | _, _, .lst e r => .lst (h.hid e fun o z => nomatch z) (RpA.hid h r)
  | _, _, .tup e r => .tup (by
      rcases e with ⟨o, e, q⟩ | e
      · exact .inl ⟨o, h.hid e fun o' => u0_ne (u := .tup _) (fun φ z => nomatch z) o o', q⟩
      · exact .inr e) (RpA.hid h r)
  | _, _, .dct e r => .dct (by
      rcases e with e | ⟨o, e⟩
      · exact .inl (h.hid e fun o z => nomatch z)
      · exact .inr ⟨o, h.hid e fun o' => u0_ne (u := .dK _) (fun φ z => nomatch z) o o'⟩) (RpKv.hid h r)
theorem RpA.hid (h : Frz cl Hf) : ∀ {vs : List V} {ds : List D}, RpA K Hf vs ds → RpA K (KV.hid cl Hf) vs ds
  | _, _, .nil => .nil
  | _, _, .cons e r => .cons (Rp.hid h e) (RpA.hid h r)
theorem RpKv.hid (h : Frz cl Hf) : ∀ {vs : List (Key × V)} {ds : List (D × D)}, RpKv K Hf vs ds → RpKv K (KV.hid cl Hf) vs ds
  | _, _, .nil => .nil
  | _, _, .cons e r => .cons (Rp.hid h e) (RpKv.hid h r)
end
end
section
variable {P : Program} {w0 : World} {cl : List (Str × Addr)} {h : Heap} {H2 : Hp}
theorem HOk.hid (hok : HOk P w0 H h) (hf : Frz cl H) : HOk P w0 (KV.hid cl H) h := fun a o e => by
  obtain ⟨_, e1⟩ := hid_some e
  exact (hok a o e1).stay (fun b u _ q => q) (fun b q => hf.hid q fun o z => nomatch z) fun b xs q => hf.hid q fun o z => nomatch z
theorem HOk.shown (hok : HOk P w0 H2 h) (hn : ∀ b, Hid cl b → H2 b = none) (hH : ∀ b, Hid cl b → ∃ o, H b = some (.frz o u0) ∧ h.get? b = some o) : HOk P w0 (unh cl H H2) h := fun a o e => by
  by_cases z : Hid cl a
  · rw [unh_in z] at e
    obtain ⟨oo, e1, e2⟩ := hH a z
    rw [e1] at e
    cases e
    exact ⟨e2, trivial, ⟨oo, e2⟩, fun _ _ _ _ => trivial⟩
  · rw [unh_out z] at e
    have out : ∀ {b : Addr} {u : HO}, H2 b = some u → unh cl H H2 b = some u := fun {b u} q => by
      rw [unh_out fun y => by rw [hn b y] at q; cases q]
      exact q
    exact (hok a o e).stay (fun b u _ q => q) (fun b q => out q) fun b xs q => out q
end
/-- what a function captured, told by frozen cells -/
structure Caught (Hf : Hp) (cl : List (Str × Addr)) (fr : List Str) (ws : List V) : Prop where
  len : ws.length = fr.length
  all : ∀ y c, cl.lookup y = some c → ∃ o u, Hf c = some (.frz o u0) ∧ o.data = .cell u
  inj : ∀ x y c, cl.lookup x = some c → cl.lookup y = some c → x = y
  has : ∀ (i : Nat) (y : Str), fr[i]? = some y → ∃ c, cl.lookup y = some c ∧ ∀ v, ws[i]? = some v → ∃ o u, Hf c = some (.frz o u0) ∧ o.data = .cell (some u) ∧ L2.RelV v u
theorem Caught.mono {cl : List (Str × Addr)} {fr : List Str} {ws : List V} {Hf' : Hp} (c : Caught Hf cl fr ws) (sb : Sub Hf Hf') : Caught Hf' cl fr ws :=
  ⟨c.len, fun y a e => let ⟨o, u, h1, h2⟩ := c.all y a e; ⟨o, u, sb _ _ h1, h2⟩, c.inj, fun i y e => let ⟨a, h1, h2⟩ := c.has i y e; ⟨a, h1, fun v ev => let ⟨o, u, q1, q2, q3⟩ := h2 v ev; ⟨o, u, sb _ _ q1, q2, q3⟩⟩⟩
theorem Caught.frz {cl : List (Str × Addr)} {fr : List Str} {ws : List V} (c : Caught Hf cl fr ws) (sb : Sub Hf H) : Frz cl H := fun b u ⟨y, e⟩ q => by
  obtain ⟨o, _, h1, _⟩ := c.all y b e
  rw [sb _ _ h1] at q
  cases q
  exact ⟨o, rfl⟩
theorem Caught.cells {P : Program} {w0 : World} {h : Heap} {cl : List (Str × Addr)} {fr : List Str} {ws : List V} (c : Caught Hf cl fr ws) (sb : Sub Hf H) (hok : HOk P w0 H h) : CellsAt cl fr (ws.map some) h (hid cl H) := by
  refine ⟨by rw [List.length_map]; exact c.len, fun y a e => ?_, c.inj, fun i y e => ?_⟩
  · obtain ⟨o, u, h1, h2⟩ := c.all y a e
    obtain ⟨h3, _⟩ := hok a _ (sb _ _ h1)
    exact ⟨hid_in ⟨y, e⟩, u, o, h3, h2⟩
  · obtain ⟨a, h1, h2⟩ := c.has i y e
    refine ⟨a, h1, fun v ev => ?_⟩
    rw [List.getElem?_map] at ev
    obtain ⟨v', e1, e2⟩ := Option.map_eq_some_iff.mp ev
    cases e2
    obtain ⟨o, u, q1, q2, q3⟩ := h2 v e1
    obtain ⟨q4, _⟩ := hok a _ (sb _ _ q1)
    exact ⟨u, q3, o, q4, q2⟩
/-! ### what a function that is handed over answers -/
def resD : T × List T → R D
  | (.val d, []) => .ok d
  | _ => .no
/-- so many arguments, what it captured behind them -/
def cloF (np : Nat) (d : Def) (cs : List D) : List D → R D := fun ds => if ds.length = np then (d.run ((ds ++ cs).map .val)).bind resD else .no
/-- a def's promise -/
def CfP (P : Program) (w0 : World) (K : PySem.W.Frag) (mg : Str → Option Value) (base : Heap) (wd : Wd) (k np : Nat) (F : CF) (fr : List Str) (d : Def) : Prop :=
  ∀ (f : Addr) (A : Around) (outer : List Env) (s : Shared) (H : Hp) (us : List Value) (vs ws : List V) (Q : VK), Room k A → A.guards = some [] → Env0 P w0 K mg base A outer s H → H f = some (CfO f F) → H F.c = some (CodeO F.c F.qual) → CellsAt F.cl fr (ws.map some) s.heap H → Vals vs us → vs.length = np →
    spD wd (np + fr.length) d (vs ++ ws) H Q E0 → codeAny (model P w0) A (.call (.ref f) ⟨us, []⟩) (CR CX0 outer P w0 H s Q E0) s
/-- a function of which is known what it answers -/
structure CloH (P : Program) (w0 : World) (K : PySem.W.Frag) (mg : Str → Option Value) (base : Heap) (wd : Wd) (k : Nat) (Hf : Hp) (v : V) (g : List D → R D) : Prop where
  ex : ∃ (f : Addr) (F : CF) (np : Nat) (fr : List Str) (d : Def) (ws : List V) (cs : List D), v = .ref f ∧ Hf f = some (CfO f F) ∧ Hf F.c = some (CodeO F.c F.qual) ∧ Caught Hf F.cl fr ws ∧ RpA wd.K Hf ws cs ∧ d.io = [] ∧ g = cloF np d cs ∧ CfP P w0 K mg base wd k np F fr d
theorem CloH.mono {P : Program} {w0 : World} {K : PySem.W.Frag} {mg : Str → Option Value} {base : Heap} {wd : Wd} {kk : Nat} {Hf' : Hp} {v : V} {g : List D → R D} (h : CloH P w0 K mg base wd kk Hf v g) (sb : Sub Hf Hf') : CloH P w0 K mg base wd kk Hf' v g := by
  obtain ⟨f, F, np, fr, d, ws, cs, e, h1, h2, h3, h4, h5⟩ := h.ex
  exact ⟨f, F, np, fr, d, ws, cs, e, sb _ _ h1, sb _ _ h2, h3.mono sb, h4.mono sb, h5⟩
/-- the world in which such functions are handed over -/
def WC (P : Program) (w0 : World) (K : PySem.W.Frag) (mg : Str → Option Value) (base : Heap) (wd : Wd) (kk : Nat) : Wd :=
  ⟨wd.K, fun Hf v _ g => CloH P w0 K mg base wd kk Hf v g, fun sb h => h.mono sb, wd.tb⟩
theorem good_nil {φ' : Nat → List Addr} (g : Good w σ H Hf s φ') (h : ∀ j, φ' j = []) : Good w σ H Hf s (fun _ => []) := by
  have e : φ' = fun _ => [] := funext h
  rw [e] at g
  exact g
theorem good_vals {K : PySem.W.Frag} (hK : w.K = K) : ∀ {vs : List V} {ds : List D}, RpA K Hf vs ds → Sub Hf H → Good w (vs.map some) H Hf ((ds.map T.val).map some) (fun _ => [])
  | _, _, .nil, sb => Good.nilS sb
  | _, _, .cons r rs, sb => by
    obtain ⟨g, _⟩ := (good_vals hK rs sb).cons (.val (hK ▸ r)) (F := []) fun a h => nomatch h
    exact good_nil g fun j => by cases j <;> rfl
theorem own_vals {ds : List D} {a : Addr} : ¬ Own ((ds.map T.val).map some) (fun _ => []) a := fun ⟨_, _, _, m⟩ => nomatch m
/-- how a function that a slot holds runs -/
def FRun (w : Wd) (X : Cx) (Hf0 : Hp) (v : V) (g : List D → R D) : Prop := ∃ f, v = .ref f ∧ ∀ (pins : List (Addr × Obj)) (sh : Shared) (σ : L2.St) (H Hf : Hp) (s : Sl) (φ : Nat → List Addr), Inv X pins σ H sh → Good w σ H Hf s φ → Sub Hf0 Hf → PySem.W.FnAt f sh.heap ∧
  ∀ (us : List Value) (vs : List V) (ds : List D) (d : D) (Q : VK), Vals vs us → RpA w.K Hf vs ds → g ds = .ok d → PQ w σ H Hf s φ s (.d d) Q → wpAny (model X.prog X.w) X.A (call (.ref f) us) (EP X pins σ Q) X.xe sh
theorem clo_run {wd : Wd} {kk : Nat} {Hf0 : Hp} {v : V} {g : List D → R D} (c : Cok w k X) (hwd : wd.K = w.K) (hk : kk ≤ k) (h : CloH X.prog X.w X.K X.mg X.base wd kk Hf0 v g) : FRun w X Hf0 v g := by
  obtain ⟨f, F, np, fr, d, ws, cs, rfl, hf, hc, C0, rw_, hio, rfl, hp⟩ := h.ex
  refine ⟨f, rfl, fun pins sh σ H Hf s φ I gd sb => ?_⟩
  have hfH : H f = some (CfO f F) := gd.sub _ _ (sb _ _ hf)
  have hcH : H F.c = some (CodeO F.c F.qual) := gd.sub _ _ (sb _ _ hc)
  have C := C0.mono sb
  have fz : Frz F.cl H := C.frz gd.sub
  have fzf : Frz F.cl Hf := fz.sub gd.sub
  have held : ∀ b, Hid F.cl b → ∃ o, H b = some (.frz o u0) ∧ sh.heap.get? b = some o := fun b ⟨y, e⟩ => by
    obtain ⟨o, _, h1, _⟩ := C.all y b e
    have h2 := gd.sub _ _ h1
    obtain ⟨h3, _⟩ := I.hok b _ h2
    exact ⟨o, h2, h3⟩
  obtain ⟨od, sl, doc, pm, ctv, ho⟩ := cfO_at I.hok hfH
  refine ⟨⟨_, od, _, sl, ho⟩, fun us vs ds dd Q r rp e q => ?_⟩
  unfold cloF at e
  split at e
  · rename_i hnp
    obtain ⟨⟨t, os⟩, h1, h2⟩ := R.bind_eq_ok.mp e
    have ht : t = .val dd ∧ os = [] := by
      cases t <;> cases os <;> simp [resD] at h2
      exact ⟨by rw [h2], rfl⟩
    obtain ⟨rfl, rfl⟩ := ht
    have sbH : Sub (hid F.cl Hf) (hid F.cl H) := fun a o q => by
      obtain ⟨n, q1⟩ := hid_some q
      rw [hid_out n]
      exact gd.sub _ _ q1
    have rall : RpA wd.K (hid F.cl Hf) (vs ++ ws) (ds ++ cs) := ((hwd ▸ rp).append (rw_.mono sb)).hid fzf
    have gg := good_vals (w := wd) (H := hid F.cl H) rfl rall sbH
    have hv : vs.length = np := by rw [rp.length]; exact hnp
    have e0 := I.env0
    have env : Env0 X.prog X.w X.K X.mg X.base X.A X.stack sh (hid F.cl H) := by
      refine ⟨e0.frames, e0.mod, fun b o q => ⟨(e0.bs b o q).1, ?_⟩, e0.bsz, e0.funs, fun b hb => ?_, HOk.hid e0.hok fz, e0.bare⟩
      · by_cases z : Hid F.cl b
        · exact hid_in z
        · rw [hid_out z]; exact (e0.bs b o q).2
      · by_cases z : Hid F.cl b
        · exact hid_in z
        · rw [hid_out z]; exact e0.frf b hb
    refine wpAny_call (codeAny_mono (hp f X.A X.stack sh (hid F.cl H) us vs ws (fun v H2 => (∀ b, Hid F.cl b → H2 b = none) → Q v (unh F.cl H H2)) (c.room.mono hk) c.gd env (fz.hid hfH fun o z => by unfold CfO at z; cases z) (fz.hid hcH fun o z => by unfold CodeO at z; cases z) (C.cells gd.sub I.hok) r hv
      ⟨hid F.cl Hf, _, _, .val dd, [], by rw [List.length_append, hv, C.len], gg, h1, fun v H' Hf' ψ F1 g2 r2 c2 k2 hn => ?_⟩) fun res s' hq => ?_)
    · have nf : ∀ b, Hid F.cl b → Hf' b = none := fun b z => by
        cases q2 : Hf' b with
        | none => rfl
        | some u =>
          have := g2.sub _ _ q2
          rw [hn b z] at this
          cases this
      have st : Stp H Hf (fun _ => False) (unh F.cl H H') (unh F.cl Hf Hf') (fun _ => False) := by
        refine ⟨fun a o q2 => ?_, fun a o q2 _ => ?_, fun a z => ?_⟩
        · by_cases z : Hid F.cl a
          · rw [unh_in z]; exact q2
          · rw [unh_out z]; exact k2.sub a o (by rw [hid_out z]; exact q2)
        · by_cases z : Hid F.cl a
          · rw [unh_in z]; exact q2
          · rw [unh_out z]; exact k2.keep a o (by rw [hid_out z]; exact q2) own_vals
        · rcases z with z | z
          · exact z.elim
          · by_cases y : Hid F.cl a
            · rw [unh_in y] at z; exact .inr (.inl z)
            · rw [unh_out y] at z
              rcases k2.new a (.inr z) with x | x | x
              · exact absurd x own_vals
              · rw [hid_out y] at x; exact .inr (.inl x)
              · rw [hid_out y] at x; exact .inr (.inr x)
      have sb2 : Sub (unh F.cl Hf Hf') (unh F.cl H H') := fun a o q2 => by
        by_cases z : Hid F.cl a
        · rw [unh_in z] at q2 ⊢; exact gd.sub _ _ q2
        · rw [unh_out z] at q2 ⊢; exact g2.sub _ _ q2
      have sb3 : Sub Hf' (unh F.cl Hf Hf') := fun a o q2 => by
        rw [unh_out fun z => by rw [nf a z] at q2; cases q2]
        exact q2
      obtain ⟨g3, _⟩ := gd.aside st sb2 fun a z => z.elim
      have r3 : Rp w.K (unh F.cl Hf Hf') v dd := by cases r2 with | val r => exact (hwd ▸ r).mono sb3
      exact q v _ _ φ [] g3 (.d r3) ⟨st.sub, fun a o q2 _ => st.keep a o q2 id, fun a z => by
        rcases z with (z | z) | z
        · exact .inl z
        · cases z
        · exact (st.new a (.inr z)).imp False.elim id⟩
    · cases res with
      | error ee => exact hq.elim
      | ok fl =>
        cases fl with
        | ret u =>
          obtain ⟨v, H2, os, bare, un, hok2, rv, q2⟩ := hq
          have gone : ∀ b, Hid F.cl b → H2 b = none := fun b z => by
            obtain ⟨o, _, h3⟩ := held b z
            exact un.free b o h3 (hid_in z) (fun y => nomatch y)
          have nS : ∀ b, H b ≠ none → b ∉ frs X.stack := fun b n z => n (e0.frf b z)
          have still : ∀ b, Hid F.cl b → ∃ o, H b = some (.frz o u0) ∧ s'.heap.get? b = some o := fun b z => by
            obtain ⟨o, h2, h3⟩ := held b z
            exact ⟨o, h2, un.keep b o h3 (hid_in z) (nS b (by rw [h2]; simp)) (fun y => nomatch y)⟩
          have no : ∀ b, H b = none → ¬ Hid F.cl b := fun b n z => by
            obtain ⟨o, h2, _⟩ := held b z
            rw [n] at h2; cases h2
          refine I.after ⟨v, unh F.cl H H2, os, bare, ⟨fun b o e n => un.keep b o e (by rw [hid_out (no b n)]; exact n), fun b o e n => un.slot b o e (by rw [hid_out (no b n)]; exact n), fun b o e n hx => ?_, un.there, fun b xs e => ?_, fun b o u e => ?_, fun b qs e => ?_⟩, HOk.shown hok2 gone still, rv, q2 gone⟩
          · rw [unh_out (no b n)]
            exact un.free b o e (by rw [hid_out (no b n)]; exact n) hx
          · have z := fz.not e fun o z => nomatch z
            rw [unh_out z]
            exact un.tups b xs (by rw [hid_out z]; exact e)
          · by_cases z : Hid F.cl b
            · rw [unh_in z]; exact e
            · rw [unh_out z]; exact un.frzs b o u (by rw [hid_out z]; exact e)
          · have z := fz.not e fun o z => nomatch z
            rw [unh_out z]
            exact un.tbls b qs (by rw [hid_out z]; exact e)
        | next => exact False.elim hq
        | brk => exact False.elim hq
        | cont => exact False.elim hq
  · cases e
/-! ### f(..), f a name that holds a function that was handed over -/
def valsA : List AR → R (List D)
  | [] => .ok []
  | .v d :: r => (valsA r).bind fun ds => .ok (d :: ds)
  | _ :: _ => .no
theorem valsA_ok : ∀ {as : List AR} {ds : List D} {vs : List V}, valsA as = .ok ds → RAs w σ Hf H vs as → RpA w.K Hf vs ds
  | [], _, _, e, .nil => by cases e; exact .nil
  | .v d :: r, _, _, e, .cons (.v h) t => by
    obtain ⟨ds, h1, h2⟩ := R.bind_eq_ok.mp e
    cases h2
    exact .cons h (valsA_ok h1 t)
  | .io _ :: _, _, _, e, _ => by cases e
  | .f _ :: _, _, _, e, _ => by cases e
def kClo (i : Nat) (g : CV) : EV := fun s => match s[i]? with
  | some (some (.clo _ f)) => (g s).bind fun q => (valsA q.1).bind fun ds => (f ds).bind fun d => .ok (.d d, q.2)
  | _ => .no
theorem ge_clo {wd : Wd} {kk : Nat} {x : Str} {px : Pos} {e : Expr} {es : List Expr} {g : CV} {p : List Bool} (i : Nat) (c : Cok (WC X.prog X.w X.K X.mg X.base wd kk) k X) (hk : kk ≤ k) (ha : GR (WC X.prog X.w X.K X.mg X.base wd kk) X (e :: es) g p) (hN : X.N[i]? = some x := by rfl) (hv : Vis X.env.scope x := by first | exact Or.inl rfl | exact Or.inr (Or.inl rfl) | exact Or.inr (Or.inr rfl)) (hd : (x == ("__debug__" : Str)) = false := by decide) (hcd : (x == ("__classdict__" : Str)) = false := by decide)
    (he : starEach (e :: es) X.env = (false, eval e X.env) :: starEach es X.env := by rfl) (hpl : (backTo pos (starEach es X.env)).any (·.1) = false := by rfl) : GE (WC X.prog X.w X.K X.mg X.base wd kk) X (.Call (.Name x px) (e :: es) [] pos) (kClo i g) := by
  refine ⟨fun pins sh σ H Q I h => ?_⟩
  obtain ⟨Hf, s, φ, l, s', gd, e0, q⟩ := h
  unfold kClo at e0
  split at e0
  · rename_i n f hs
    obtain ⟨⟨as, s1⟩, h1, h2⟩ := R.bind_eq_ok.mp e0
    obtain ⟨ds, h3, h4⟩ := R.bind_eq_ok.mp h2
    obtain ⟨d, h5, h6⟩ := R.bind_eq_ok.mp h4
    cases h6
    obtain ⟨v, hσ, r⟩ := gd.here i _ hs
    have hcl : CloH X.prog X.w X.K X.mg X.base wd kk Hf v f := by
      generalize φ i = Fi at r
      cases r with
      | clo c0 => exact c0
    obtain ⟨fa, rfl, hrun⟩ := clo_run (wd := wd) c rfl hk hcl
    refine wpAny_Call_Name_kw (thn ((pe_var (pos := px) hN hv hd hcd).run pins sh σ H (fun v H1 => v = .ref fa ∧ H1 = H) I ⟨.ref fa, hσ, rfl, rfl⟩) fun u s2 ⟨v, H1, I1, r1, q1⟩ => ?_)
    obtain ⟨ev, eH⟩ := q1
    subst ev
    rw [eH] at I1
    obtain rfl : u = Value.ref fa := r1
    have fn1 := (hrun pins s2 σ H Hf s φ I1 gd (Sub.refl _)).1
    refine PySem.W.callWith_F (first := []) fn1 (thn (ha.run pos pins s2 σ H (fun vs H2 => ∃ Hf2 φ2, Good (WC X.prog X.w X.K X.mg X.base wd kk) σ H2 Hf2 s1 φ2 ∧ RAs (WC X.prog X.w X.K X.mg X.base wd kk) σ Hf2 H2 vs as ∧ Stp H Hf (Own s φ) H2 Hf2 (Own s1 φ2)) I1 ⟨Hf, s, φ, as, s1, gd, h1, fun vs H2 Hf2 φ2 g2 r2 p2 k2 => ⟨Hf2, φ2, g2, r2, k2⟩⟩) fun us s3 ⟨vs, H2, I2, r, Hf2, φ2, g2, r2, k2⟩ => ?_) he hpl
    obtain ⟨fn2, run2⟩ := hrun pins s3 σ H2 Hf2 s1 φ2 I2 g2 k2.sub
    refine ⟨fn2, ?_⟩
    show wpAny _ _ (call (.ref fa) us) _ _ _
    exact run2 us vs ds d Q r (valsA_ok h3 r2) h5 (q.later k2 (fun _ => id) g2)
  · cases e0
end
end KV

set_option Elab.async false
set_option linter.all false
set_option maxRecDepth 100000
set_option maxHeartbeats 4000000
/-! KWD: a def that is handed functions; the def that makes them. -/
namespace KV
open PySem L2
open PySem.Spec PyProof.Rows NdefX LamX
section
variable {w : Wd} {k : Nat} {X : Cx} {pos : Pos} {σ : L2.St} {H Hf : Hp} {s s' : Sl} {φ : Nat → List Addr} {Q : VK} {io : List Nat}
/-! ### a frame's cells, frozen as long as another def runs -/
open Classical in
noncomputable def fre (cl : List (Str × Addr)) (h : Heap) (H : Hp) : Hp := fun b => if Hid cl b then (h.get? b).map (fun o => .frz o u0) else H b
section
variable {cl : List (Str × Addr)} {h : Heap} {b : Addr}
theorem fre_in {o : Obj} (z : Hid cl b) (e : h.get? b = some o) : fre cl h H b = some (.frz o u0) := by
  unfold fre
  rw [if_pos z, e]
  rfl
theorem fre_out (z : ¬ Hid cl b) : fre cl h H b = H b := if_neg z
theorem fre_sub (hn : ∀ b, Hid cl b → H b = none) : Sub H (fre cl h H) := fun a o e => by
  rw [fre_out fun z => by rw [hn a z] at e; cases e]
  exact e
theorem HOk.fre {P : Program} {w0 : World} (hok : HOk P w0 H h) (hn : ∀ b, Hid cl b → H b = none) : HOk P w0 (KV.fre cl h H) h := fun a o e => by
  by_cases z : Hid cl a
  · cases q : h.get? a with
    | none =>
      unfold KV.fre at e
      rw [if_pos z, q] at e
      cases e
    | some ob =>
      rw [fre_in z q] at e
      cases e
      exact ⟨q, trivial, ⟨ob, q⟩, fun _ _ _ _ => trivial⟩
  · rw [fre_out z] at e
    exact (hok a o e).stay (fun b u _ q => q) (fun b q => fre_sub hn _ _ q) fun b xs q => fre_sub hn _ _ q
end
/-- a frame's cells are new ones -/
def CellsNew (X : Cx) : Prop := ∀ b, Hid X.env.cells b → X.s_0.heap.objs.size ≤ b
theorem cells_from : ∀ (names : List (Str × NameKind)) (n m : Nat) (acc : List (Str × Addr)), m ≤ n → (∀ p ∈ acc, m ≤ p.2) → ∀ p ∈ cellsFrom n names acc, m ≤ p.2
  | [], _, _, _, _, h => h
  | (x, kd) :: r, n, m, acc, hm, h => by
    unfold cellsFrom
    split
    · exact cells_from r (n + 1) m _ (by omega) fun p hp => by
        rcases List.mem_cons.mp hp with q | q
        · rw [q]; exact hm
        · exact h p q
    · exact cells_from r n m acc hm h
theorem cells_new {names : List (Str × NameKind)} (he : X.env.cells = cellsFrom (X.s_0.heap.objs.size + 1) names []) : CellsNew X := fun b ⟨y, e⟩ => by
  rw [he] at e
  have := cells_from names (X.s_0.heap.objs.size + 1) (X.s_0.heap.objs.size) [] (Nat.le_succ _) (fun p hp => nomatch hp) _ (PySem.mem_of_lookup e)
  exact this
theorem CellsNew.at {pins : List (Addr × Obj)} {sh : Shared} (h : CellsNew X) (I : Inv X pins σ H sh) : ∀ b, Hid X.env.cells b → X.base.get? b = none ∧ b ∉ frs X.stack := fun b z => by
  have hb := h b z
  have nofs : b ∉ X.fs := fun q => by
    obtain ⟨_, o, ho, _⟩ := I.ok.funs.mem q
    exact absurd (Nat.lt_of_lt_of_le (Heap.lt_size ho) hb) (Nat.lt_irrefl _)
  constructor
  · cases q : X.base.get? b with
    | none => rfl
    | some o => exact absurd (Nat.lt_of_lt_of_le (Nat.lt_of_lt_of_le (Heap.lt_size q) I.ok.bsz) hb) (Nat.lt_irrefl _)
  · rcases I.ok.stk with q | ⟨q, q2⟩
    · rw [q]; exact nofs
    · rw [q]
      intro m
      unfold frs at m
      rw [List.filterMap_cons, q2] at m
      rcases List.mem_cons.mp m with e | e
      · obtain ⟨y, hy⟩ := z
        exact I.cne y b hy e
      · exact nofs e
/-! ### arguments that are made there -/
def cLam (gh n : Nat) (g : CV) : CV := fun s => match s[gh]? with
  | some (some .tbs) => (g s).bind fun q => .ok (.f (.clo n dmy) :: q.1, q.2)
  | _ => .no
theorem gr_lam {gh n : Nat} {e : Expr} {es : List Expr} {g : CV} {p : List Bool} (he : GE w X e (kLam gh n)) (hr : GR w X es g p) (hs : starEach (e :: es) X.env = (false, eval e X.env) :: starEach es X.env := by rfl) : GR w X (e :: es) (cLam gh n g) (false :: p) := by
  refine pa_imp (pa_cons he hr hs) fun σ H Q => ?_
  rintro ⟨Hf, s, φ, as, s', gd, e, q⟩
  unfold cLam at e
  split at e
  · rename_i hg
    obtain ⟨⟨as', s2⟩, h3, h4⟩ := R.bind_eq_ok.mp e
    cases h4
    refine ⟨Hf, s, φ, .t (.clo n dmy), s, gd, by unfold kLam; rw [hg], fun v H1 Hf1 φ1 F g1 r1 k1 => ?_⟩
    have eF : F = [] ∧ OR w Hf1 H1 v (.clo n dmy) [] := by
      cases r1 with
      | t r c1 => cases r with | clo c0 => exact ⟨rfl, .clo c0⟩
    obtain ⟨rfl, ro⟩ := eF
    have k1' : Stp H Hf (Own s φ) H1 Hf1 (Own s φ1) := k1.weak fun a z => .inl z
    exact ⟨Hf1, s, φ1, as', _, g1, h3, fun vs H2 Hf2 φ2 g2 r2 p2 k2 => q (v :: vs) H2 Hf2 φ2 g2 (.cons (.f (ro.stay k2.sub fun a h => nomatch h)) r2) (by rw [List.map_cons, p2]; rfl) (k1'.trans k2 (fun _ => id) fun x hx => g1.own_free hx)⟩
  · cases e
/-! ### a call that hands functions on -/
/-- what the arguments are, what the functions captured read now -/
def tsOf (caps : Nat → Sl → R (List D → R D)) (s : Sl) : List AR → R (List T)
  | [] => .ok []
  | .v d :: r => (tsOf caps s r).bind fun ts => .ok (.val d :: ts)
  | .f (.clo n _) :: r => (caps n s).bind fun g => (tsOf caps s r).bind fun ts => .ok (.clo n g :: ts)
  | _ :: _ => .no
def kCallC (run : List T → R (T × List T)) (g : CV) (caps : Nat → Sl → R (List D → R D)) : EV := fun s => (g s).bind fun q => (tsOf caps q.2 q.1).bind fun ts => (run ts).bind fun r => (resD r).bind fun d => .ok (.d d, q.2)
/-- what is known of the functions that a frame made -/
def CapOk (w : Wd) (X : Cx) (wd : Wd) (kk : Nat) (caps : Nat → Sl → R (List D → R D)) : Prop := ∀ (pins : List (Addr × Obj)) (sh : Shared) (σ : L2.St) (H Hf : Hp) (s : Sl) (φ : Nat → List Addr) (v : V) (n : Nat) (f0 g : List D → R D),
  Inv X pins σ H sh → Good w σ H Hf s φ → w.CL Hf v n f0 → caps n s = .ok g → CloH X.prog X.w X.K X.mg X.base wd kk (fre X.env.cells sh.heap Hf) v g
theorem good_ts {wd : Wd} {kk : Nat} {caps : Nat → Sl → R (List D → R D)} {pins : List (Addr × Obj)} {sh : Shared} (hwd : wd.K = w.K) (hc : CapOk w X wd kk caps) (I : Inv X pins σ H sh) (g : Good w σ H Hf s φ) (s1 : Sub Hf (fre X.env.cells sh.heap Hf)) (s2 : Sub (fre X.env.cells sh.heap Hf) (fre X.env.cells sh.heap H)) :
    ∀ {vs : List V} {as : List AR} {ts : List T}, RAs w σ Hf H vs as → tsOf caps s as = .ok ts → Good (WC X.prog X.w X.K X.mg X.base wd kk) (vs.map some) (fre X.env.cells sh.heap H) (fre X.env.cells sh.heap Hf) (ts.map some) (fun _ => [])
  | _, [], _, .nil, e => by cases e; exact Good.nilS s2
  | _, .v d :: r, _, .cons (.v h) t, e => by
    obtain ⟨ts, h1, h2⟩ := R.bind_eq_ok.mp e
    cases h2
    obtain ⟨g1, _⟩ := (good_ts hwd hc I g s1 s2 t h1).cons (.val (show Rp wd.K (fre X.env.cells sh.heap Hf) _ d from (hwd ▸ h).mono s1)) (F := []) fun a h => nomatch h
    exact good_nil g1 fun j => by cases j <;> rfl
  | _, .f (.clo n f0) :: r, _, .cons (v := v) (.f h) t, e => by
    obtain ⟨gf, h1, h2⟩ := R.bind_eq_ok.mp e
    obtain ⟨ts, h3, h4⟩ := R.bind_eq_ok.mp h2
    cases h4
    have hcl : w.CL Hf v n f0 := by cases h with | clo c => exact c
    obtain ⟨g1, _⟩ := (good_ts hwd hc I g s1 s2 t h3).cons (.clo (hc pins sh σ H Hf s φ v n f0 gf I g hcl h1)) (F := []) fun a h => nomatch h
    exact good_nil g1 fun j => by cases j <;> rfl
  | _, .io i :: r, _, _, e => by cases e
  | _, .f (.val _) :: r, _, _, e => by cases e
  | _, .f (.lst _) :: r, _, _, e => by cases e
  | _, .f (.dct _) :: r, _, _, e => by cases e
  | _, .f (.src _) :: r, _, _, e => by cases e
  | _, .f (.scr _) :: r, _, _, e => by cases e
  | _, .f (.tab _) :: r, _, _, e => by cases e
  | _, .f .tbs :: r, _, _, e => by cases e
theorem own_nil {s : Sl} {a : Addr} : ¬ Own s (fun _ => []) a := fun ⟨_, _, _, m⟩ => nomatch m
theorem tsOf_len {caps : Nat → Sl → R (List D → R D)} : ∀ {as : List AR} {ts : List T}, tsOf caps s as = .ok ts → ts.length = as.length
  | [], _, e => by cases e; rfl
  | .v d :: r, _, e => by
    obtain ⟨ts, h1, h2⟩ := R.bind_eq_ok.mp e
    cases h2
    rw [List.length_cons, List.length_cons, tsOf_len h1]
  | .f (.clo n f0) :: r, _, e => by
    obtain ⟨gf, h1, h2⟩ := R.bind_eq_ok.mp e
    obtain ⟨ts, h3, h4⟩ := R.bind_eq_ok.mp h2
    cases h4
    rw [List.length_cons, List.length_cons, tsOf_len h3]
  | .io i :: r, _, e => by cases e
  | .f (.val _) :: r, _, e => by cases e
  | .f (.lst _) :: r, _, e => by cases e
  | .f (.dct _) :: r, _, e => by cases e
  | .f (.src _) :: r, _, e => by cases e
  | .f (.scr _) :: r, _, e => by cases e
  | .f (.tab _) :: r, _, e => by cases e
  | .f .tbs :: r, _, e => by cases e
theorem ge_callC {j kk np : Nat} {x : Str} {wd : Wd} {d : Def} {px : Pos} {e : Expr} {es : List Expr} {g : CV} {p : List Bool} {caps : Nat → Sl → R (List D → R D)} (c : Cok w k X) (C : CalG X.prog X.w X.K X.mg X.base j x (spD (WC X.prog X.w X.K X.mg X.base wd kk) np d)) (hwd : wd.K = w.K) (hnew : CellsNew X) (hc : CapOk w X wd kk caps)
    (ha : GR w X (e :: es) g p) (hnp : p.length = np) (hk : j ≤ k) (hg : Gl X x := by rfl)
    (hdb : (x == ("__debug__" : Str)) = false := by decide) (he : starEach (e :: es) X.env = (false, eval e X.env) :: starEach es X.env := by rfl) (hpl : (backTo pos (starEach es X.env)).any (·.1) = false := by rfl) : GE w X (.Call (.Name x px) (e :: es) [] pos) (kCallC d.run g caps) := by
  obtain ⟨f, fd, ps, F, hm, kp, hb⟩ := C.ex
  refine ⟨fun pins sh σ H Q I h => ?_⟩
  obtain ⟨Hf, s, φ, l, s', gd, e0, q⟩ := h
  obtain ⟨⟨as, s1⟩, h1, h2⟩ := R.bind_eq_ok.mp e0
  obtain ⟨ts, h3, h4⟩ := R.bind_eq_ok.mp h2
  obtain ⟨⟨t, os⟩, h5, h6⟩ := R.bind_eq_ok.mp h4
  obtain ⟨dd, h7, h8⟩ := R.bind_eq_ok.mp h6
  cases h8
  have ht : t = .val dd ∧ os = [] := by
    cases t <;> cases os <;> simp [resD] at h7
    exact ⟨by rw [h7], rfl⟩
  obtain ⟨rfl, rfl⟩ := ht
  refine wpAny_Call_Name_kw (ld_glob I hg hm (PySem.W.callWith_K (h₀ := X.base) I.ok.mod.kin kp (thn (ha.run pos pins sh σ H (fun vs H2 => ∃ Hf2 φ2, Good w σ H2 Hf2 s1 φ2 ∧ RAs w σ Hf2 H2 vs as ∧ as.map isIo = p ∧ Stp H Hf (Own s φ) H2 Hf2 (Own s1 φ2)) I ⟨Hf, s, φ, as, s1, gd, h1, fun vs H2 Hf2 φ2 g2 r2 p2 k2 => ⟨Hf2, φ2, g2, r2, p2, k2⟩⟩) fun us s2 ⟨vs, H2, I2, r, Hf2, φ2, g2, r2, p2, k2⟩ => ⟨I2.kIn, ?_⟩) he hpl) hdb)
  have hn : ∀ b, Hid X.env.cells b → H2 b = none := fun b ⟨y, e⟩ => I2.freeC y b e
  have hat : ∀ b, Hid X.env.cells b → ∃ o, s2.heap.get? b = some o := fun b ⟨y, e⟩ => by
    obtain ⟨v, o, ho, _⟩ := I2.cell y b e
    exact ⟨o, ho⟩
  have nf : ∀ b, Hid X.env.cells b → Hf2 b = none := fun b z => g2.hf_none (hn b z)
  have sub1 : Sub Hf2 (fre X.env.cells s2.heap Hf2) := fre_sub nf
  have sub2 : Sub (fre X.env.cells s2.heap Hf2) (fre X.env.cells s2.heap H2) := fun a o q2 => by
    by_cases z : Hid X.env.cells a
    · obtain ⟨ob, ho⟩ := hat a z
      rw [fre_in z ho] at q2 ⊢
      exact q2
    · rw [fre_out z] at q2 ⊢
      exact g2.sub _ _ q2
  have gts := good_ts (wd := wd) (kk := kk) hwd hc I2 g2 sub1 sub2 r2 h3
  have hvl : vs.length = np := by rw [r2.length, ← hnp, ← p2, List.length_map]
  have e1 := I2.env0
  have env : Env0 X.prog X.w X.K X.mg X.base X.A X.stack s2 (fre X.env.cells s2.heap H2) := by
    refine ⟨e1.frames, e1.mod, fun b o q2 => ⟨(e1.bs b o q2).1, ?_⟩, e1.bsz, e1.funs, fun b hb2 => ?_, HOk.fre e1.hok hn, e1.bare⟩
    · rw [fre_out fun z => by rw [(hnew.at I2 b z).1] at q2; cases q2]
      exact (e1.bs b o q2).2
    · rw [fre_out fun z => (hnew.at I2 b z).2 hb2]
      exact e1.frf b hb2
  have want : spD (WC X.prog X.w X.K X.mg X.base wd kk) np d vs (fre X.env.cells s2.heap H2) (fun v H3 => (∀ b, Hid X.env.cells b → ∃ o, H3 b = some (.frz o u0)) → Q v (hid X.env.cells H3)) E0 := by
    refine ⟨fre X.env.cells s2.heap Hf2, ts, _, .val dd, [], hvl, gts, h5, fun v H' Hf' ψ F1 g3 r3 c3 k3 hall => ?_⟩
    have fzH : Frz X.env.cells H' := fun b u z e => by
      obtain ⟨o, q2⟩ := hall b z
      rw [q2] at e
      cases e
      exact ⟨o, rfl⟩
    have fzf := fzH.sub g3.sub
    have out : ∀ {b : Addr} {u : HO}, H2 b = some u → ¬ Hid X.env.cells b := fun {b u} e z => by rw [hn b z] at e; cases e
    have st : Stp H2 Hf2 (fun _ => False) (hid X.env.cells H') (hid X.env.cells Hf') (fun _ => False) := by
      refine ⟨fun a o q2 => ?_, fun a o q2 _ => ?_, fun a z => ?_⟩
      · have z := out (g2.sub _ _ q2)
        rw [hid_out z]
        exact k3.sub a o (sub1 _ _ q2)
      · have z := out q2
        rw [hid_out z]
        exact k3.keep a o (by rw [fre_out z]; exact q2) own_nil
      · rcases z with z | z
        · exact z.elim
        · by_cases y : Hid X.env.cells a
          · rw [hid_in y] at z; exact absurd rfl z
          · rw [hid_out y] at z
            rcases k3.new a (.inr z) with x | x | x
            · exact absurd x own_nil
            · rw [fre_out y] at x; exact .inr (.inl x)
            · rw [fre_out y] at x; exact .inr (.inr x)
    have sb2 : Sub (hid X.env.cells Hf') (hid X.env.cells H') := fun a o q2 => by
      obtain ⟨z, q3⟩ := hid_some q2
      rw [hid_out z]
      exact g3.sub _ _ q3
    obtain ⟨g4, _⟩ := g2.aside st sb2 fun a z => z.elim
    have r4 : Rp w.K (hid X.env.cells Hf') v dd := by cases r3 with | val r => exact (hwd ▸ r).hid fzf
    refine q v _ _ φ2 [] g4 (.d r4) (k2.trans (P1 := Own s1 φ2) (P1' := Own s1 φ2) ⟨st.sub, fun a o q2 _ => st.keep a o q2 id, fun a z => ?_⟩ (fun _ => id) fun x hx => g2.own_free hx)
    rcases z with (z | z) | z
    · exact .inl z
    · cases z
    · exact (st.new a (.inr z)).imp False.elim id
  refine wpAny_call (codeAny_mono (F.run X.A X.stack s2 _ ⟨us, []⟩ us vs _ E0 (c.room.mono hk) c.gd env (by
    have bd := hb s2 us I2.kIn (by rw [List.append_nil, ← r.length]; exact F.len _ _ _ _ want)
    rw [List.append_nil] at bd
    exact bd) r want) fun res s' hq => ?_)
  cases res with
  | error ee => exact hq.elim
  | ok fl =>
    cases fl with
    | ret u =>
      obtain ⟨v, H3, os, bare, un, hok3, rv, q3⟩ := hq
      have held : ∀ b, Hid X.env.cells b → ∃ o, s2.heap.get? b = some o ∧ H3 b = some (.frz o u0) ∧ s'.heap.get? b = some o := fun b z => by
        obtain ⟨o, ho⟩ := hat b z
        have h3 := un.frzs b o u0 (fre_in z ho)
        obtain ⟨h4, _⟩ := hok3 b _ h3
        exact ⟨o, ho, h3, h4⟩
      have fz : Frz X.env.cells H3 := fun b u z e => by
        obtain ⟨o, _, h3, _⟩ := held b z
        rw [h3] at e
        cases e
        exact ⟨o, rfl⟩
      have out : ∀ {b : Addr} {u : HO}, H2 b = some u → ¬ Hid X.env.cells b := fun {b u} e z => by rw [hn b z] at e; cases e
      refine I2.after ⟨v, hid X.env.cells H3, os, bare, ⟨fun b o e n hfs hx => ?_, fun b o e n hfs hx => ?_, fun b o e n hx => ?_, un.there, fun b xs e => ?_, fun b o u e => ?_, fun b qs e => ?_⟩, HOk.hid hok3 fz, rv, q3 fun b z => ?_⟩
      · by_cases z : Hid X.env.cells b
        · obtain ⟨o', h1, _, h3⟩ := held b z
          rw [e] at h1
          cases h1
          exact h3
        · exact un.keep b o e (by rw [fre_out z]; exact n) hfs hx
      · by_cases z : Hid X.env.cells b
        · obtain ⟨o', h1, _, h3⟩ := held b z
          rw [e] at h1
          cases h1
          exact ⟨o.slots, h3⟩
        · exact un.slot b o e (by rw [fre_out z]; exact n) hfs hx
      · by_cases z : Hid X.env.cells b
        · exact hid_in z
        · rw [hid_out z]
          exact un.free b o e (by rw [fre_out z]; exact n) hx
      · have z := out e
        rw [hid_out z]
        exact un.tups b xs (by rw [fre_out z]; exact e)
      · have z := out e
        rw [hid_out z]
        exact un.frzs b o u (by rw [fre_out z]; exact e)
      · have z := out e
        rw [hid_out z]
        exact un.tbls b qs (by rw [fre_out z]; exact e)
      · obtain ⟨o, _, h3, _⟩ := held b z
        exact ⟨o, h3⟩
    | next => exact False.elim hq
    | brk => exact False.elim hq
    | cont => exact False.elim hq
/-! ### the functions that a frame makes -/
abbrev Kinds := List (Str × (Addr → CF))
def WM (wd : Wd) (ks : Kinds) : Wd :=
  ⟨wd.K, fun Hf v n _ => ∃ q mk f c', ks[n]? = some (q, mk) ∧ v = .ref f ∧ Hf f = some (CfO f (mk c')) ∧ Hf c' = some (CodeO c' q),
    fun sb h => by
      obtain ⟨q, mk, f, c', h1, h2, h3, h4⟩ := h
      exact ⟨q, mk, f, c', h1, h2, sb _ _ h3, sb _ _ h4⟩, wd.tb⟩
theorem wm_holds {wd : Wd} {ks : Kinds} {n : Nat} {q : Str} {mk : Addr → CF} (h : ks[n]? = some (q, mk)) : Holds (WM wd ks) n q mk := fun Hf f c' h1 h2 => ⟨q, mk, f, c', h, rfl, h1, h2⟩
def capV : List Nat → Sl → R (List D)
  | [], _ => .ok []
  | j :: js, s => match s[j]? with
    | some (some (.val c)) => (capV js s).bind fun cs => .ok (c :: cs)
    | _ => .no
theorem capV_ok (g : Good w σ H Hf s φ) : ∀ {js : List Nat} {cs : List D}, capV js s = .ok cs → ∃ ws : List V, js.map (slotAt σ) = ws.map some ∧ RpA w.K Hf ws cs ∧ ws.length = js.length
  | [], _, e => by cases e; exact ⟨[], rfl, .nil, rfl⟩
  | j :: js, _, e => by
    unfold capV at e
    split at e
    · rename_i c hj
      obtain ⟨cs, h1, h2⟩ := R.bind_eq_ok.mp e
      cases h2
      obtain ⟨ws, e1, e2, e3⟩ := capV_ok g h1
      obtain ⟨v, hv, r⟩ := g.here j _ hj
      have rv : Rp w.K Hf v c := by
        generalize φ j = F at r
        cases r with | val r => exact r
      exact ⟨v :: ws, by rw [List.map_cons, slotAt_of hv, e1]; rfl, .cons rv e2, by rw [List.length_cons, List.length_cons, e3]⟩
    · cases e
/-- so many parameters; where what is captured stands; what the body does -/
def capG (np : Nat) (js : List Nat) (d : Def) : Sl → R (List D → R D) := fun s => (capV js s).bind fun cs => .ok (cloF np d cs)
theorem clo_mk {wd : Wd} {kk np : Nat} {js : List Nat} {d : Def} {fr : List Str} {scope : Scope} {q : Str} {mk : Addr → CF} {pins : List (Addr × Obj)} {sh : Shared} {f c' : Addr} {g : List D → R D} (I : Inv X pins σ H sh) (gd : Good w σ H Hf s φ) (hwd : wd.K = w.K) (h1 : Hf f = some (CfO f (mk c'))) (h2 : Hf c' = some (CodeO c' q)) (he : capG np js d s = .ok g)
    (hcl : (mk c').cl = cloFrom X.env.cells scope.names []) (hq : (mk c').qual = q) (hcc : (mk c').c = c') (hfree : ∀ y ∈ scope.names, y.2 = .free → X.env.scope.names.lookup y.1 = some .cell ∨ X.env.scope.names.lookup y.1 = some .free) (hfr : ∀ y ∈ fr, (y, NameKind.free) ∈ scope.names) (hjs : js.map (fun j => X.N[j]?) = fr.map some) (hio : d.io = [])
    (hp : CfP X.prog X.w X.K X.mg X.base wd kk np (mk c') fr d) : CloH X.prog X.w X.K X.mg X.base wd kk (fre X.env.cells sh.heap Hf) (.ref f) g := by
  obtain ⟨cs, e1, e2⟩ := R.bind_eq_ok.mp he
  cases e2
  obtain ⟨ws, e3, e4, e5⟩ := capV_ok gd e1
  have caps := Caps.made I.ok hfree hfr hjs
  have C := cells_of I caps
  rw [e3] at C
  have nf : ∀ b, Hid X.env.cells b → Hf b = none := fun b ⟨y, e⟩ => gd.hf_none (I.freeC y b e)
  have sb : Sub Hf (fre X.env.cells sh.heap Hf) := fre_sub nf
  have caught : Caught (fre X.env.cells sh.heap Hf) (cloFrom X.env.cells scope.names []) fr ws := by
    refine ⟨by have := C.len; rwa [List.length_map] at this, fun y a e => ?_, C.inj, fun i y e => ?_⟩
    · obtain ⟨_, v, o, ho, dt⟩ := C.all y a e
      exact ⟨o, v, fre_in ⟨y, caps.sub y a e⟩ ho, dt⟩
    · obtain ⟨a, ha, hv⟩ := C.has i y e
      refine ⟨a, ha, fun v ev => ?_⟩
      obtain ⟨u, ru, o, ho, dt⟩ := hv v (by rw [List.getElem?_map, ev]; rfl)
      exact ⟨o, u, fre_in ⟨y, caps.sub y a ha⟩ ho, dt, ru⟩
  rw [← hcl] at caught
  exact ⟨f, mk c', np, fr, d, ws, cs, rfl, sb _ _ h1, by rw [hcc, hq]; exact sb _ _ h2, caught, (hwd ▸ e4).mono sb, hio, rfl, hp⟩
/-! ### a def whose frame makes functions: none comes in, none goes out -/
def noClo : Option T → Bool
  | some (.clo _ _) => false
  | _ => true
def noCloF : Fl → Bool
  | .rt t => noClo (some t)
  | _ => true
def clrC : Option T → Option T
  | some (.clo _ _) => none
  | o => o
/-- what is made in the frame stays there -/
def sGuard (b : SV) : SV := fun s => if s.all noClo then (b s).bind fun r => if noCloF r.1 then .ok (r.1, r.2.map clrC) else .no else .no
theorem OR.change {w' : Wd} {v : V} {t : T} {F : List Addr} (hK : w'.K = w.K) (ht : w'.tb = w.tb) (h : noClo (some t) = true) (r : OR w Hf H v t F) : OR w' Hf H v t F := by
  cases r with
  | val r => exact .val (hK ▸ r)
  | lst h' r => exact .lst h' (hK ▸ r)
  | dct h' r => exact .dct h' (hK ▸ r)
  | src h1 h2 => exact .src h1 h2
  | clo c => cases h
  | scr c => exact .scr (hK ▸ c)
  | tab h1 h2 h3 h4 r1 r2 r3 nd => exact .tab h1 h2 h3 h4 (hK ▸ r1) (hK ▸ r2) (hK ▸ r3) nd
  | tbs e h' tr cs => exact .tbs (ht.trans e) h' tr cs
theorem Good.change {w' : Wd} (hK : w'.K = w.K) (ht : w'.tb = w.tb) (h : s.all noClo = true) (g : Good w σ H Hf s φ) : Good w' σ H Hf s φ :=
  ⟨g.sub, g.len, fun i t e => by
    obtain ⟨v, e1, r⟩ := g.here i t e
    exact ⟨v, e1, r.change hK ht (List.all_eq_true.mp h _ (List.mem_of_getElem? e))⟩, g.fr, g.dj⟩
theorem clr_some {o : Option T} {t : T} (h : clrC o = some t) : o = some t ∧ noClo (some t) = true := by
  cases o with
  | none => cases h
  | some u =>
    cases u with
    | clo n f => cases h
    | _ =>
      have e : _ = some t := h
      cases e
      exact ⟨rfl, rfl⟩
theorem Good.drop {w' : Wd} (hK : w'.K = w.K) (ht : w'.tb = w.tb) (g : Good w σ H Hf s φ) : Good w' σ H Hf (s.map clrC) φ ∧ ∀ a, Own (s.map clrC) φ a ↔ Own s φ a := by
  have back : ∀ {i : Nat} {t : T}, (s.map clrC)[i]? = some (some t) → s[i]? = some (some t) ∧ noClo (some t) = true := fun {i t} e => by
    rw [List.getElem?_map] at e
    obtain ⟨o, h1, h2⟩ := Option.map_eq_some_iff.mp e
    obtain ⟨h3, h4⟩ := clr_some h2
    exact ⟨by rw [h1, h3], h4⟩
  refine ⟨⟨g.sub, by rw [List.length_map]; exact g.len, fun i t e => ?_, fun i t a e m => g.fr i t a (back e).1 m, fun i j t u a e1 e2 m1 m2 => g.dj i j t u a (back e1).1 (back e2).1 m1 m2⟩, fun a => ⟨fun ⟨i, t, e, m⟩ => ⟨i, t, (back e).1, m⟩, fun ⟨i, t, e, m⟩ => ?_⟩⟩
  · obtain ⟨h1, h2⟩ := back e
    obtain ⟨v, e1, r⟩ := g.here i t h1
    exact ⟨v, e1, r.change hK ht h2⟩
  · refine ⟨i, t, ?_, m⟩
    rw [List.getElem?_map, e]
    cases t with
    | clo n f =>
      obtain ⟨v, _, r⟩ := g.here i _ e
      generalize φ i = F at r m
      cases r
      cases m
    | _ => rfl
theorem tS_change {w' : Wd} {b : SV} {D : Ends} (hK : w'.K = w.K) (ht : w'.tb = w.tb) (h : tS w io (sGuard b) D σ H) : tS w' io b D σ H := by
  obtain ⟨Hf, s, φ, fl, s', g, e, q⟩ := h
  unfold sGuard at e
  split at e
  · rename_i hs
    obtain ⟨⟨fl1, s1⟩, h1, h2⟩ := R.bind_eq_ok.mp e
    simp only at h2
    split at h2
    · rename_i hr
      cases h2
      refine ⟨Hf, s, φ, fl, s1, g.change hK ht hs, h1, ?_⟩
      have conv : ∀ {σ' : L2.St} {H' Hf' : Hp} {φ' : Nat → List Addr}, Good w' σ' H' Hf' s1 φ' → Good w σ' H' Hf' (s1.map clrC) φ' ∧ ∀ a, Own (s1.map clrC) φ' a ↔ Own s1 φ' a := fun g1 => g1.drop hK.symm ht.symm
      have same : ∀ {H' Hf' : Hp} {φ' : Nat → List Addr}, (∀ a, Own (s1.map clrC) φ' a ↔ Own s1 φ' a) → Stp H Hf (Own s φ) H' Hf' (Own s1 φ') → Stp H Hf (Own s φ) H' Hf' (Own (s1.map clrC) φ') := fun o k1 => ⟨k1.sub, k1.keep, fun a z => k1.new a (z.imp (o a).mp id)⟩
      cases fl with
      | nx => exact fun σ' H' Hf' φ' g1 k1 kp => let ⟨g2, o⟩ := conv g1; q σ' H' Hf' φ' g2 (same o k1) kp
      | bk => exact fun σ' H' Hf' φ' g1 k1 kp => let ⟨g2, o⟩ := conv g1; q σ' H' Hf' φ' g2 (same o k1) kp
      | ct => exact fun σ' H' Hf' φ' g1 k1 kp => let ⟨g2, o⟩ := conv g1; q σ' H' Hf' φ' g2 (same o k1) kp
      | rt t =>
        intro v σ' H' Hf' φ' F g1 r1 c1 k1 kp
        obtain ⟨g2, o⟩ := conv g1
        exact q v σ' H' Hf' φ' F g2 (r1.change hK.symm ht.symm hr) (fun a ha => ⟨(c1 a ha).1, fun z => (c1 a ha).2 ((o a).mp z)⟩) ⟨k1.sub, k1.keep, fun a z => k1.new a (z.imp (fun z => z.imp (o a).mp id) id)⟩ kp
    · cases h2
  · cases e
/-- its statements, told of another world of functions -/
theorem gss_guard {w' : Wd} {sts : List Stmt} {b : SV} (hK : w'.K = w.K) (ht : w'.tb = w.tb) (h : GSs w' io X sts b) : GSs w io X sts (sGuard b) := pss_imp h fun D σ H q => tS_change hK ht q
end
end KV

set_option Elab.async false
set_option linter.all false
set_option maxRecDepth 100000
set_option maxHeartbeats 4000000
/-! KWE: the def whose frame makes functions; a law under which such a def stands. -/
namespace KV
open PySem L2
open PySem.Spec PyProof.Rows NdefX LamX
/-- no functions; one table -/
def WT (K : PySem.W.Frag) (P : Addr) (nm : Nat → Nat → Str) : Wd := ⟨K, fun _ _ _ _ => False, fun _ h => h, some (P, nm)⟩
section
variable {w : Wd} {k : Nat} {X : Cx} {pos : Pos} {σ : L2.St} {H Hf : Hp} {s s' : Sl} {φ : Nat → List Addr} {Q : VK} {io : List Nat}
theorem spT_tS {N ps : List Str} {d : Def} {vs : List V} {E : XK} (hn : d.n = N.length) (hnd : d.io.Nodup) (hio : ∀ i ∈ d.io, i < ps.length + 1) (hlN : ps.length + 1 ≤ N.length) (h : spT w ps.length d vs H Q E) :
    ∃ v0, tS w d.io d.body { nx := fun _ H' => Q .non H', rt := Q } ((start N vs).set ps.length (some v0)) H := by
  obtain ⟨hl0, v0, Hf, ts, φ, t, os, hl, g, hr, q⟩ := h
  refine ⟨v0, ?_⟩
  rw [← hl0, start_ghost (by rw [hl0]; exact hlN)]
  generalize hvs : vs ++ [v0] = vs1 at *
  have hl1 : vs1.length = ps.length + 1 := hl
  have hlt : ts.length = vs1.length := by have := g.len; simpa using this
  obtain ⟨⟨fl, s1⟩, h1, h2⟩ := R.bind_eq_ok.mp hr
  obtain ⟨t', h3, h4⟩ := R.bind_eq_ok.mp h2
  obtain ⟨os', h5, h6⟩ := R.bind_eq_ok.mp h4
  cases h6
  have en : N.length - (vs.length + 1) = N.length - vs1.length := by rw [hl1, hl0]
  rw [en]
  obtain ⟨g0, o0⟩ := g.pad (n := N.length - vs1.length)
  rw [hn, hlt] at h1
  refine ⟨Hf, _, φ, fl, s1, g0, h1, ?_⟩
  have fin : ∀ v σ' H' Hf' φ' F1, Good w σ' H' Hf' s1 φ' → OR w Hf' H' v t F1 → (∀ a ∈ F1, Hf' a = none ∧ ¬ Own s1 φ' a) → Stp H Hf (Own (ts.map some ++ List.replicate (N.length - vs1.length) none) φ) H' Hf' (fun a => Own s1 φ' a ∨ a ∈ F1) → Kp d.io (vs1.map some ++ List.replicate (N.length - vs1.length) none) σ' → Q v H' := by
    intro v σ' H' Hf' φ' F1 g1 r1 c1 k1 kp
    obtain ⟨ψ, g2, o2⟩ := outs_ok (vs := vs1) g1 h5 hnd fun i hi => by
      have hlt2 : i < vs1.length := by rw [hl1]; exact hio i hi
      refine ⟨vs1[i], List.getElem?_eq_getElem hlt2, ?_⟩
      rw [kp i hi]
      rw [List.getElem?_append_left (by simpa using hlt2), List.getElem?_map, List.getElem?_eq_getElem hlt2]
      rfl
    have up : ∀ a, Own (os.map some) ψ a → Own s1 φ' a := fun a z => by
      obtain ⟨i, _, t, e, m⟩ := o2 a z
      exact ⟨i, t, e, m⟩
    refine q v H' Hf' ψ F1 g2 r1 (fun a ha => ⟨(c1 a ha).1, fun z => (c1 a ha).2 (up a z)⟩) ⟨k1.sub, fun a o e n => k1.keep a o e fun z => n ((o0 a).mp z), fun a z => ?_⟩
    have := k1.new a (z.imp (fun z => z.imp (up a) id) id)
    rcases this with z | z | z
    · exact .inl ((o0 a).mp z)
    · exact .inr (.inl z)
    · exact .inr (.inr z)
  cases fl with
  | nx =>
    cases h3
    exact fun σ' H' Hf' φ' g1 k1 kp => fin .non σ' H' Hf' φ' [] g1 (.val .non) (fun a h => nomatch h) (k1.weak fun a z => z.elim id fun z => nomatch z) kp
  | rt t2 =>
    cases h3
    exact fun v σ' H' Hf' φ' F1 g1 r1 c1 k1 kp => fin v σ' H' Hf' φ' F1 g1 r1 c1 k1 kp
  | bk => cases h3
  | ct => cases h3
/-- a def that is handed the tables, its own code object known -/
theorem fnTC_of {P : Program} {w0 : World} {K : PySem.W.Frag} {mg : Str → Option Value} {base : Heap} {f cc : Addr} {x y : Str} {st : Stmt} {fd : FuncData} {N ps : List Str} {d : Def} (F : L2.Fun K x x st f fd) (hcc : fd.code = .ref cc) (S : FnScope N ps (defScope st)) (hn : d.n = N.length) (hnd : d.io.Nodup) (hio : ∀ i ∈ d.io, i < ps.length + 1)
    (hy : N[ps.length]? = some y) (hv : (defScope st).names.lookup y = none)
    (hb : ∀ (A : Around) (outer : List Env) (s : Shared) (H : Hp) (E : XK), Room k (A.deeper (envOfC x (defScope st) s.heap.objs.size f (.ref cc))) → A.guards = some [] → GSs w d.io (bodyCx P w0 K mg base N x st f (.ref cc) A outer s H E) (defBody st) d.body) : FnG P w0 K mg base (k + 1) f fd ps (spT w ps.length d) := by
  have hlN : ps.length + 1 ≤ N.length := (List.getElem?_eq_some_iff.mp hy).1
  obtain ⟨oc, od0, kV, dc, pm, an, cdv, ct, osl, rfl, known, codeK⟩ := F.ex
  obtain rfl : cdv = Value.ref cc := hcc
  refine ⟨fun vs H Q E h => h.1, fun A outer s H args us vs Q E room gd env0 bound vals want => ?_⟩
  have nArgs : vs.length = ps.length := want.1
  have kin : K.In s.heap := env0.mod.kin.keeps fun b o e => (env0.bs b o e).1
  have noLim : s.heap.NoLimit := env0.mod.nolimit.keeps fun b o e => (env0.bs b o e).1
  have kinds : ∀ y ∈ ps.zip us, (defScope st).names.lookup y.1 = some .local ∨ ((defScope st).names.lookup y.1 = some .cell ∧ ((cellsFrom (s.heap.objs.size + 1) (defScope st).names []).lookup y.1).isSome = true) := fun y hy => by
    rcases S.par y.1 (List.of_mem_zip (show (y.1, y.2) ∈ ps.zip us from hy)).1 with z | z
    · exact .inl z
    · exact .inr ⟨z, PySem.W.cellsFrom_some _ _ _ (.inl z)⟩
  refine codeAny_call_function room.depth (kin _ _ known) rfl S.co S.gen rfl (PySem.W.codeRec_of kin codeK) (bound _ _ _ _ ?_)
  refine wpAny_newFunctionEnv_cells S.kind kinds fun env ee s1 inC => ?_
  subst ee
  refine ⟨noLim.keeps inC.toInCall.keep, codeAny_func ?_⟩
  have hvis : ¬ Vis (bodyCx P w0 K mg base N x st f (.ref cc) A outer s H E).env.scope y := by
    have e : (bodyCx P w0 K mg base N x st f (.ref cc) A outer s H E).env.scope = defScope st := rfl
    rw [e]
    unfold Vis
    rw [hv]
    rintro (z | z | z) <;> cases z
  obtain ⟨v0, tq⟩ := spT_tS hn hnd hio hlN want
  have tb := pss_ghost (v := v0) (i := ps.length) (y := y) (hb A outer s H E (room.deeper _) gd) hy hvis
  have inv0 : Inv (cxOf CX0 P w0 K mg base N x (defScope st) f (.ref cc) A outer s H E) [] (start N vs) H s1 := inv_start S room.hd env0 nArgs vals inC
  refine wpAny_mono (tb.nox.run [] s1 (start N vs) H _ inv0 tq) (fun fl s' hs => ?_) fun e s' hs => hs
  cases fl with
  | ret u =>
    obtain ⟨v, σ', H', K2, rel, q⟩ := hs
    exact ⟨v, H', K2.os, K2.bare, K2.base, K2.hok, rel, q⟩
  | next =>
    obtain ⟨σ', H', K2, q⟩ := hs
    exact ⟨V.non, H', K2.os, K2.bare, K2.base, K2.hok, rfl, q⟩
  | brk => exact hs.elim fun _ h => h.elim fun _ h => False.elim h.2
  | cont => exact hs.elim fun _ h => h.elim fun _ h => False.elim h.2
end
/-! ### a law -/
theorem law_callGT {P : Program} {w0 : World} {K : PySem.W.Frag} {mg mb : Str → Option Value} {k : Nat} {fa a cc tp : Addr} {fd : FuncData} {x : Str} {sp : Sp} {st : Shared} {vs : List Value} {ns : List Int}
    (inK : K.In st.heap) (nsM : st.heap.Ns mainGlobals mg) (nsB : st.heap.Ns builtinsNs mb) (boot : ∀ y : Str, y ≠ "__name__" → mb y = bootBuiltins y) (noLim : st.heap.NoLimit) (noGen : st.gens = #[])
    (atT : st.heap.get? tp = some { cls := .none, data := .fields #[] }) (noT : K.lookup tp = none) (head : PySem.W.CodeHd st.heap cc tp)
    (mods : ∃ (bm : Addr) (ob : Obj), mg "__builtins__" = some (.ref bm) ∧ bm ≠ builtinsNs ∧ st.heap.get? bm = some ob ∧ ob.cls = .type "module" ∧ ob.dict = some builtinsNs ∧ ob.data = .plain)
    (atA : st.heap.get? a = some { cls := .type "list", data := .seq vs.toArray }) (areInts : IntsAre vs ns) (short : ns.length ≤ sizeLine) (room : Room k callerA)
    (F : ∀ base : Heap, K.In base → base.Ns mainGlobals mg → TabB base mg cc tp → FnG P w0 K mg base k fa fd [x] sp) (binds : ∀ (s : Shared) (u : Value), BindsTo s fd ⟨[u], []⟩ [(x, u)])
    (want : ∀ H : Hp, H tp = some (.tbl #[]) → SqL K H a (ns.map V.int) → sp [.ref a] H (fun v _ => v = .bl true) fun _ _ _ => False) :
    codeAny (model P w0) callerA (.call (.ref fa) ⟨[.ref a], []⟩) (fun r s' => r = .ok (.ret (.bool true)) ∧ OldK st.heap s'.heap ∧ s'.os = st.os ∧ AllBare s'.gens) st := by
  have rel := vals_ints areInts
  have lenV := areInts.length
  have aT : a ≠ tp := fun z => by
    rw [z, atT] at atA
    cases (congrArg Obj.data (Option.some.inj atA) : Data.fields #[] = Data.seq vs.toArray _)
  have main : ∀ H : Hp, (∀ b u, H b = some u → (b = a ∧ K.lookup a = none ∧ ∃ o ys, u = .frz o (.lst ys)) ∨ (b = tp ∧ u = .tbl #[])) → H tp = some (.tbl #[]) → SqL K H a (ns.map V.int) → HOk P w0 H st.heap →
      codeAny (model P w0) callerA (.call (.ref fa) ⟨[.ref a], []⟩) (fun r s' => r = .ok (.ret (.bool true)) ∧ OldK st.heap s'.heap ∧ s'.os = st.os ∧ AllBare s'.gens) st := by
    intro H only atH sq hok
    have keepB : ∀ {b : Addr} {o : Obj}, st.heap.get? b = some o → H b = none → (hidT st.heap H).get? b = some o := fun e n => hidT_get e n
    have freeO : ∀ {b : Addr} {o : Obj}, st.heap.get? b = some o → (∀ xs n, o.data ≠ .seq xs n) → o.data ≠ .fields #[] → H b = none := fun {b o} e d1 d2 => by
      cases q : H b with
      | none => rfl
      | some u =>
        rcases only b u q with ⟨rfl, _⟩ | ⟨rfl, _⟩
        · rw [atA] at e
          cases e
          exact absurd rfl (d1 vs.toArray _)
        · rw [atT] at e
          cases e
          exact absurd rfl d2
    have freeD : ∀ {b : Addr} {o : Obj} {es : Array DictEntry} {ep : Nat}, st.heap.get? b = some o → o.data = .dict es ep → H b = none := fun e d => freeO e (fun xs n z => nomatch (d.symm.trans z)) fun z => nomatch (d.symm.trans z)
    have nsH : ∀ {b : Addr} {m : Str → Option Value}, st.heap.Ns b m → (hidT st.heap H).Ns b m := fun ⟨o, es, ep, e, d, r⟩ => ⟨o, es, ep, keepB e (freeD e d), d, r⟩
    have inH : K.In (hidT st.heap H) := fun b o e => keepB (inK b o e) (by
      cases q : H b with
      | none => rfl
      | some u =>
        rcases only b u q with ⟨rfl, z, _⟩ | ⟨rfl, _⟩
        · rw [z] at e; cases e
        · rw [noT] at e; cases e)
    have modH : Mod K mg (hidT st.heap H) := ⟨inH, nsH nsM, ⟨mb, nsH nsB, boot⟩, let ⟨mc, h1, h2⟩ := noLim; ⟨mc, nsH h1, h2⟩⟩
    have env0 : Env0 P w0 K mg (hidT st.heap H) callerA [] st H := ⟨rfl, modH, fun b o e => of_hidT e, Nat.le_of_eq (hidT_size _ _), trivial, fun b hb => (nomatch (show b ∈ ([] : List Addr) from hb)), hok, .of_eq noGen⟩
    have tabB : TabB (hidT st.heap H) mg cc tp := by
      constructor
      · obtain ⟨o, us, file, tf, flags, tg, inF, text, tt, e1, r1, r2, r3, rest⟩ := head
        refine ⟨o, us, file, tf, flags, tg, inF, text, tt, keepB e1 (freeO e1 (fun xs n z => ?_) fun z => ?_), r1, r2, r3, rest⟩
        · rw [r2] at z; cases z
        · rw [r2] at z; cases z; simp at r3
      · obtain ⟨bm, ob, b1, b2, b3, b4, b5, b6⟩ := mods
        refine ⟨bm, ob, b1, b2, fun z => ?_, fun z => ?_, keepB b3 (freeO b3 (fun xs n z => ?_) fun z => ?_), b4, b5, b6⟩
        · obtain ⟨o, es, ep, e, d, _⟩ := nsM
          rw [z, e] at b3
          cases b3
          rw [d] at b6
          cases b6
        · rw [z, atT] at b3
          cases b3
          cases b6
        · rw [b6] at z; cases z
        · rw [b6] at z; cases z
      · intro z
        obtain ⟨o, es, ep, e, d, _⟩ := nsM
        rw [z, atT] at e
        cases e
        cases d
    refine codeAny_mono ((F _ inH (nsH nsM) tabB).run callerA [] st H ⟨[.ref a], []⟩ [.ref a] [.ref a] _ _ room rfl env0 (binds st (.ref a)) (.cons rfl .nil) (want H atH sq)) fun r s' h => ?_
    cases r with
    | error ee => exact h.elim
    | ok fl =>
      cases fl with
      | next => exact False.elim h
      | brk => exact False.elim h
      | cont => exact False.elim h
      | ret u =>
        obtain ⟨v, H', os, bare, un, hok', rv, q⟩ := h
        obtain rfl : v = .bl true := q
        obtain rfl : u = Value.bool true := rv
        have same : ∀ b o, b ≠ tp → st.heap.get? b = some o → s'.heap.get? b = some o := fun b o nb e => by
          cases q : H b with
          | none => exact un.keep b o e q (fun z => nomatch (show b ∈ ([] : List Addr) from z)) (by simp)
          | some u =>
            rcases only b u q with ⟨rfl, _, ob, ys, rfl⟩ | ⟨z, _⟩
            · obtain ⟨e1, _⟩ := hok _ _ q
              obtain ⟨e2, _⟩ := hok' _ _ (un.frzs _ ob _ q)
              rw [e] at e1
              cases e1
              exact e2
            · exact absurd z nb
        obtain ⟨more, nowT⟩ := un.tbls tp #[] atH
        have getT := hok' tp _ nowT
        refine ⟨rfl, ⟨fun b o e => ?_, fun b o e => ?_⟩, os, bare⟩
        · by_cases hb : b = tp
          · subst hb
            rw [atT] at e
            cases e
            exact .inr (.inl ⟨(head.tab atT).isCodeTable, rfl, #[], _, rfl, getT⟩)
          · exact .inl (same b o hb e)
        · by_cases hb : b = tp
          · subst hb
            exact ⟨_, getT⟩
          · exact ⟨o, same b o hb e⟩
  cases hk : K.lookup a with
  | some o =>
    have e := inK a o hk
    rw [atA] at e
    cases e
    have one : ∀ b u, (if b = tp then some (HO.tbl #[]) else none) = some u → b = tp ∧ u = .tbl #[] := fun b u z => by
      by_cases hb : b = tp
      · rw [if_pos hb] at z; cases z; exact ⟨hb, rfl⟩
      · rw [if_neg hb] at z; cases z
    refine main (fun b => if b = tp then some (.tbl #[]) else none) (fun b u z => .inr (one b u z)) (if_pos rfl) (.inr ⟨_, vs.toArray, _, hk, rfl, rfl, rfl, by rw [List.size_toArray, lenV]; exact short, by simpa using rel⟩) fun b u z => ?_
    obtain ⟨rfl, rfl⟩ := one b u z
    exact atT
  | none =>
    have two : ∀ b u, (if b = tp then some (HO.tbl #[]) else if b = a then some (HO.frz { cls := .type "list", data := .seq vs.toArray } (.lst (ns.map V.int))) else none) = some u → (b = tp ∧ u = .tbl #[]) ∨ (b = a ∧ u = .frz { cls := .type "list", data := .seq vs.toArray } (.lst (ns.map V.int))) := fun b u z => by
      by_cases hb : b = tp
      · rw [if_pos hb] at z; cases z; exact .inl ⟨hb, rfl⟩
      · rw [if_neg hb] at z
        by_cases hc : b = a
        · rw [if_pos hc] at z; cases z; exact .inr ⟨hc, rfl⟩
        · rw [if_neg hc] at z; cases z
    refine main (fun b => if b = tp then some (.tbl #[]) else if b = a then some (.frz { cls := .type "list", data := .seq vs.toArray } (.lst (ns.map V.int))) else none) (fun b u z => ?_) (if_pos rfl) (.inl (.inr ⟨_, (if_neg aT).trans (if_pos rfl)⟩)) fun b u z => ?_
    · rcases two b u z with ⟨rfl, rfl⟩ | ⟨rfl, rfl⟩
      · exact .inr ⟨rfl, rfl⟩
      · exact .inl ⟨rfl, hk, _, _, rfl⟩
    · rcases two b u z with ⟨rfl, rfl⟩ | ⟨rfl, rfl⟩
      · exact atT
      · exact ⟨atA, by rw [List.length_map]; exact short, vs, _, rel, atA⟩
theorem walkGT {l : PySem.W.OpenLaw} {k : Nat} {q : Program} {loose : List Str} {XP : (Str → Option Value) → Heap → Prop} {YP : World → Heap → Prop} {d : DefRec} {K : Params → PySem.W.Frag} {x : Str} {dl : Def} {cc tp : Addr} {nm : Nat → Nat → Str}
    (hn : l.most = some 63) (hdf : d.params.defaults = []) (room : Room k callerA) (hY : ∀ (w : World) (h : Heap), YP w h → (K w.params).In h ∧ h.get? tp = some { cls := .none, data := .fields #[] }) (noT : ∀ p : Params, (K p).lookup tp = none) (hd : ∀ p : Params, PySem.W.codeHdIn (K p) cc tp = true)
    (F : ∀ (w : World) (mg : Str → Option Value) (fa : Addr) (hp : Heap), (K w.params).In hp → hp.Ns mainGlobals mg → mg d.name = some (.ref fa) →
      ∃ fd : FuncData, (∀ (s : Shared) (u : Value), BindsTo s fd ⟨[u], []⟩ [(x, u)]) ∧ ∀ base : Heap, (K w.params).In base → base.Ns mainGlobals mg → TabB base mg cc tp → FnG l.prog w (K w.params) mg base k fa fd [x] (spT (WT (K w.params) tp nm) 1 dl))
    (plain : ∀ ns : List Int, ns.length ≤ 63 → dl.run [.scr ns, .tbs] = .ok (.val (.bool true), [.tbs])) (hio : dl.io = [1]) : PySem.W.WalkO q loose XP YP l.row.toRowW d [] (fun f vs => PySem.call f vs) := by
  refine Att.attach_call hn hdf fun w s₀ st mg mb fa o pm cd doc a vs ns G Y ho hd0 hcd hmg hobj hints hlen hg => ?_
  obtain ⟨inK, atT⟩ := hY w _ Y
  obtain ⟨fd, hb, hF⟩ := F w mg fa _ inK G.T.g hmg
  refine law_callGT inK G.T.g G.T.b G.T.builtins G.T.nolimit hg atT (noT w.params) (PySem.W.codeHd_of_K inK (hd w.params)) G.T.bmain hobj hints (Nat.le_trans hlen (by decide)) room hF hb fun H tH sq => ?_
  have base : ∀ (i : Nat) (t : T), ([some (T.scr ns), some T.tbs] : Sl)[i]? = some (some t) → (i = 0 ∧ t = .scr ns) ∨ (i = 1 ∧ t = .tbs) := fun i t e => by
    match i, e with
    | 0, e => cases e; exact .inl ⟨rfl, rfl⟩
    | 1, e => cases e; exact .inr ⟨rfl, rfl⟩
    | i + 2, e => simp at e
  have mem1 : ∀ (i : Nat) (b : Addr), b ∈ (if i = 1 then [tp] else []) → i = 1 ∧ b = tp := fun i b m => by
    by_cases z : i = 1
    · rw [if_pos z] at m; exact ⟨z, List.mem_singleton.mp m⟩
    · rw [if_neg z] at m; cases m
  have nA : ∀ {o : HO}, H tp = some o → o = .tbl #[] := fun e => by rw [tH] at e; exact (Option.some.inj e).symm
  -- all that is held but the table is shared
  refine ⟨rfl, .non, fun b => if b = tp then none else H b, [.scr ns, .tbs], fun i => if i = 1 then [tp] else [], .val (.bool true), [.tbs], rfl, ⟨fun b o e => ?_, rfl, fun i t e => ?_, fun i t b e m => ?_, fun i j t u b e1 e2 m1 m2 => ?_⟩, plain ns hlen, fun v H' Hf' ψ F1 g r _ _ => ?_⟩
  · by_cases z : b = tp
    · rw [if_pos z] at e; cases e
    · rw [if_neg z] at e; exact e
  · rcases base i t e with ⟨rfl, rfl⟩ | ⟨rfl, rfl⟩
    · refine ⟨.ref a, rfl, .scr ?_⟩
      rcases sq with (c | ⟨ob, c⟩) | c
      · exact .inl (.inl (by
          show (if a = tp then none else H a) = _
          rw [if_neg (fun z => by rw [z] at c; cases nA c)]
          exact c))
      · exact .inl (.inr ⟨ob, by
          show (if a = tp then none else H a) = _
          rw [if_neg (fun z => by rw [z] at c; cases nA c)]
          exact c⟩)
      · exact .inr c
    · exact ⟨.non, rfl, .tbs rfl tH trivial fun p cv hc => by
        have z : codeAmong p [] = some cv := hc
        simp [codeAmong] at z⟩
  · obtain ⟨_, rfl⟩ := mem1 i b m
    exact if_pos rfl
  · rw [(mem1 i b m1).1, (mem1 j b m2).1]
  · cases r with
    | val r => cases r; rfl
end KV

set_option Elab.async false
set_option linter.all false
set_option maxRecDepth 100000
set_option maxHeartbeats 4000000
/-! KWF: what a made function promises, by its denotation. -/
namespace KV
open PySem L2
open PySem.Spec PyProof.Rows NdefX LamX
section
variable {P : Program} {w0 : World} {K : PySem.W.Frag} {mg : Str → Option Value} {base : Heap} {N ps fr : List Str} {F : CF} {k : Nat} {wd : Wd} {d : Def}
theorem cfP_stmts {body : List Stmt} (hB : F.body = .stmts body) (S : NScope N ps fr F.scope) (hb : ∀ (doc pm ctv : Value) (us : List Value), us.length = ps.length → bindArgs (F.fd doc pm ctv) ⟨us, []⟩ = pure (ps.zip us)) (hn : d.n = N.length) (hio : d.io = [])
    (hbody : ∀ (f : Addr) (A : Around) (outer : List Env) (s : Shared) (H : Hp), Room k (A.deeper (envF F.nf f s.heap.objs.size)) → A.guards = some [] → GSs wd [] (cfCx P w0 K mg base N F f A outer s H E0) body d.body) : CfP P w0 K mg base wd (k + 1) ps.length F fr d := by
  intro f A outer s H us vs ws Q room gd env0 hf hc C r hl want
  refine cf_stmts hB S hb room env0 hf hc C r hl fun room' => ⟨_, hbody f A outer s H room' gd, ?_⟩
  have h := spD_tS hn hio want
  rw [startF_eq]
  exact h
theorem cfP_expr {body : Expr} {g : EV} (hB : F.body = .expr body) (S : NScope N ps fr F.scope) (hb : ∀ (doc pm ctv : Value) (us : List Value), us.length = ps.length → bindArgs (F.fd doc pm ctv) ⟨us, []⟩ = pure (ps.zip us))
    (hbody : ∀ (f : Addr) (A : Around) (outer : List Env) (s : Shared) (H : Hp), Room k (A.deeper (envF F.nf f s.heap.objs.size)) → A.guards = some [] → GE wd (cfCx P w0 K mg base N F f A outer s H E0) body g) : CfP P w0 K mg base wd (k + 1) ps.length F fr ⟨N.length, [], sRetD g⟩ := by
  intro f A outer s H us vs ws Q room gd env0 hf hc C r hl want
  refine cf_expr hB S hb room env0 hf hc C r hl fun room' => ⟨_, hbody f A outer s H room' gd, ?_⟩
  have h := spD_tE want
  rw [startF_eq]
  exact h
end
end KV

set_option Elab.async false
set_option linter.all false
set_option maxRecDepth 100000
set_option maxHeartbeats 4000000
/-! KWG: tuple(range(n)). -/
namespace KV
open PySem L2
open PySem.Spec PyProof.Rows
section
variable {w : Wd} {k : Nat} {X : Cx} {pos : Pos} {Hf H : Hp}
def tTrg (te : L2.St → Hp → (Int → Int → Hp → Prop) → Prop) : TE := fun σ H Q => te σ H fun a b H1 => RgOk a b ∧ ∀ q, H1 q = none → ∀ o : Obj, o.dict = none → Q (.ref q) (upd H1 q (.frz o (.tup (rgV a b))))
theorem pe_trg {e : Expr} {te : L2.St → Hp → (Int → Int → Hp → Prop) → Prop} {p : Pos} (hc : X.calm = true) (hg : Gl X "tuple") (hm : X.mg "tuple" = none) (he : PRg X e te) (na : starEach [e] X.env = (false, eval e X.env) :: starEach [] X.env) : PE X (.Call (.Name "tuple" p) [e] [] pos) (tTrg te) := by
  refine ⟨fun pins sh σ H Q I want => ?_⟩
  refine Call_ (ld_blt I hg hm boot_tuple (PyProof.Rows.callWith_type1 (args_cons (thn (he pins sh σ H _ I want) fun x s1 ⟨r, a, b, t, u, v, H1, ex, isR, I1, ok, q⟩ => args_nil ?_) na) na))
  subst ex
  have ⟨o1, o2, o3, o4, o5⟩ := ok
  refine call_tuple_range (n := (b - a).toNat) (I1.ok.hd hc) isR (small_one o1 o2 o3 o4) (rangeSize_nat a b) o5 fun h' tk acc old its => ?_
  have I2 : Inv X pins σ H1 { s1 with heap := h', toks := tk } := I1.kept old
  have there := Heap.get?_push_size h' (o := ({ cls := .type "tuple", data := .seq acc } : Obj)) rfl
  have len : (rgV a b).length ≤ sizeLine := by rw [rgV_length, sizeLine_eq]; omega
  have isT := IsTup.new h' acc
  have I3 := I2.laid (t' := tk) (a := h'.objs.size) (h' := h'.push { cls := .type "tuple", data := .seq acc }) (o := .frz { cls := .type "tuple", data := .seq acc } (.tup (rgV a b))) (fun c o e => Heap.get?_push_of_some _ e) (Nat.le_refl _)
    ⟨there, len, acc.toList, vals_rg its, by rw [Array.toArray_toList]; exact isT⟩
  exact ⟨.ref h'.objs.size, _, I3, rfl, q _ (I2.hok.fresh (Nat.le_refl _)) _ rfl⟩
def kTR (i : IV) : EV := fun s => (i s).bind fun r => if szOk r.1.length then .ok (.d (.tuple r.1), r.2) else .no
theorem ge_trg1 {a : Expr} {f : EV} {p p2 pos2 : Pos} (hm : X.mg "tuple" = none) (hm2 : X.mg "range" = none) (c : Cok w k X) (ha : GE w X a f) (hg : Gl X "tuple" := by rfl) (hg2 : Gl X "range" := by rfl)
    (hs : starEach [a] X.env = (false, eval a X.env) :: starEach [] X.env := by rfl)
    (hs2 : starEach [.Call (.Name "range" p2) [a] [] pos2] X.env = (false, eval (.Call (.Name "range" p2) [a] [] pos2) X.env) :: starEach [] X.env := by rfl) :
    GE w X (.Call (.Name "tuple" p) [.Call (.Name "range" p2) [a] [] pos2] [] pos) (kTR (iRg1 f)) := by
  refine pe_imp (pe_trg c.calm hg hm (prg_1 hg2 hm2 ha hs) hs2) fun σ H Q => ?_
  rintro ⟨Hf, s, φ, l, s', gd, e, q⟩
  obtain ⟨⟨ds, s1⟩, e1, e2⟩ := R.bind_eq_ok.mp e
  obtain ⟨⟨d, s2⟩, h1, h2⟩ := R.bind_eq_ok.mp e1
  refine tE_D gd h1 fun v H1 Hf1 φ1 g1 r1 k1 => ?_
  simp only at h2 e2
  split at h2
  · split at h2
    · rename_i n hb
      cases h2
      split at e2
      · rename_i hz
        cases e2
        cases r1
        have hz2 := szOk_le hz
        rw [intR_len] at hz2
        refine ⟨_, rfl, rgok_of (by omega) (by omega) (by omega), fun p hp o ho => (q.later k1 (fun _ => id) g1).tup g1 ?_ hp ho⟩
        have e3 : n.toNat = (n - 0).toNat := by rw [Int.sub_zero]
        rw [e3]; exact rp_rgV 0 n
      · cases e2
    · cases h2
  · cases h2
end
end KV

set_option Elab.async false
set_option linter.all false
set_option maxRecDepth 100000
set_option maxHeartbeats 4000000
/-! K11: printed by gen.py: the defs of keptvalues_k11_modes_as_they_are_come_to and their denotations. -/
namespace K11
open PySem L2 KV
open PySem.Spec PyProof.Rows NdefX
def nmF (l _c : Nat) : Str := if l = 56 then "numbered_machine.<locals>.step" else if l = 59 then "numbered_machine.<locals>.is_yes" else "numbered_machine.<locals>.<lambda>"
def retArg : Stmt → Nat → Expr
  | .Return (some (.Call _ args _ _)) _, i => args.getD i (.Constant .none 0 ⟨0, 0, 0, 0⟩)
  | _, _ => .Constant .none 0 ⟨0, 0, 0, 0⟩
def lamA : Expr → Arguments
  | .Lambda a _ _ _ => a
  | _ => ⟨[], [], none, [], [], none, []⟩
def lamB : Expr → Expr
  | .Lambda _ b _ _ => b
  | e => e
def lamS : Expr → Scope
  | .Lambda _ _ s _ => s
  | _ => ⟨.function, [], false, false, []⟩
theorem nocl {K : PySem.W.Frag} {TP : Addr} : NoCl (WT K TP nmF) := fun _ _ _ _ h => h
def top (i : Nat) : Stmt := PySem.Challenge.pw_keptvalues_k11_modes_as_they_are_come_to.main.body.getD i (.Pass ⟨0, 0, 0, 0⟩)
structure MG (mg : Str → Option Value) : Prop where
  n_int : mg "int" = none
  n_abs : mg "abs" = none
  n_len : mg "len" = none
  n_max : mg "max" = none
  n_list : mg "list" = none
  n_range : mg "range" = none
  n_tuple : mg "tuple" = none
  n_enumerate : mg "enumerate" = none
  n_repr : mg "repr" = none
  c_MOST_BOXES : ∃ t, mg "MOST_BOXES" = some (.int 4 t)
  c_MOST_TOLD : ∃ t, mg "MOST_TOLD" = some (.int 8 t)
  c_MOST_MODES : ∃ t, mg "MOST_MODES" = some (.int 60 t)
/-! ### _law_source -/
abbrev s_u_law_source : Stmt := top 15
abbrev N_u_law_source : List Str := ["script", "mixed", "cell"]
abbrev P_u_law_source : List Str := ["script"]
def D_u_law_source : Def := ⟨3, [],
    (sCons (sSet 1 (kC (.int 11)))
    (sCons (sFor (iScr 0) (gN 2) (sCons (sSet 1 (k2 pMod (k1 pInt (k2 pAdd (k2 pAdd (k2 pMul (kX 1) (kC (.int 69069))) (k2 pMul (kX 2) (kC (.int 31)))) (kC (.int 5)))) (kC (.int 2147483629))))
    sNil))
    (sCons (sRet (kSrc (k1 pRev (kComp (iScr 0) (gN 2) none (k1 pAbs (kX 2)) [2])) (kC (.int 1)) (kX 1) (kC (.int 0))))
    sNil)))⟩
/-! ### _law_pick -/
abbrev s_u_law_pick : Stmt := top 16
abbrev N_u_law_pick : List Str := ["source", "many", "left", "mixed"]
abbrev P_u_law_pick : List Str := ["source", "many"]
def D_u_law_pick : Def := ⟨4, [0],
    (sCons (sWhile (bAnd (bVal (k2 pGt (kX 1) (kC (.int 1)))) (bAnd (bVal (k2 pLt (kSGet 0 .left) (kC (.int 2)))) (bVal (k2 pGt (kSLen 0) (kC (.int 0)))))) (sCons (sSPut 0 .left (kSPop 0))
    sNil))
    (sCons (sSet 2 (kSGet 0 .left))
    (sCons (sIf (bOr (bVal (k2 pLt (kX 1) (kC (.int 2)))) (bVal (k2 pGt (kX 2) (kC (.int 1))))) (sCons (sSPut 0 .left (k2 pDiv (kX 2) (k2 pMax2 (kC (.int 1)) (kX 1))))
    (sCons (sRet (k2 pMod (k1 pInt (kX 2)) (k2 pMax2 (kC (.int 1)) (kX 1))))
    sNil)) sNil)
    (sCons (sSPut 0 .turn (k2 pAdd (kSGet 0 .turn) (kC (.int 1))))
    (sCons (sSet 3 (k2 pMod (k1 pInt (k2 pAdd (kSGet 0 .mixed) (k2 pMul (kSGet 0 .turn) (kC (.int 104729))))) (kC (.int 998244353))))
    (sCons (sSet 3 (k2 pMod (k1 pInt (k2 pAdd (k2 pMul (kX 3) (kX 3)) (k2 pMul (kSGet 0 .turn) (kC (.int 17))))) (kC (.int 2147483647))))
    (sCons (sSPut 0 .mixed (kX 3))
    (sCons (sRet (k2 pMod (k1 pInt (k2 pDiv (kX 3) (kC (.int 16)))) (kX 1)))
    sNil))))))))⟩
/-! ### _law_of -/
abbrev s_u_law_of : Stmt := top 17
abbrev N_u_law_of : List Str := ["source", "some"]
abbrev P_u_law_of : List Str := ["source", "some"]
def D_u_law_of : Def := ⟨2, [0],
    (sCons (sRet (k2 pIx (kX 1) (kCall (D_u_law_pick).run (cMv 0 (cV (k1 pLen (kX 1)) cNil)))))
    sNil)⟩
/-! ### _law_words -/
abbrev s_u_law_words : Stmt := top 19
abbrev N_u_law_words : List Str := ["source"]
abbrev P_u_law_words : List Str := ["source"]
def D_u_law_words : Def := ⟨1, [0],
    (sCons (sRet (kCall (D_u_law_of).run (cMv 0 (cV (kLst (aCons (kTup aNil) (aCons (kTup aNil) (aCons (kTup (aCons (kC (.str "go")) aNil)) (aCons (kTup (aCons (kC (.str "go")) (aCons (kC (.str "stop")) aNil))) aNil))))) cNil))))
    sNil)⟩
/-! ### _law_mixed -/
abbrev s_u_law_mixed : Stmt := top 18
abbrev N_u_law_mixed : List Str := ["source", "things", "rest", "lap"]
abbrev P_u_law_mixed : List Str := ["source", "things"]
def D_u_law_mixed : Def := ⟨4, [0],
    (sCons (sSet 2 (k1 pList (kX 1)))
    (sCons (sRet (kComp (iRg1 (k1 pLen (kX 2))) (gN 3) none (kPopJ 2 (kCall (D_u_law_pick).run (cMv 0 (cV (k1 pLen (kX 2)) cNil)))) [3]))
    sNil))⟩
/-! ### _law_machine -/
abbrev s_u_law_machine : Stmt := top 20
abbrev N_u_law_machine : List Str := ["source", "words", "most", "boxes", "steps", "c", "b", "yes", "line", "sign", "many", "fit", "late", "fills", "answer", "mode", "k"]
abbrev P_u_law_machine : List Str := ["source", "words", "most"]
def D_u_law_machine : Def := ⟨17, [0],
    (sCons (sSet 3 (k2 pAdd (kTup (aCons (kC (.int 0)) aNil)) (k1 pTuple (kComp (iRg1 (kCall (D_u_law_pick).run (cMv 0 (cV (kX 2) cNil)))) (gN 16) none (kCall (D_u_law_of).run (cMv 0 (cV (kLst (aCons (kC (.int 0)) (aCons (kC (.int 1)) (aCons (kC (.int 1)) (aCons (kC (.int 2)) (aCons (kC (.int 2)) (aCons (kC (.int 3)) aNil))))))) cNil))) [16]))))
    (sCons (sPar [4, 5] (lCons (kLst aNil) (lCons (k1 pLen (kX 1)) lNil)))
    (sCons (sFor (iSeq (kX 3)) (gN 6) (sCons (sSet 8 (kLst aNil))
    (sCons (sFor (iRg1 (k2 pAdd (k2 pAdd (kX 5) (kX 6)) (kC (.int 1)))) (gN 9) (sCons (sSet 10 (k2 pAdd (k2 pAdd (kX 5) (kX 6)) (k1 pInt (k2 pEq (kX 9) (k2 pAdd (kX 5) (kX 6))))))
    (sCons (sSet 11 (kComp (iRg1 (k1 pLen (kX 3))) (gN 15) (some (bVal (k2 pLe (k2 pIx (kX 3) (kX 15)) (k2 pSub (kX 10) (kX 5))))) (kX 15) [15]))
    (sCons (sSet 12 (kCall (D_u_law_of).run (cMv 0 (cV (kX 11) cNil))))
    (sCons (sSet 13 (kSl (kCall (D_u_law_mixed).run (cMv 0 (cV (kLR (iRg2 (kX 5) (kX 10))) cNil))) none (some (k2 pIx (kX 3) (kX 12)))))
    (sCons (sSet 14 (kComp (iRg1 (kIf (bVal (k2 pGt (kX 10) (kC (.int 0)))) (kCall (D_u_law_of).run (cMv 0 (cV (kLst (aCons (kC (.int 0)) (aCons (kC (.int 0)) (aCons (kC (.int 1)) (aCons (kC (.int 1)) (aCons (kC (.int 2)) aNil)))))) cNil))) (kC (.int 0)))) (gN 16) none (kCall (D_u_law_pick).run (cMv 0 (cV (kX 10) cNil))) [16]))
    (sCons (sDrop (kApp 8 (kTup (aCons (k1 pTuple (kX 14)) (aCons (kX 12) (aCons (k1 pTuple (kX 13)) aNil))))))
    sNil)))))))
    (sCons (sDrop (kApp 4 (k1 pTuple (kX 8))))
    sNil))))
    (sCons (sSet 7 (k1 pTuple (kComp (iRg1 (k1 pLen (kX 3))) (gN 15) (some (bVal (k2 pEq (kCall (D_u_law_pick).run (cMv 0 (cV (kC (.int 3)) cNil))) (kC (.int 0))))) (kX 15) [15])))
    (sCons (sRet (kTup (aCons (kX 1) (aCons (kX 3) (aCons (kX 7) (aCons (k1 pTuple (kX 4)) aNil))))))
    sNil)))))⟩
/-! ### _law_numbered -/
abbrev s_u_law_numbered : Stmt := top 22
abbrev N_u_law_numbered : List Str := ["machine", "some", "words", "boxes", "yes", "steps", "late", "mode", "told", "k", "answer", "other", "fills"]
abbrev P_u_law_numbered : List Str := ["machine", "some"]
def D_u_law_numbered : Def := ⟨13, [],
    (sCons (sUnp (gT [(gN 2), (gN 3), (gN 4), (gN 5)]) (kX 0))
    (sCons (sSet 6 (kLst aNil))
    (sCons (sFor (iSeq (kX 1)) (gN 7) (sCons (sDrop (kApp 6 (k1 pTuple (kComp (iSeq (k2 pIx (kX 5) (kX 7))) (gT [(gN 10), (gN 11), (gN 12)]) none (kTup (aCons (kX 10) (aCons (kIndex (kX 1) (kX 11)) (aCons (kX 12) aNil)))) [10, 11, 12]))))
    sNil))
    (sCons (sSet 8 (k1 pTuple (kComp (iEnum (kX 1)) (gT [(gN 9), (gN 7)]) (some (bVal (k2 pIn (kX 7) (kX 4)))) (kX 9) [9, 7])))
    (sCons (sRet (kTup (aCons (kX 2) (aCons (k1 pTuple (kComp (iSeq (kX 1)) (gN 7) none (k2 pIx (kX 3) (kX 7)) [7])) (aCons (kX 8) (aCons (k1 pTuple (kX 6)) aNil))))))
    sNil)))))⟩
/-! ### _law_come_to -/
abbrev s_u_law_come_to : Stmt := top 21
abbrev N_u_law_come_to : List Str := ["machine", "found", "k", "answer", "mode", "fills"]
abbrev P_u_law_come_to : List Str := ["machine"]
def D_u_law_come_to : Def := ⟨6, [],
    (sCons (sPar [1, 2] (lCons (kLst (aCons (kC (.int 0)) aNil)) (lCons (kC (.int 0)) lNil)))
    (sCons (sWhile (bVal (k2 pLt (kX 2) (k1 pLen (kX 1)))) (sCons (sFor (iSeq (k2 pIx (k2 pIx (kX 0) (kC (.int 3))) (k2 pIx (kX 1) (kX 2)))) (gT [(gN 3), (gN 4), (gN 5)]) (sCons (sIf (bVal (k2 pNotIn (kX 4) (kX 1))) (sCons (sDrop (kApp 1 (kX 4)))
    sNil) sNil)
    sNil))
    (sCons (sSet 2 (k2 pAdd (kX 2) (kC (.int 1))))
    sNil)))
    (sCons (sRet (kX 1))
    sNil)))⟩
/-! ### made_machine -/
abbrev s_made_machine : Stmt := top 11
abbrev N_made_machine : List Str := ["words", "first", "boxes_of", "is_yes", "step", "things", "known", "steps", "yes", "here", "line", "sign", "answer", "late", "fills", "k", "thing"]
abbrev P_made_machine : List Str := ["words", "first", "boxes_of", "is_yes", "step"]
def D_made_machine : Def := ⟨17, [],
    (sCons (sIf (bVal (k2 pGt (kClo 2 (cV (kX 1) cNil)) (kC (.int 4)))) (sCons sNever
    sNil) sNil)
    (sCons (sPar [5, 6, 7] (lCons (kLst (aCons (kX 1) aNil)) (lCons (kDisp (dCons (kX 1) (kC (.int 0)) dNil)) (lCons (kLst aNil) lNil))))
    (sCons (sWhile (bVal (k2 pLt (k1 pLen (kX 7)) (k1 pLen (kX 5)))) (sCons (sPar [9, 10] (lCons (k2 pIx (kX 5) (k1 pLen (kX 7))) (lCons (kLst aNil) lNil)))
    (sCons (sFor (iRg1 (k2 pAdd (k2 pAdd (k1 pLen (kX 0)) (kClo 2 (cV (kX 9) cNil))) (kC (.int 1)))) (gN 11) (sCons (sUnp (gT [(gN 12), (gN 13), (gN 14)]) (kClo 4 (cV (kX 9) (cV (kX 11) cNil))))
    (sCons (sIf (bVal (k2 pGt (k1 pLen (kX 12)) (kC (.int 8)))) (sCons sNever
    sNil) sNil)
    (sCons (sIf (bVal (k2 pNotIn (kX 13) (kX 6))) (sCons (sIf (bVal (k2 pGt (kClo 2 (cV (kX 13) cNil)) (kC (.int 4)))) (sCons sNever
    sNil) sNil)
    (sCons (sIf (bVal (k2 pEq (k1 pLen (kX 5)) (kC (.int 60)))) (sCons sNever
    sNil) sNil)
    (sCons (sPt 6 (kX 13) (k1 pLen (kX 5)))
    (sCons (sDrop (kApp 5 (kX 13)))
    sNil)))) sNil)
    (sCons (sDrop (kApp 10 (kTup (aCons (k1 pTuple (kX 12)) (aCons (k2 pIx (kX 6) (kX 13)) (aCons (k1 pTuple (kX 14)) aNil))))))
    sNil)))))
    (sCons (sDrop (kApp 7 (k1 pTuple (kX 10))))
    sNil))))
    (sCons (sSet 8 (k1 pTuple (kComp (iEnum (kX 5)) (gT [(gN 15), (gN 16)]) (some (bVal (kClo 3 (cV (kX 16) cNil)))) (kX 15) [15, 16])))
    (sCons (sRet (kTup (aCons (kTup (aCons (k1 pTuple (kX 0)) (aCons (k1 pTuple (kComp (iSeq (kX 5)) (gN 16) none (kClo 2 (cV (kX 16) cNil)) [16])) (aCons (kX 8) (aCons (k1 pTuple (kX 7)) aNil))))) (aCons (k1 pTuple (kX 5)) aNil))))
    sNil)))))⟩
/-! ### numbered_machine -/
abbrev s_numbered_machine : Stmt := top 12
abbrev N_numbered_machine : List Str := ["machine", "%t", "words", "boxes", "yes", "steps", "step", "is_yes"]
abbrev P_numbered_machine : List Str := ["machine"]
abbrev st_numbered_machine_0 : Stmt := (defBody s_numbered_machine).getD 1 (.Pass ⟨0, 0, 0, 0⟩)
def mk_numbered_machine_0 (qual : Str) (cells : List (Str × Addr)) (c' : Addr) : CF := ⟨"step", qual ++ "step", (C8.fnArgs st_numbered_machine_0), (.stmts (C8.fnBody st_numbered_machine_0)), (C8.fnScope st_numbered_machine_0), cloFrom cells (C8.fnScope st_numbered_machine_0).names [], c'⟩
def D_numbered_machine_0 : Def := ⟨3, [],
    (sCons (sRet (k2 pIx (k2 pIx (kX 2) (kX 0)) (kX 1)))
    sNil)⟩
theorem free_numbered_machine_0 : ∀ y ∈ (C8.fnScope st_numbered_machine_0).names, y.2 = NameKind.free → (defScope s_numbered_machine).names.lookup y.1 = some .cell ∨ (defScope s_numbered_machine).names.lookup y.1 = some .free := by decide +kernel
abbrev st_numbered_machine_1 : Stmt := (defBody s_numbered_machine).getD 2 (.Pass ⟨0, 0, 0, 0⟩)
def mk_numbered_machine_1 (qual : Str) (cells : List (Str × Addr)) (c' : Addr) : CF := ⟨"is_yes", qual ++ "is_yes", (C8.fnArgs st_numbered_machine_1), (.stmts (C8.fnBody st_numbered_machine_1)), (C8.fnScope st_numbered_machine_1), cloFrom cells (C8.fnScope st_numbered_machine_1).names [], c'⟩
def D_numbered_machine_1 : Def := ⟨2, [],
    (sCons (sRet (k2 pIn (kX 0) (kX 1)))
    sNil)⟩
theorem free_numbered_machine_1 : ∀ y ∈ (C8.fnScope st_numbered_machine_1).names, y.2 = NameKind.free → (defScope s_numbered_machine).names.lookup y.1 = some .cell ∨ (defScope s_numbered_machine).names.lookup y.1 = some .free := by decide +kernel
abbrev lm_numbered_machine_2 : Expr := retArg ((defBody s_numbered_machine).getD 3 (.Pass ⟨0, 0, 0, 0⟩)) 2
def mk_numbered_machine_2 (qual : Str) (cells : List (Str × Addr)) (c' : Addr) : CF := ⟨"<lambda>", qual ++ "<lambda>", (lamA lm_numbered_machine_2), (.expr (lamB lm_numbered_machine_2)), (lamS lm_numbered_machine_2), cloFrom cells (lamS lm_numbered_machine_2).names [], c'⟩
def D_numbered_machine_2 : Def := ⟨2, [], sRetD (k2 pIx (kX 1) (kX 0))⟩
theorem free_numbered_machine_2 : ∀ y ∈ (lamS lm_numbered_machine_2).names, y.2 = NameKind.free → (defScope s_numbered_machine).names.lookup y.1 = some .cell ∨ (defScope s_numbered_machine).names.lookup y.1 = some .free := by decide +kernel
abbrev ks_numbered_machine (qual : Str) (cells : List (Str × Addr)) : KV.Kinds := [(qual ++ "step", mk_numbered_machine_0 qual cells), (qual ++ "is_yes", mk_numbered_machine_1 qual cells), (qual ++ "<lambda>", mk_numbered_machine_2 qual cells)]
def caps_numbered_machine : Nat → Sl → R (List D → R D)
  | 0 => capG 2 [5] D_numbered_machine_0
  | 1 => capG 1 [4] D_numbered_machine_1
  | 2 => capG 1 [3] D_numbered_machine_2
  | _ => fun _ => .no
def D_numbered_machine : Def := ⟨8, [1], sGuard
    (sCons (sUnp (gT [(gN 2), (gN 3), (gN 4), (gN 5)]) (kX 0))
    (sCons (sNdef 6 1 0)
    (sCons (sNdef 7 1 1)
    (sCons (sRet (kCallC D_made_machine.run (cV (kX 2) (cV (kC (.int 0)) (cLam 1 2 (cPass 7 (cPass 6 cNil))))) caps_numbered_machine))
    sNil))))⟩
/-! ### modes_come_to -/
abbrev s_modes_come_to : Stmt := top 13
abbrev N_modes_come_to : List Str := ["machine", "%t"]
abbrev P_modes_come_to : List Str := ["machine"]
def D_modes_come_to : Def := ⟨2, [1],
    (sCons (sRet (k2 pIx (kCall (D_numbered_machine).run (cV (kX 0) (cMv 1 cNil))) (kC (.int 1))))
    sNil)⟩
/-! ### sign_at -/
abbrev s_sign_at : Stmt := top 7
abbrev N_sign_at : List Str := ["machine", "stand", "value", "words", "boxes", "yes", "steps"]
abbrev P_sign_at : List Str := ["machine", "stand", "value"]
def D_sign_at : Def := ⟨7, [],
    (sCons (sUnp (gT [(gN 3), (gN 4), (gN 5), (gN 6)]) (kX 0))
    (sCons (sIf (bVal (k2 pIn (kX 2) (kX 3))) (sCons (sRet (kIndex (kX 3) (kX 2)))
    sNil) sNil)
    (sCons (sRet (k2 pAdd (k1 pLen (kX 3)) (kIf (bVal (k2 pIn (kX 2) (k2 pIx (kX 1) (kC (.int 1))))) (kIndex (k2 pIx (kX 1) (kC (.int 1))) (kX 2)) (k1 pLen (k2 pIx (kX 1) (kC (.int 1)))))))
    sNil)))⟩
/-! ### stand_behind -/
abbrev s_stand_behind : Stmt := top 8
abbrev N_stand_behind : List Str := ["machine", "stand", "value", "sign", "things", "answer", "mode", "fills", "thing"]
abbrev P_stand_behind : List Str := ["machine", "stand", "value"]
def D_stand_behind : Def := ⟨9, [],
    (sCons (sSet 3 (kCall (D_sign_at).run (cV (kX 0) (cV (kX 1) (cV (kX 2) cNil)))))
    (sCons (sSet 4 (kTup (aStar (k2 pIx (kX 0) (kC (.int 0))) (aStar (k2 pIx (kX 1) (kC (.int 1))) (aCons (kX 2) aNil)))))
    (sCons (sUnp (gT [(gN 5), (gN 6), (gN 7)]) (k2 pIx (k2 pIx (k2 pIx (kX 0) (kC (.int 3))) (k2 pIx (kX 1) (kC (.int 0)))) (kX 3)))
    (sCons (sRet (kTup (aCons (k1 pTuple (kComp (iSeq (kX 5)) (gN 8) none (k2 pIx (kX 4) (kX 8)) [8])) (aCons (kTup (aCons (kX 6) (aCons (k1 pTuple (kComp (iSeq (kX 7)) (gN 8) none (k2 pIx (kX 4) (kX 8)) [8])) aNil))) aNil))))
    sNil))))⟩
/-! ### run_of -/
abbrev s_run_of : Stmt := top 9
abbrev N_run_of : List Str := ["machine", "row", "answers", "stands", "value", "answer", "stand"]
abbrev P_run_of : List Str := ["machine", "row"]
def D_run_of : Def := ⟨7, [],
    (sCons (sPar [2, 3] (lCons (kLst aNil) (lCons (kLst (aCons (kTup (aCons (kC (.int 0)) (aCons (kTup aNil) aNil))) aNil)) lNil)))
    (sCons (sFor (iSeq (kX 1)) (gN 4) (sCons (sUnp (gT [(gN 5), (gN 6)]) (kCall (D_stand_behind).run (cV (kX 0) (cV (k2 pIx (kX 3) (k1 pNeg (kC (.int 1)))) (cV (kX 4) cNil)))))
    (sCons (sDrop (kApp 2 (kX 5)))
    (sCons (sDrop (kApp 3 (kX 6)))
    sNil))))
    (sCons (sRet (kTup (aCons (k1 pTuple (kX 2)) (aCons (k1 pTuple (kX 3)) aNil))))
    sNil)))⟩
/-! ### answers_of -/
abbrev s_answers_of : Stmt := top 10
abbrev N_answers_of : List Str := ["machine", "row"]
abbrev P_answers_of : List Str := ["machine", "row"]
def D_answers_of : Def := ⟨2, [],
    (sCons (sRet (k2 pIx (kCall (D_run_of).run (cV (kX 0) (cV (kX 1) cNil))) (kC (.int 0))))
    sNil)⟩
/-! ### law -/
abbrev s_law : Stmt := top 23
abbrev N_law : List Str := ["script", "%t", "source", "lap", "far", "words", "machine", "some", "kept", "due", "turn", "row", "k"]
abbrev P_law : List Str := ["script"]
def D_law : Def := ⟨13, [1],
    (sCons (sSet 2 (kCall (D_u_law_source).run (cPass 0 cNil)))
    (sCons (sFor (iRg1 (kC (.int 4))) (gN 3) (sCons (sSet 5 (kCall (D_u_law_words).run (cMv 2 cNil)))
    (sCons (sSet 6 (kCall (D_u_law_machine).run (cMv 2 (cV (kX 5) (cV (kC (.int 6)) cNil)))))
    (sCons (sPar [7, 8] (lCons (kCall (D_u_law_come_to).run (cV (kX 6) cNil)) (lCons (k1 pRepr (kX 6)) lNil)))
    (sCons (sSet 9 (kCall (D_u_law_numbered).run (cV (kX 6) (cV (kX 7) cNil))))
    (sCons (sIf (bVal (k2 pNeS (k1 pRepr (kCall (D_modes_come_to).run (cV (kX 6) (cMv 1 cNil)))) (k1 pRepr (k1 pTuple (kX 7))))) (sCons (sRet (kC (.bool false)))
    sNil) sNil)
    (sCons (sIf (bVal (k2 pNeS (k1 pRepr (kCall (D_numbered_machine).run (cV (kX 6) (cMv 1 cNil)))) (k1 pRepr (kTup (aCons (kX 9) (aCons (k1 pTuple (kX 7)) aNil)))))) (sCons (sRet (kC (.bool false)))
    sNil) sNil)
    (sCons (sIf (bVal (k2 pNeS (k1 pRepr (kX 6)) (kX 8))) (sCons (sRet (kC (.bool false)))
    sNil) sNil)
    (sCons (sFor (iRg1 (kC (.int 3))) (gN 10) (sCons (sSet 11 (k1 pTuple (kComp (iRg1 (kCall (D_u_law_pick).run (cMv 2 (cV (kC (.int 7)) cNil)))) (gN 12) none (kCall (D_u_law_of).run (cMv 2 (cV (k2 pAdd (kLst (aCons (kC (.str "a")) (aCons (kC (.str "b")) (aCons (kC (.str "c")) (aCons (kC (.str "a")) aNil))))) (k1 pList (kX 5))) cNil))) [12])))
    (sCons (sIf (bVal (k2 pNeS (k1 pRepr (kCall (D_answers_of).run (cV (kX 6) (cV (kX 11) cNil)))) (k1 pRepr (kCall (D_answers_of).run (cV (kX 9) (cV (kX 11) cNil)))))) (sCons (sRet (kC (.bool false)))
    sNil) sNil)
    sNil)))
    sNil)))))))))
    (sCons (sSet 4 (kTup (aCons (kTup aNil) (aCons (k2 pMul (kTup (aCons (kC (.int 0)) aNil)) (kC (.int 60))) (aCons (kTup (aCons (kC (.int 1)) (aCons (kC (.int 59)) aNil))) (aCons (k1 pTuple (kComp (iRg1 (kC (.int 60))) (gN 12) none (kTup (aCons (kTup (aCons (kTup aNil) (aCons (k2 pMod (k1 pInt (k2 pAdd (kX 12) (kC (.int 1)))) (kC (.int 60))) (aCons (kTup aNil) aNil)))) aNil)) [12])) aNil))))))
    (sCons (sRet (kAnd (k2 pEq (kCall (D_numbered_machine).run (cV (kX 4) (cMv 1 cNil))) (kTup (aCons (kX 4) (aCons (kTR (iRg1 (kC (.int 60)))) aNil)))) (k2 pEq (kCall (D_modes_come_to).run (cV (kX 4) (cMv 1 cNil))) (kTR (iRg1 (kC (.int 60)))))))
    sNil))))⟩
section
variable {P : Program} {w0 : World} {K : PySem.W.Frag} {mg : Str → Option Value} {base : Heap} {f : Addr} {fd : FuncData} {cdv : Value} {A : Around} {outer : List Env} {s : Shared} {H : Hp} {E : XK} {TP : Addr}

theorem sc_u_law_source : FnScope N_u_law_source P_u_law_source (defScope s_u_law_source) := ⟨rfl, rfl, rfl, by decide +kernel, rfl, by decide +kernel, by decide +kernel⟩
theorem d_u_law_source (M : MG mg)  (room : Room 0 (A.deeper (envOfC "_law_source" (defScope s_u_law_source) s.heap.objs.size f cdv))) (gd : A.guards = some []) :
    GSs (WT K TP nmF) [] (bodyCx P w0 K mg base N_u_law_source "_law_source" s_u_law_source f cdv A outer s H E) (defBody s_u_law_source) D_u_law_source.body := by
  have c : Cok (WT K TP nmF) 0 (bodyCx P w0 K mg base N_u_law_source "_law_source" s_u_law_source f cdv A outer s H E) := ⟨rfl, rfl, sc_u_law_source.nd, room, gd⟩
  simp only [D_u_law_source]
  exact (gss_cons (gs_set 1 c.nd ge_int)
    (gss_cons (gs_for c PassesOwn.never (gi_scr c 0) (gg_n 2 c.nd) (gss_cons (gs_set 1 c.nd (ge_mod (ge_intF M.n_int (ge_add c (ge_add c (ge_mul c (ge_v 1) ge_int) (ge_mul c (ge_v 2) ge_int)) ge_int)) ge_int))
    gss_nil))
    (gss_cons (gs_ret (ge_src (ge_rev (ge_lc [("cell", 2)] c (gi_scr c 0) (by kernel_rfl) (fun _ _ _ _ _ => (gg_n 2 c.blk.nd)) (fun _ _ _ _ _ => gc_no) (fun _ _ _ _ _ => (ge_abs M.n_abs (ge_v 2))))) ge_int (ge_v 1) ge_int))
    gss_nil)))
theorem ok_u_law_source (F : L2.Fun K "_law_source" "_law_source" s_u_law_source f fd) (M : MG mg)  : FnG P w0 K mg base (0 + 1) f fd P_u_law_source (spD (WT K TP nmF) 1 D_u_law_source) :=
  fnD_of F sc_u_law_source rfl (show ([] : List Nat).Nodup by decide) (show ∀ i ∈ ([] : List Nat), i < P_u_law_source.length by decide) fun cdv A outer s H E room gd => d_u_law_source M  room gd
theorem sc_u_law_pick : FnScope N_u_law_pick P_u_law_pick (defScope s_u_law_pick) := ⟨rfl, rfl, rfl, by decide +kernel, rfl, by decide +kernel, by decide +kernel⟩
theorem d_u_law_pick (M : MG mg)  (room : Room 0 (A.deeper (envOfC "_law_pick" (defScope s_u_law_pick) s.heap.objs.size f cdv))) (gd : A.guards = some []) :
    GSs (WT K TP nmF) [0] (bodyCx P w0 K mg base N_u_law_pick "_law_pick" s_u_law_pick f cdv A outer s H E) (defBody s_u_law_pick) D_u_law_pick.body := by
  have c : Cok (WT K TP nmF) 0 (bodyCx P w0 K mg base N_u_law_pick "_law_pick" s_u_law_pick f cdv A outer s H E) := ⟨rfl, rfl, sc_u_law_pick.nd, room, gd⟩
  simp only [D_u_law_pick]
  exact (gss_cons (gs_while PassesOwn.never (gb_and (gb_gt (ge_v 1) ge_int) (gb_and (gb_lt (ge_srcI c 0 .left) ge_int) (gb_and1 (gb_gt (ge_srcLen M.n_len c 0) ge_int)))).pt (gss_cons (gs_srcPut c 0 .left (ge_srcPop c 0))
    gss_nil))
    (gss_cons (gs_set 2 c.nd (ge_srcI c 0 .left))
    (gss_cons (gs_if (gb_or (gb_lt (ge_v 1) ge_int) (gb_or1 (gb_gt (ge_v 2) ge_int))).pt (gss_cons (gs_srcPut c 0 .left (ge_div (ge_v 2) (ge_max2 M.n_max c ge_int (ge_v 1))))
    (gss_cons (gs_ret (ge_mod (ge_intF M.n_int (ge_v 2)) (ge_max2 M.n_max c ge_int (ge_v 1))))
    gss_nil)) gss_nil)
    (gss_cons (gs_srcPut c 0 .turn (ge_add c (ge_srcI c 0 .turn) ge_int))
    (gss_cons (gs_set 3 c.nd (ge_mod (ge_intF M.n_int (ge_add c (ge_srcI c 0 .mixed) (ge_mul c (ge_srcI c 0 .turn) ge_int))) ge_int))
    (gss_cons (gs_set 3 c.nd (ge_mod (ge_intF M.n_int (ge_add c (ge_mul c (ge_v 3) (ge_v 3)) (ge_mul c (ge_srcI c 0 .turn) ge_int))) ge_int))
    (gss_cons (gs_srcPut c 0 .mixed (ge_v 3))
    (gss_cons (gs_ret (ge_mod (ge_intF M.n_int (ge_div (ge_v 3) ge_int)) (ge_v 1)))
    gss_nil))))))))
theorem ok_u_law_pick (F : L2.Fun K "_law_pick" "_law_pick" s_u_law_pick f fd) (M : MG mg)  : FnG P w0 K mg base (0 + 1) f fd P_u_law_pick (spD (WT K TP nmF) 2 D_u_law_pick) :=
  fnD_of F sc_u_law_pick rfl (show ([0] : List Nat).Nodup by decide) (show ∀ i ∈ ([0] : List Nat), i < P_u_law_pick.length by decide) fun cdv A outer s H E room gd => d_u_law_pick M  room gd
theorem sc_u_law_of : FnScope N_u_law_of P_u_law_of (defScope s_u_law_of) := ⟨rfl, rfl, rfl, by decide +kernel, rfl, by decide +kernel, by decide +kernel⟩
theorem d_u_law_of (M : MG mg) (C_u_law_pick : CalG P w0 K mg base 1 "_law_pick" (spD (WT K TP nmF) 2 D_u_law_pick)) (room : Room 1 (A.deeper (envOfC "_law_of" (defScope s_u_law_of) s.heap.objs.size f cdv))) (gd : A.guards = some []) :
    GSs (WT K TP nmF) [0] (bodyCx P w0 K mg base N_u_law_of "_law_of" s_u_law_of f cdv A outer s H E) (defBody s_u_law_of) D_u_law_of.body := by
  have c : Cok (WT K TP nmF) 1 (bodyCx P w0 K mg base N_u_law_of "_law_of" s_u_law_of f cdv A outer s H E) := ⟨rfl, rfl, sc_u_law_of.nd, room, gd⟩
  simp only [D_u_law_of]
  exact (gss_cons (gs_ret (ge_ix c (ge_v 1) (ge_call c C_u_law_pick (gr_io 0 (gr_v (ge_len M.n_len c (ge_v 1)) gr_nil)) (by omega))))
    gss_nil)
theorem ok_u_law_of (F : L2.Fun K "_law_of" "_law_of" s_u_law_of f fd) (M : MG mg) (C_u_law_pick : CalG P w0 K mg base 1 "_law_pick" (spD (WT K TP nmF) 2 D_u_law_pick)) : FnG P w0 K mg base (1 + 1) f fd P_u_law_of (spD (WT K TP nmF) 2 D_u_law_of) :=
  fnD_of F sc_u_law_of rfl (show ([0] : List Nat).Nodup by decide) (show ∀ i ∈ ([0] : List Nat), i < P_u_law_of.length by decide) fun cdv A outer s H E room gd => d_u_law_of M C_u_law_pick room gd
theorem sc_u_law_words : FnScope N_u_law_words P_u_law_words (defScope s_u_law_words) := ⟨rfl, rfl, rfl, by decide +kernel, rfl, by decide +kernel, by decide +kernel⟩
theorem d_u_law_words (M : MG mg) (C_u_law_of : CalG P w0 K mg base 2 "_law_of" (spD (WT K TP nmF) 2 D_u_law_of)) (room : Room 2 (A.deeper (envOfC "_law_words" (defScope s_u_law_words) s.heap.objs.size f cdv))) (gd : A.guards = some []) :
    GSs (WT K TP nmF) [0] (bodyCx P w0 K mg base N_u_law_words "_law_words" s_u_law_words f cdv A outer s H E) (defBody s_u_law_words) D_u_law_words.body := by
  have c : Cok (WT K TP nmF) 2 (bodyCx P w0 K mg base N_u_law_words "_law_words" s_u_law_words f cdv A outer s H E) := ⟨rfl, rfl, sc_u_law_words.nd, room, gd⟩
  simp only [D_u_law_words]
  exact (gss_cons (gs_ret (ge_call c C_u_law_of (gr_io 0 (gr_v (ge_lst (ga_cons (ge_tup ga_nil) (ga_cons (ge_tup ga_nil) (ga_cons (ge_tup (ga_cons ge_str ga_nil)) (ga_cons (ge_tup (ga_cons ge_str (ga_cons ge_str ga_nil))) ga_nil))))) gr_nil)) (by omega)))
    gss_nil)
theorem ok_u_law_words (F : L2.Fun K "_law_words" "_law_words" s_u_law_words f fd) (M : MG mg) (C_u_law_of : CalG P w0 K mg base 2 "_law_of" (spD (WT K TP nmF) 2 D_u_law_of)) : FnG P w0 K mg base (2 + 1) f fd P_u_law_words (spD (WT K TP nmF) 1 D_u_law_words) :=
  fnD_of F sc_u_law_words rfl (show ([0] : List Nat).Nodup by decide) (show ∀ i ∈ ([0] : List Nat), i < P_u_law_words.length by decide) fun cdv A outer s H E room gd => d_u_law_words M C_u_law_of room gd
theorem sc_u_law_mixed : FnScope N_u_law_mixed P_u_law_mixed (defScope s_u_law_mixed) := ⟨rfl, rfl, rfl, by decide +kernel, rfl, by decide +kernel, by decide +kernel⟩
theorem d_u_law_mixed (M : MG mg) (C_u_law_pick : CalG P w0 K mg base 1 "_law_pick" (spD (WT K TP nmF) 2 D_u_law_pick)) (room : Room 1 (A.deeper (envOfC "_law_mixed" (defScope s_u_law_mixed) s.heap.objs.size f cdv))) (gd : A.guards = some []) :
    GSs (WT K TP nmF) [0] (bodyCx P w0 K mg base N_u_law_mixed "_law_mixed" s_u_law_mixed f cdv A outer s H E) (defBody s_u_law_mixed) D_u_law_mixed.body := by
  have c : Cok (WT K TP nmF) 1 (bodyCx P w0 K mg base N_u_law_mixed "_law_mixed" s_u_law_mixed f cdv A outer s H E) := ⟨rfl, rfl, sc_u_law_mixed.nd, room, gd⟩
  simp only [D_u_law_mixed]
  exact (gss_cons (gs_set 2 c.nd (ge_list M.n_list c (ge_v 1)))
    (gss_cons (gs_ret (ge_lc [("lap", 3)] c (gi_rg1 M.n_range (ge_len M.n_len c (ge_v 2))) (by kernel_rfl) (fun _ _ _ _ _ => (gg_n 3 c.blk.nd)) (fun _ _ _ _ _ => gc_no) (fun _ _ _ _ _ => (ge_popJ 2 (ge_call c.blk C_u_law_pick (gr_io 0 (gr_v (ge_len M.n_len c.blk (ge_v 2)) gr_nil)) (by omega))))))
    gss_nil))
theorem ok_u_law_mixed (F : L2.Fun K "_law_mixed" "_law_mixed" s_u_law_mixed f fd) (M : MG mg) (C_u_law_pick : CalG P w0 K mg base 1 "_law_pick" (spD (WT K TP nmF) 2 D_u_law_pick)) : FnG P w0 K mg base (1 + 1) f fd P_u_law_mixed (spD (WT K TP nmF) 2 D_u_law_mixed) :=
  fnD_of F sc_u_law_mixed rfl (show ([0] : List Nat).Nodup by decide) (show ∀ i ∈ ([0] : List Nat), i < P_u_law_mixed.length by decide) fun cdv A outer s H E room gd => d_u_law_mixed M C_u_law_pick room gd
theorem sc_u_law_machine : FnScope N_u_law_machine P_u_law_machine (defScope s_u_law_machine) := ⟨rfl, rfl, rfl, by decide +kernel, rfl, by decide +kernel, by decide +kernel⟩
theorem d_u_law_machine (M : MG mg) (C_u_law_of : CalG P w0 K mg base 2 "_law_of" (spD (WT K TP nmF) 2 D_u_law_of)) (C_u_law_mixed : CalG P w0 K mg base 2 "_law_mixed" (spD (WT K TP nmF) 2 D_u_law_mixed)) (C_u_law_pick : CalG P w0 K mg base 1 "_law_pick" (spD (WT K TP nmF) 2 D_u_law_pick)) (room : Room 2 (A.deeper (envOfC "_law_machine" (defScope s_u_law_machine) s.heap.objs.size f cdv))) (gd : A.guards = some []) :
    GSs (WT K TP nmF) [0] (bodyCx P w0 K mg base N_u_law_machine "_law_machine" s_u_law_machine f cdv A outer s H E) (defBody s_u_law_machine) D_u_law_machine.body := by
  have c : Cok (WT K TP nmF) 2 (bodyCx P w0 K mg base N_u_law_machine "_law_machine" s_u_law_machine f cdv A outer s H E) := ⟨rfl, rfl, sc_u_law_machine.nd, room, gd⟩
  simp only [D_u_law_machine]
  exact (gss_cons (gs_set 3 c.nd (ge_add c (ge_tup (ga_cons ge_int ga_nil)) (ge_tuple M.n_tuple c (ge_lc [("k", 16)] c (gi_rg1 M.n_range (ge_call c C_u_law_pick (gr_io 0 (gr_v (ge_v 2) gr_nil)) (by omega))) (by kernel_rfl) (fun _ _ _ _ _ => (gg_n 16 c.blk.nd)) (fun _ _ _ _ _ => gc_no) (fun _ _ _ _ _ => (ge_call c.blk C_u_law_of (gr_io 0 (gr_v (ge_lst (ga_cons ge_int (ga_cons ge_int (ga_cons ge_int (ga_cons ge_int (ga_cons ge_int (ga_cons ge_int ga_nil))))))) gr_nil)) (by omega)))))))
    (gss_cons (gs_parN c.nd c (gl_cons (ge_lst ga_nil) (gl_cons (ge_len M.n_len c (ge_v 1)) gl_nil)) (pgs_n 4 c.nd (pgs_n 5 c.nd pgs_n0)))
    (gss_cons (gs_for c PassesOwn.never (gi_seq c (ge_v 3)) (gg_n 6 c.nd) (gss_cons (gs_set 8 c.nd (ge_lst ga_nil))
    (gss_cons (gs_for c PassesOwn.never (gi_rg1 M.n_range (ge_add c (ge_add c (ge_v 5) (ge_v 6)) ge_int)) (gg_n 9 c.nd) (gss_cons (gs_set 10 c.nd (ge_add c (ge_add c (ge_v 5) (ge_v 6)) (ge_intF M.n_int (ge_eq c (ge_v 9) (ge_add c (ge_v 5) (ge_v 6))))))
    (gss_cons (gs_setLc 11 [("mode", 15)] c (gi_rg1 M.n_range (ge_len M.n_len c (ge_v 3))) (by kernel_rfl) (fun _ _ _ _ _ => (gg_n 15 c.blk.nd)) (fun _ _ _ _ _ => (gc_if (gb_le (ge_ix c.blk (ge_v 3) (ge_v 15)) (ge_sub (ge_v 10) (ge_v 5))))) (fun _ _ _ _ _ => (ge_v 15)))
    (gss_cons (gs_set 12 c.nd (ge_call c C_u_law_of (gr_io 0 (gr_v (ge_v 11) gr_nil)) (by omega)))
    (gss_cons (gs_set 13 c.nd (ge_sl c (ge_call c C_u_law_mixed (gr_io 0 (gr_v (ge_lrg2 M.n_list M.n_range c (ge_v 5) (ge_v 10)) gr_nil)) (by omega)) gp_none (gp_some (ge_ix c (ge_v 3) (ge_v 12)))))
    (gss_cons (gs_setLc 14 [("k", 16)] c (gi_rg1 M.n_range (ge_if (gb_gt (ge_v 10) ge_int) (ge_call c C_u_law_of (gr_io 0 (gr_v (ge_lst (ga_cons ge_int (ga_cons ge_int (ga_cons ge_int (ga_cons ge_int (ga_cons ge_int ga_nil)))))) gr_nil)) (by omega)) ge_int)) (by kernel_rfl) (fun _ _ _ _ _ => (gg_n 16 c.blk.nd)) (fun _ _ _ _ _ => gc_no) (fun _ _ _ _ _ => (ge_call c.blk C_u_law_pick (gr_io 0 (gr_v (ge_v 10) gr_nil)) (by omega))))
    (gss_cons (gs_drop (ge_app 8 (ge_tup (ga_cons (ge_tuple M.n_tuple c (ge_v 14)) (ga_cons (ge_v 12) (ga_cons (ge_tuple M.n_tuple c (ge_v 13)) ga_nil))))))
    gss_nil)))))))
    (gss_cons (gs_drop (ge_app 4 (ge_tuple M.n_tuple c (ge_v 8))))
    gss_nil))))
    (gss_cons (gs_set 7 c.nd (ge_tuple M.n_tuple c (ge_lc [("mode", 15)] c (gi_rg1 M.n_range (ge_len M.n_len c (ge_v 3))) (by kernel_rfl) (fun _ _ _ _ _ => (gg_n 15 c.blk.nd)) (fun _ _ _ _ _ => (gc_if (gb_eq c.blk (ge_call c.blk C_u_law_pick (gr_io 0 (gr_v ge_int gr_nil)) (by omega)) ge_int))) (fun _ _ _ _ _ => (ge_v 15)))))
    (gss_cons (gs_ret (ge_tup (ga_cons (ge_v 1) (ga_cons (ge_v 3) (ga_cons (ge_v 7) (ga_cons (ge_tuple M.n_tuple c (ge_v 4)) ga_nil))))))
    gss_nil)))))
theorem ok_u_law_machine (F : L2.Fun K "_law_machine" "_law_machine" s_u_law_machine f fd) (M : MG mg) (C_u_law_of : CalG P w0 K mg base 2 "_law_of" (spD (WT K TP nmF) 2 D_u_law_of)) (C_u_law_mixed : CalG P w0 K mg base 2 "_law_mixed" (spD (WT K TP nmF) 2 D_u_law_mixed)) (C_u_law_pick : CalG P w0 K mg base 1 "_law_pick" (spD (WT K TP nmF) 2 D_u_law_pick)) : FnG P w0 K mg base (2 + 1) f fd P_u_law_machine (spD (WT K TP nmF) 3 D_u_law_machine) :=
  fnD_of F sc_u_law_machine rfl (show ([0] : List Nat).Nodup by decide) (show ∀ i ∈ ([0] : List Nat), i < P_u_law_machine.length by decide) fun cdv A outer s H E room gd => d_u_law_machine M C_u_law_of C_u_law_mixed C_u_law_pick room gd
theorem sc_u_law_numbered : FnScope N_u_law_numbered P_u_law_numbered (defScope s_u_law_numbered) := ⟨rfl, rfl, rfl, by decide +kernel, rfl, by decide +kernel, by decide +kernel⟩
theorem d_u_law_numbered (M : MG mg)  (room : Room 0 (A.deeper (envOfC "_law_numbered" (defScope s_u_law_numbered) s.heap.objs.size f cdv))) (gd : A.guards = some []) :
    GSs (WT K TP nmF) [] (bodyCx P w0 K mg base N_u_law_numbered "_law_numbered" s_u_law_numbered f cdv A outer s H E) (defBody s_u_law_numbered) D_u_law_numbered.body := by
  have c : Cok (WT K TP nmF) 0 (bodyCx P w0 K mg base N_u_law_numbered "_law_numbered" s_u_law_numbered f cdv A outer s H E) := ⟨rfl, rfl, sc_u_law_numbered.nd, room, gd⟩
  simp only [D_u_law_numbered]
  exact (gss_cons (gs_unp (ge_v 0) (gg_t c (ggs_cons (gg_n 2 c.nd) (ggs_cons (gg_n 3 c.nd) (ggs_cons (gg_n 4 c.nd) (ggs_cons (gg_n 5 c.nd) ggs_nil))))))
    (gss_cons (gs_set 6 c.nd (ge_lst ga_nil))
    (gss_cons (gs_for c PassesOwn.never (gi_seq c (ge_v 1)) (gg_n 7 c.nd) (gss_cons (gs_drop (ge_app 6 (ge_tuple M.n_tuple c (ge_lc [("answer", 10), ("other", 11), ("fills", 12)] c (gi_seq c (ge_ix c (ge_v 5) (ge_v 7))) (by kernel_rfl) (fun _ _ _ _ _ => (gg_t c.blk (ggs_cons (gg_n 10 c.blk.nd) (ggs_cons (gg_n 11 c.blk.nd) (ggs_cons (gg_n 12 c.blk.nd) ggs_nil))))) (fun _ _ _ _ _ => gc_no) (fun _ _ _ _ _ => (ge_tup (ga_cons (ge_v 10) (ga_cons (ge_index c.blk (ge_v 1) (ge_v 11)) (ga_cons (ge_v 12) ga_nil)))))))))
    gss_nil))
    (gss_cons (gs_set 8 c.nd (ge_tuple M.n_tuple c (ge_lc2 [("k", 9), ("mode", 7)] c (gi_enum c M.n_enumerate (ge_v 1)) (by kernel_rfl) (fun _ _ _ _ _ => (gg_2 c.blk.calm (ggs_cons (gg_n 9 c.blk.nd) (ggs_cons (gg_n 7 c.blk.nd) ggs_nil)))) (fun _ _ _ _ _ => (gc_if (gb_in c.blk (ge_v 7) (ge_v 4)))) (fun _ _ _ _ _ => (ge_v 9)))))
    (gss_cons (gs_ret (ge_tup (ga_cons (ge_v 2) (ga_cons (ge_tuple M.n_tuple c (ge_lc [("mode", 7)] c (gi_seq c (ge_v 1)) (by kernel_rfl) (fun _ _ _ _ _ => (gg_n 7 c.blk.nd)) (fun _ _ _ _ _ => gc_no) (fun _ _ _ _ _ => (ge_ix c.blk (ge_v 3) (ge_v 7))))) (ga_cons (ge_v 8) (ga_cons (ge_tuple M.n_tuple c (ge_v 6)) ga_nil))))))
    gss_nil)))))
theorem ok_u_law_numbered (F : L2.Fun K "_law_numbered" "_law_numbered" s_u_law_numbered f fd) (M : MG mg)  : FnG P w0 K mg base (0 + 1) f fd P_u_law_numbered (spD (WT K TP nmF) 2 D_u_law_numbered) :=
  fnD_of F sc_u_law_numbered rfl (show ([] : List Nat).Nodup by decide) (show ∀ i ∈ ([] : List Nat), i < P_u_law_numbered.length by decide) fun cdv A outer s H E room gd => d_u_law_numbered M  room gd
theorem sc_u_law_come_to : FnScope N_u_law_come_to P_u_law_come_to (defScope s_u_law_come_to) := ⟨rfl, rfl, rfl, by decide +kernel, rfl, by decide +kernel, by decide +kernel⟩
theorem d_u_law_come_to (M : MG mg)  (room : Room 0 (A.deeper (envOfC "_law_come_to" (defScope s_u_law_come_to) s.heap.objs.size f cdv))) (gd : A.guards = some []) :
    GSs (WT K TP nmF) [] (bodyCx P w0 K mg base N_u_law_come_to "_law_come_to" s_u_law_come_to f cdv A outer s H E) (defBody s_u_law_come_to) D_u_law_come_to.body := by
  have c : Cok (WT K TP nmF) 0 (bodyCx P w0 K mg base N_u_law_come_to "_law_come_to" s_u_law_come_to f cdv A outer s H E) := ⟨rfl, rfl, sc_u_law_come_to.nd, room, gd⟩
  simp only [D_u_law_come_to]
  exact (gss_cons (gs_par2 c.nd c 1 2 (gl_cons (ge_lst (ga_cons ge_int ga_nil)) (gl_cons ge_int gl_nil)))
    (gss_cons (gs_while PassesOwn.never (gb_lt (ge_v 2) (ge_len M.n_len c (ge_v 1))) (gss_cons (gs_for c PassesOwn.never (gi_seq c (ge_ix c (ge_ix c (ge_v 0) ge_int) (ge_ix c (ge_v 1) (ge_v 2)))) (gg_t c (ggs_cons (gg_n 3 c.nd) (ggs_cons (gg_n 4 c.nd) (ggs_cons (gg_n 5 c.nd) ggs_nil)))) (gss_cons (gs_if (gb_notIn c (ge_v 4) (ge_v 1)) (gss_cons (gs_drop (ge_app 1 (ge_v 4)))
    gss_nil) gss_nil)
    gss_nil))
    (gss_cons (gs_set 2 c.nd (ge_add c (ge_v 2) ge_int))
    gss_nil)))
    (gss_cons (gs_ret (ge_v 1))
    gss_nil)))
theorem ok_u_law_come_to (F : L2.Fun K "_law_come_to" "_law_come_to" s_u_law_come_to f fd) (M : MG mg)  : FnG P w0 K mg base (0 + 1) f fd P_u_law_come_to (spD (WT K TP nmF) 1 D_u_law_come_to) :=
  fnD_of F sc_u_law_come_to rfl (show ([] : List Nat).Nodup by decide) (show ∀ i ∈ ([] : List Nat), i < P_u_law_come_to.length by decide) fun cdv A outer s H E room gd => d_u_law_come_to M  room gd
theorem sc_made_machine : FnScope N_made_machine P_made_machine (defScope s_made_machine) := ⟨rfl, rfl, rfl, by decide +kernel, rfl, by decide +kernel, by decide +kernel⟩
theorem d_made_machine (M : MG mg)  (room : Room 1 (A.deeper (envOfC "made_machine" (defScope s_made_machine) s.heap.objs.size f cdv))) (gd : A.guards = some []) :
    GSs (WC P w0 K mg base (WT K TP nmF) 1) [] (bodyCx P w0 K mg base N_made_machine "made_machine" s_made_machine f cdv A outer s H E) (defBody s_made_machine) D_made_machine.body := by
  have c : Cok (WC P w0 K mg base (WT K TP nmF) 1) 1 (bodyCx P w0 K mg base N_made_machine "made_machine" s_made_machine f cdv A outer s H E) := ⟨rfl, rfl, sc_made_machine.nd, room, gd⟩
  simp only [D_made_machine]
  exact (gss_cons (gs_if (gb_gt (ge_clo 2 c (by omega) (gr_v (ge_v 1) gr_nil)) (ge_cint M.c_MOST_BOXES)) (gss_cons gs_never
    gss_nil) gss_nil)
    (gss_cons (gs_par3 c.nd c 5 6 7 (gl_cons (ge_lst (ga_cons (ge_v 1) ga_nil)) (gl_cons (ge_disp (gd_cons (ge_v 1) ge_int gd_nil)) (gl_cons (ge_lst ga_nil) gl_nil))))
    (gss_cons (gs_while PassesOwn.never (gb_lt (ge_len M.n_len c (ge_v 7)) (ge_len M.n_len c (ge_v 5))) (gss_cons (gs_par2 c.nd c 9 10 (gl_cons (ge_ix c (ge_v 5) (ge_len M.n_len c (ge_v 7))) (gl_cons (ge_lst ga_nil) gl_nil)))
    (gss_cons (gs_for c PassesOwn.never (gi_rg1 M.n_range (ge_add c (ge_add c (ge_len M.n_len c (ge_v 0)) (ge_clo 2 c (by omega) (gr_v (ge_v 9) gr_nil))) ge_int)) (gg_n 11 c.nd) (gss_cons (gs_unp (ge_clo 4 c (by omega) (gr_v (ge_v 9) (gr_v (ge_v 11) gr_nil))) (gg_t c (ggs_cons (gg_n 12 c.nd) (ggs_cons (gg_n 13 c.nd) (ggs_cons (gg_n 14 c.nd) ggs_nil)))))
    (gss_cons (gs_if (gb_gt (ge_len M.n_len c (ge_v 12)) (ge_cint M.c_MOST_TOLD)) (gss_cons gs_never
    gss_nil) gss_nil)
    (gss_cons (gs_if (gb_notIn c (ge_v 13) (ge_v 6)) (gss_cons (gs_if (gb_gt (ge_clo 2 c (by omega) (gr_v (ge_v 13) gr_nil)) (ge_cint M.c_MOST_BOXES)) (gss_cons gs_never
    gss_nil) gss_nil)
    (gss_cons (gs_if (gb_eq c (ge_len M.n_len c (ge_v 5)) (ge_cint M.c_MOST_MODES)) (gss_cons gs_never
    gss_nil) gss_nil)
    (gss_cons (gs_put c 6 (ge_len M.n_len c (ge_v 5)) (ge_v 13))
    (gss_cons (gs_drop (ge_app 5 (ge_v 13)))
    gss_nil)))) gss_nil)
    (gss_cons (gs_drop (ge_app 10 (ge_tup (ga_cons (ge_tuple M.n_tuple c (ge_v 12)) (ga_cons (ge_ix c (ge_v 6) (ge_v 13)) (ga_cons (ge_tuple M.n_tuple c (ge_v 14)) ga_nil))))))
    gss_nil)))))
    (gss_cons (gs_drop (ge_app 7 (ge_tuple M.n_tuple c (ge_v 10))))
    gss_nil))))
    (gss_cons (gs_set 8 c.nd (ge_tuple M.n_tuple c (ge_lc2 [("k", 15), ("thing", 16)] c (gi_enum c M.n_enumerate (ge_v 5)) (by kernel_rfl) (fun _ _ _ _ _ => (gg_2 c.blk.calm (ggs_cons (gg_n 15 c.blk.nd) (ggs_cons (gg_n 16 c.blk.nd) ggs_nil)))) (fun _ _ _ _ _ => (gc_if (gb_val (ge_clo 3 c.blk (by omega) (gr_v (ge_v 16) gr_nil))))) (fun _ _ _ _ _ => (ge_v 15)))))
    (gss_cons (gs_ret (ge_tup (ga_cons (ge_tup (ga_cons (ge_tuple M.n_tuple c (ge_v 0)) (ga_cons (ge_tuple M.n_tuple c (ge_lc [("thing", 16)] c (gi_seq c (ge_v 5)) (by kernel_rfl) (fun _ _ _ _ _ => (gg_n 16 c.blk.nd)) (fun _ _ _ _ _ => gc_no) (fun _ _ _ _ _ => (ge_clo 2 c.blk (by omega) (gr_v (ge_v 16) gr_nil))))) (ga_cons (ge_v 8) (ga_cons (ge_tuple M.n_tuple c (ge_v 7)) ga_nil))))) (ga_cons (ge_tuple M.n_tuple c (ge_v 5)) ga_nil))))
    gss_nil)))))
theorem ok_made_machine (F : L2.Fun K "made_machine" "made_machine" s_made_machine f fd) (M : MG mg)  : FnG P w0 K mg base (1 + 1) f fd P_made_machine (spD (WC P w0 K mg base (WT K TP nmF) 1) 5 D_made_machine) :=
  fnD_of F sc_made_machine rfl (show ([] : List Nat).Nodup by decide) (show ∀ i ∈ ([] : List Nat), i < P_made_machine.length by decide) fun cdv A outer s H E room gd => d_made_machine M  room gd
theorem sc_numbered_machine : FnScope N_numbered_machine P_numbered_machine (defScope s_numbered_machine) := ⟨rfl, rfl, rfl, by decide +kernel, rfl, by decide +kernel, by decide +kernel⟩
theorem fr_numbered_machine_0 : ∀ y ∈ (["steps"] : List Str), (y, NameKind.free) ∈ (C8.fnScope st_numbered_machine_0).names := by decide +kernel
theorem ns_numbered_machine_0 : nscB ["mode", "sign", "steps"] ["mode", "sign"] ["steps"] (C8.fnScope st_numbered_machine_0) = true := by decide +kernel
theorem cp_numbered_machine_0 (M : MG mg) (qual : Str) (cells : List (Str × Addr)) (c' : Addr) : CfP P w0 K mg base (WT K TP nmF) 1 2 (mk_numbered_machine_0 qual cells c') ["steps"] D_numbered_machine_0 :=
  cfP_stmts (k := 0) (N := ["mode", "sign", "steps"]) (ps := ["mode", "sign"]) (body := C8.fnBody st_numbered_machine_0) rfl (nscope_by ns_numbered_machine_0) (fun _ _ _ us hl => match us, hl with | [_, _], _ => rfl) rfl rfl fun f A outer s H room gd => by
    have c : Cok (WT K TP nmF) 0 (cfCx P w0 K mg base ["mode", "sign", "steps"] (mk_numbered_machine_0 qual cells c') f A outer s H E0) := ⟨rfl, rfl, (show (["mode", "sign", "steps"] : List Str).Nodup by decide), room, gd⟩
    exact (gss_cons (gs_ret (ge_ix c (ge_ix c (ge_v 2) (ge_v 0)) (ge_v 1)))
    gss_nil)
theorem fr_numbered_machine_1 : ∀ y ∈ (["yes"] : List Str), (y, NameKind.free) ∈ (C8.fnScope st_numbered_machine_1).names := by decide +kernel
theorem ns_numbered_machine_1 : nscB ["mode", "yes"] ["mode"] ["yes"] (C8.fnScope st_numbered_machine_1) = true := by decide +kernel
theorem cp_numbered_machine_1 (M : MG mg) (qual : Str) (cells : List (Str × Addr)) (c' : Addr) : CfP P w0 K mg base (WT K TP nmF) 1 1 (mk_numbered_machine_1 qual cells c') ["yes"] D_numbered_machine_1 :=
  cfP_stmts (k := 0) (N := ["mode", "yes"]) (ps := ["mode"]) (body := C8.fnBody st_numbered_machine_1) rfl (nscope_by ns_numbered_machine_1) (fun _ _ _ us hl => match us, hl with | [_], _ => rfl) rfl rfl fun f A outer s H room gd => by
    have c : Cok (WT K TP nmF) 0 (cfCx P w0 K mg base ["mode", "yes"] (mk_numbered_machine_1 qual cells c') f A outer s H E0) := ⟨rfl, rfl, (show (["mode", "yes"] : List Str).Nodup by decide), room, gd⟩
    exact (gss_cons (gs_ret (ge_in c (ge_v 0) (ge_v 1)))
    gss_nil)
theorem fr_numbered_machine_2 : ∀ y ∈ (["boxes"] : List Str), (y, NameKind.free) ∈ (lamS lm_numbered_machine_2).names := by decide +kernel
theorem ns_numbered_machine_2 : nscB ["mode", "boxes"] ["mode"] ["boxes"] (lamS lm_numbered_machine_2) = true := by decide +kernel
theorem cp_numbered_machine_2 (M : MG mg) (qual : Str) (cells : List (Str × Addr)) (c' : Addr) : CfP P w0 K mg base (WT K TP nmF) 1 1 (mk_numbered_machine_2 qual cells c') ["boxes"] D_numbered_machine_2 :=
  cfP_expr (k := 0) (N := ["mode", "boxes"]) (ps := ["mode"]) (body := lamB lm_numbered_machine_2) rfl (nscope_by ns_numbered_machine_2) (fun _ _ _ us hl => match us, hl with | [_], _ => rfl) fun f A outer s H room gd => by
    have c : Cok (WT K TP nmF) 0 (cfCx P w0 K mg base ["mode", "boxes"] (mk_numbered_machine_2 qual cells c') f A outer s H E0) := ⟨rfl, rfl, (show (["mode", "boxes"] : List Str).Nodup by decide), room, gd⟩
    exact (ge_ix c (ge_v 1) (ge_v 0))
theorem cap_numbered_machine {cc : Addr} (M : MG mg) : CapOk (WM (WT K TP nmF) (ks_numbered_machine (bodyCx P w0 K mg base N_numbered_machine "numbered_machine" s_numbered_machine f (.ref cc) A outer s H E).env.qual (bodyCx P w0 K mg base N_numbered_machine "numbered_machine" s_numbered_machine f (.ref cc) A outer s H E).env.cells)) (bodyCx P w0 K mg base N_numbered_machine "numbered_machine" s_numbered_machine f (.ref cc) A outer s H E) (WT K TP nmF) 1 caps_numbered_machine := by
  intro pins sh σ H1 Hf s1 φ v n1 f0 g I gd hcl he
  obtain ⟨q1, mk, f1, c1, hk, rfl, h1, h2⟩ := hcl
  match n1, hk, he with
  | 0, hk, he => cases hk; exact clo_mk (np := 2) (fr := ["steps"]) (scope := (C8.fnScope st_numbered_machine_0)) I gd rfl h1 h2 he rfl rfl rfl free_numbered_machine_0 fr_numbered_machine_0 rfl rfl (cp_numbered_machine_0 M _ _ c1)
  | 1, hk, he => cases hk; exact clo_mk (np := 1) (fr := ["yes"]) (scope := (C8.fnScope st_numbered_machine_1)) I gd rfl h1 h2 he rfl rfl rfl free_numbered_machine_1 fr_numbered_machine_1 rfl rfl (cp_numbered_machine_1 M _ _ c1)
  | 2, hk, he => cases hk; exact clo_mk (np := 1) (fr := ["boxes"]) (scope := (lamS lm_numbered_machine_2)) I gd rfl h1 h2 he rfl rfl rfl free_numbered_machine_2 fr_numbered_machine_2 rfl rfl (cp_numbered_machine_2 M _ _ c1)
  | m + 3, hk, he => cases he
theorem d_numbered_machine {CC : Addr} (M : MG mg) (TB : LamX.TabB base mg CC TP) (C_made_machine : CalG P w0 K mg base 2 "made_machine" (spD (WC P w0 K mg base (WT K TP nmF) 1) 5 D_made_machine)) (room : Room 2 (A.deeper (envOfC "numbered_machine" (defScope s_numbered_machine) s.heap.objs.size f (.ref CC)))) (gd : A.guards = some []) :
    GSs (WT K TP nmF) [1] (bodyCx P w0 K mg base N_numbered_machine "numbered_machine" s_numbered_machine f (.ref CC) A outer s H E) (defBody s_numbered_machine) D_numbered_machine.body := by
  have c : Cok (WM (WT K TP nmF) (ks_numbered_machine (bodyCx P w0 K mg base N_numbered_machine "numbered_machine" s_numbered_machine f (.ref CC) A outer s H E).env.qual (bodyCx P w0 K mg base N_numbered_machine "numbered_machine" s_numbered_machine f (.ref CC) A outer s H E).env.cells)) 2 (bodyCx P w0 K mg base N_numbered_machine "numbered_machine" s_numbered_machine f (.ref CC) A outer s H E) := ⟨rfl, rfl, sc_numbered_machine.nd, room, gd⟩
  simp only [D_numbered_machine]
  refine gss_guard (w' := (WM (WT K TP nmF) (ks_numbered_machine (bodyCx P w0 K mg base N_numbered_machine "numbered_machine" s_numbered_machine f (.ref CC) A outer s H E).env.qual (bodyCx P w0 K mg base N_numbered_machine "numbered_machine" s_numbered_machine f (.ref CC) A outer s H E).env.cells))) rfl rfl ?_
  exact (gss_cons (gs_unp (ge_v 0) (gg_t c (ggs_cons (gg_n 2 c.nd) (ggs_cons (gg_n 3 c.nd) (ggs_cons (gg_n 4 c.nd) (ggs_cons (gg_n 5 c.nd) ggs_nil))))))
    (gss_cons (gs_ndef (st := st_numbered_machine_0) 6 1 0 rfl TB rfl rfl (by kernel_rfl) free_numbered_machine_0 rfl rfl rfl c.nd rfl (Or.inl rfl) (Or.inr rfl) (by decide) (wm_holds rfl))
    (gss_cons (gs_ndef (st := st_numbered_machine_1) 7 1 1 rfl TB rfl rfl (by kernel_rfl) free_numbered_machine_1 rfl rfl rfl c.nd rfl (Or.inl rfl) (Or.inr rfl) (by decide) (wm_holds rfl))
    (gss_cons (gs_ret (ge_callC (wd := (WT K TP nmF)) c C_made_machine rfl (cells_new rfl) (cap_numbered_machine M) (gr_v (ge_v 2) (gr_v ge_int (gr_lam (ge_lam 1 2 TB rfl rfl (by kernel_rfl) rfl free_numbered_machine_2 (wm_holds rfl)) (gr_pass 7 (gr_pass 6 gr_nil))))) rfl (by omega)))
    gss_nil))))
theorem ok_numbered_machine {CC : Addr} (F : L2.Fun K "numbered_machine" "numbered_machine" s_numbered_machine f fd) (hcc : fd.code = .ref CC) (M : MG mg) (TB : LamX.TabB base mg CC TP) (C_made_machine : CalG P w0 K mg base 2 "made_machine" (spD (WC P w0 K mg base (WT K TP nmF) 1) 5 D_made_machine)) : FnG P w0 K mg base (2 + 1) f fd P_numbered_machine (spT (WT K TP nmF) 1 D_numbered_machine) :=
  fnTC_of F hcc sc_numbered_machine rfl (show ([1] : List Nat).Nodup by decide) (show ∀ i ∈ ([1] : List Nat), i < P_numbered_machine.length + 1 by decide) rfl (by decide +kernel) fun A outer s H E room gd => d_numbered_machine M TB C_made_machine room gd
theorem sc_modes_come_to : FnScope N_modes_come_to P_modes_come_to (defScope s_modes_come_to) := ⟨rfl, rfl, rfl, by decide +kernel, rfl, by decide +kernel, by decide +kernel⟩
theorem d_modes_come_to (M : MG mg) (C_numbered_machine : CalG P w0 K mg base 3 "numbered_machine" (spT (WT K TP nmF) 1 D_numbered_machine)) (room : Room 3 (A.deeper (envOfC "modes_come_to" (defScope s_modes_come_to) s.heap.objs.size f cdv))) (gd : A.guards = some []) :
    GSs (WT K TP nmF) [1] (bodyCx P w0 K mg base N_modes_come_to "modes_come_to" s_modes_come_to f cdv A outer s H E) (defBody s_modes_come_to) D_modes_come_to.body := by
  have c : Cok (WT K TP nmF) 3 (bodyCx P w0 K mg base N_modes_come_to "modes_come_to" s_modes_come_to f cdv A outer s H E) := ⟨rfl, rfl, sc_modes_come_to.nd, room, gd⟩
  simp only [D_modes_come_to]
  exact (gss_cons (gs_ret (ge_ix c (ge_callT c C_numbered_machine (grt_v (ge_v 0) (grt_nil 1)) (by omega)) ge_int))
    gss_nil)
theorem ok_modes_come_to (F : L2.Fun K "modes_come_to" "modes_come_to" s_modes_come_to f fd) (M : MG mg) (C_numbered_machine : CalG P w0 K mg base 3 "numbered_machine" (spT (WT K TP nmF) 1 D_numbered_machine)) : FnG P w0 K mg base (3 + 1) f fd P_modes_come_to (spT (WT K TP nmF) 1 D_modes_come_to) :=
  fnT_of F sc_modes_come_to rfl (show ([1] : List Nat).Nodup by decide) (show ∀ i ∈ ([1] : List Nat), i < P_modes_come_to.length + 1 by decide) rfl (by decide +kernel) fun cdv A outer s H E room gd => d_modes_come_to M C_numbered_machine room gd
theorem sc_sign_at : FnScope N_sign_at P_sign_at (defScope s_sign_at) := ⟨rfl, rfl, rfl, by decide +kernel, rfl, by decide +kernel, by decide +kernel⟩
theorem d_sign_at (M : MG mg)  (room : Room 0 (A.deeper (envOfC "sign_at" (defScope s_sign_at) s.heap.objs.size f cdv))) (gd : A.guards = some []) :
    GSs (WT K TP nmF) [] (bodyCx P w0 K mg base N_sign_at "sign_at" s_sign_at f cdv A outer s H E) (defBody s_sign_at) D_sign_at.body := by
  have c : Cok (WT K TP nmF) 0 (bodyCx P w0 K mg base N_sign_at "sign_at" s_sign_at f cdv A outer s H E) := ⟨rfl, rfl, sc_sign_at.nd, room, gd⟩
  simp only [D_sign_at]
  exact (gss_cons (gs_unp (ge_v 0) (gg_t c (ggs_cons (gg_n 3 c.nd) (ggs_cons (gg_n 4 c.nd) (ggs_cons (gg_n 5 c.nd) (ggs_cons (gg_n 6 c.nd) ggs_nil))))))
    (gss_cons (gs_if (gb_in c (ge_v 2) (ge_v 3)) (gss_cons (gs_ret (ge_index c (ge_v 3) (ge_v 2)))
    gss_nil) gss_nil)
    (gss_cons (gs_ret (ge_add c (ge_len M.n_len c (ge_v 3)) (ge_if (gb_in c (ge_v 2) (ge_ix c (ge_v 1) ge_int)) (ge_index c (ge_ix c (ge_v 1) ge_int) (ge_v 2)) (ge_len M.n_len c (ge_ix c (ge_v 1) ge_int)))))
    gss_nil)))
theorem ok_sign_at (F : L2.Fun K "sign_at" "sign_at" s_sign_at f fd) (M : MG mg)  : FnG P w0 K mg base (0 + 1) f fd P_sign_at (spD (WT K TP nmF) 3 D_sign_at) :=
  fnD_of F sc_sign_at rfl (show ([] : List Nat).Nodup by decide) (show ∀ i ∈ ([] : List Nat), i < P_sign_at.length by decide) fun cdv A outer s H E room gd => d_sign_at M  room gd
theorem sc_stand_behind : FnScope N_stand_behind P_stand_behind (defScope s_stand_behind) := ⟨rfl, rfl, rfl, by decide +kernel, rfl, by decide +kernel, by decide +kernel⟩
theorem d_stand_behind (M : MG mg) (C_sign_at : CalG P w0 K mg base 1 "sign_at" (spD (WT K TP nmF) 3 D_sign_at)) (room : Room 1 (A.deeper (envOfC "stand_behind" (defScope s_stand_behind) s.heap.objs.size f cdv))) (gd : A.guards = some []) :
    GSs (WT K TP nmF) [] (bodyCx P w0 K mg base N_stand_behind "stand_behind" s_stand_behind f cdv A outer s H E) (defBody s_stand_behind) D_stand_behind.body := by
  have c : Cok (WT K TP nmF) 1 (bodyCx P w0 K mg base N_stand_behind "stand_behind" s_stand_behind f cdv A outer s H E) := ⟨rfl, rfl, sc_stand_behind.nd, room, gd⟩
  simp only [D_stand_behind]
  exact (gss_cons (gs_set 3 c.nd (ge_call c C_sign_at (gr_v (ge_v 0) (gr_v (ge_v 1) (gr_v (ge_v 2) gr_nil))) (by omega)))
    (gss_cons (gs_set 4 c.nd (ge_tup (ga_star c (ge_ix c (ge_v 0) ge_int) (ga_star c (ge_ix c (ge_v 1) ge_int) (ga_cons (ge_v 2) ga_nil)))))
    (gss_cons (gs_unp (ge_ix c (ge_ix c (ge_ix c (ge_v 0) ge_int) (ge_ix c (ge_v 1) ge_int)) (ge_v 3)) (gg_t c (ggs_cons (gg_n 5 c.nd) (ggs_cons (gg_n 6 c.nd) (ggs_cons (gg_n 7 c.nd) ggs_nil)))))
    (gss_cons (gs_ret (ge_tup (ga_cons (ge_tuple M.n_tuple c (ge_lc [("thing", 8)] c (gi_seq c (ge_v 5)) (by kernel_rfl) (fun _ _ _ _ _ => (gg_n 8 c.blk.nd)) (fun _ _ _ _ _ => gc_no) (fun _ _ _ _ _ => (ge_ix c.blk (ge_v 4) (ge_v 8))))) (ga_cons (ge_tup (ga_cons (ge_v 6) (ga_cons (ge_tuple M.n_tuple c (ge_lc [("thing", 8)] c (gi_seq c (ge_v 7)) (by kernel_rfl) (fun _ _ _ _ _ => (gg_n 8 c.blk.nd)) (fun _ _ _ _ _ => gc_no) (fun _ _ _ _ _ => (ge_ix c.blk (ge_v 4) (ge_v 8))))) ga_nil))) ga_nil))))
    gss_nil))))
theorem ok_stand_behind (F : L2.Fun K "stand_behind" "stand_behind" s_stand_behind f fd) (M : MG mg) (C_sign_at : CalG P w0 K mg base 1 "sign_at" (spD (WT K TP nmF) 3 D_sign_at)) : FnG P w0 K mg base (1 + 1) f fd P_stand_behind (spD (WT K TP nmF) 3 D_stand_behind) :=
  fnD_of F sc_stand_behind rfl (show ([] : List Nat).Nodup by decide) (show ∀ i ∈ ([] : List Nat), i < P_stand_behind.length by decide) fun cdv A outer s H E room gd => d_stand_behind M C_sign_at room gd
theorem sc_run_of : FnScope N_run_of P_run_of (defScope s_run_of) := ⟨rfl, rfl, rfl, by decide +kernel, rfl, by decide +kernel, by decide +kernel⟩
theorem d_run_of (M : MG mg) (C_stand_behind : CalG P w0 K mg base 2 "stand_behind" (spD (WT K TP nmF) 3 D_stand_behind)) (room : Room 2 (A.deeper (envOfC "run_of" (defScope s_run_of) s.heap.objs.size f cdv))) (gd : A.guards = some []) :
    GSs (WT K TP nmF) [] (bodyCx P w0 K mg base N_run_of "run_of" s_run_of f cdv A outer s H E) (defBody s_run_of) D_run_of.body := by
  have c : Cok (WT K TP nmF) 2 (bodyCx P w0 K mg base N_run_of "run_of" s_run_of f cdv A outer s H E) := ⟨rfl, rfl, sc_run_of.nd, room, gd⟩
  simp only [D_run_of]
  exact (gss_cons (gs_par2 c.nd c 2 3 (gl_cons (ge_lst ga_nil) (gl_cons (ge_lst (ga_cons (ge_tup (ga_cons ge_int (ga_cons (ge_tup ga_nil) ga_nil))) ga_nil)) gl_nil)))
    (gss_cons (gs_for c PassesOwn.never (gi_seq c (ge_v 1)) (gg_n 4 c.nd) (gss_cons (gs_unp (ge_call c C_stand_behind (gr_v (ge_v 0) (gr_v (ge_ix c (ge_v 3) (ge_neg ge_int)) (gr_v (ge_v 4) gr_nil))) (by omega)) (gg_t c (ggs_cons (gg_n 5 c.nd) (ggs_cons (gg_n 6 c.nd) ggs_nil))))
    (gss_cons (gs_drop (ge_app 2 (ge_v 5)))
    (gss_cons (gs_drop (ge_app 3 (ge_v 6)))
    gss_nil))))
    (gss_cons (gs_ret (ge_tup (ga_cons (ge_tuple M.n_tuple c (ge_v 2)) (ga_cons (ge_tuple M.n_tuple c (ge_v 3)) ga_nil))))
    gss_nil)))
theorem ok_run_of (F : L2.Fun K "run_of" "run_of" s_run_of f fd) (M : MG mg) (C_stand_behind : CalG P w0 K mg base 2 "stand_behind" (spD (WT K TP nmF) 3 D_stand_behind)) : FnG P w0 K mg base (2 + 1) f fd P_run_of (spD (WT K TP nmF) 2 D_run_of) :=
  fnD_of F sc_run_of rfl (show ([] : List Nat).Nodup by decide) (show ∀ i ∈ ([] : List Nat), i < P_run_of.length by decide) fun cdv A outer s H E room gd => d_run_of M C_stand_behind room gd
theorem sc_answers_of : FnScope N_answers_of P_answers_of (defScope s_answers_of) := ⟨rfl, rfl, rfl, by decide +kernel, rfl, by decide +kernel, by decide +kernel⟩
theorem d_answers_of (M : MG mg) (C_run_of : CalG P w0 K mg base 3 "run_of" (spD (WT K TP nmF) 2 D_run_of)) (room : Room 3 (A.deeper (envOfC "answers_of" (defScope s_answers_of) s.heap.objs.size f cdv))) (gd : A.guards = some []) :
    GSs (WT K TP nmF) [] (bodyCx P w0 K mg base N_answers_of "answers_of" s_answers_of f cdv A outer s H E) (defBody s_answers_of) D_answers_of.body := by
  have c : Cok (WT K TP nmF) 3 (bodyCx P w0 K mg base N_answers_of "answers_of" s_answers_of f cdv A outer s H E) := ⟨rfl, rfl, sc_answers_of.nd, room, gd⟩
  simp only [D_answers_of]
  exact (gss_cons (gs_ret (ge_ix c (ge_call c C_run_of (gr_v (ge_v 0) (gr_v (ge_v 1) gr_nil)) (by omega)) ge_int))
    gss_nil)
theorem ok_answers_of (F : L2.Fun K "answers_of" "answers_of" s_answers_of f fd) (M : MG mg) (C_run_of : CalG P w0 K mg base 3 "run_of" (spD (WT K TP nmF) 2 D_run_of)) : FnG P w0 K mg base (3 + 1) f fd P_answers_of (spD (WT K TP nmF) 2 D_answers_of) :=
  fnD_of F sc_answers_of rfl (show ([] : List Nat).Nodup by decide) (show ∀ i ∈ ([] : List Nat), i < P_answers_of.length by decide) fun cdv A outer s H E room gd => d_answers_of M C_run_of room gd
theorem sc_law : FnScope N_law P_law (defScope s_law) := ⟨rfl, rfl, rfl, by decide +kernel, rfl, by decide +kernel, by decide +kernel⟩
theorem d_law (M : MG mg) (C_u_law_source : CalG P w0 K mg base 1 "_law_source" (spD (WT K TP nmF) 1 D_u_law_source)) (C_u_law_words : CalG P w0 K mg base 3 "_law_words" (spD (WT K TP nmF) 1 D_u_law_words)) (C_u_law_machine : CalG P w0 K mg base 3 "_law_machine" (spD (WT K TP nmF) 3 D_u_law_machine)) (C_u_law_numbered : CalG P w0 K mg base 1 "_law_numbered" (spD (WT K TP nmF) 2 D_u_law_numbered)) (C_u_law_come_to : CalG P w0 K mg base 1 "_law_come_to" (spD (WT K TP nmF) 1 D_u_law_come_to)) (C_numbered_machine : CalG P w0 K mg base 3 "numbered_machine" (spT (WT K TP nmF) 1 D_numbered_machine)) (C_modes_come_to : CalG P w0 K mg base 4 "modes_come_to" (spT (WT K TP nmF) 1 D_modes_come_to)) (C_u_law_of : CalG P w0 K mg base 2 "_law_of" (spD (WT K TP nmF) 2 D_u_law_of)) (C_answers_of : CalG P w0 K mg base 4 "answers_of" (spD (WT K TP nmF) 2 D_answers_of)) (C_u_law_pick : CalG P w0 K mg base 1 "_law_pick" (spD (WT K TP nmF) 2 D_u_law_pick)) (room : Room 4 (A.deeper (envOfC "law" (defScope s_law) s.heap.objs.size f cdv))) (gd : A.guards = some []) :
    GSs (WT K TP nmF) [1] (bodyCx P w0 K mg base N_law "law" s_law f cdv A outer s H E) (defBody s_law) D_law.body := by
  have c : Cok (WT K TP nmF) 4 (bodyCx P w0 K mg base N_law "law" s_law f cdv A outer s H E) := ⟨rfl, rfl, sc_law.nd, room, gd⟩
  simp only [D_law]
  exact (gss_cons (gs_set 2 c.nd (ge_call c C_u_law_source (gr_pass 0 gr_nil) (by omega)))
    (gss_cons (gs_for c PassesOwn.never (gi_rg1 M.n_range ge_int) (gg_n 3 c.nd) (gss_cons (gs_set 5 c.nd (ge_call c C_u_law_words (gr_io 2 gr_nil) (by omega)))
    (gss_cons (gs_set 6 c.nd (ge_call c C_u_law_machine (gr_io 2 (gr_v (ge_v 5) (gr_v ge_int gr_nil))) (by omega)))
    (gss_cons (gs_par2 c.nd c 7 8 (gl_cons (ge_call c C_u_law_come_to (gr_v (ge_v 6) gr_nil) (by omega)) (gl_cons (ge_repr M.n_repr c (ge_v 6)) gl_nil)))
    (gss_cons (gs_set 9 c.nd (ge_call c C_u_law_numbered (gr_v (ge_v 6) (gr_v (ge_v 7) gr_nil)) (by omega)))
    (gss_cons (gs_if (gb_neS (ge_repr M.n_repr c (ge_callT c C_modes_come_to (grt_v (ge_v 6) (grt_nil 1)) (by omega))) (ge_repr M.n_repr c (ge_tuple M.n_tuple c (ge_v 7)))) (gss_cons (gs_ret ge_bl)
    gss_nil) gss_nil)
    (gss_cons (gs_if (gb_neS (ge_repr M.n_repr c (ge_callT c C_numbered_machine (grt_v (ge_v 6) (grt_nil 1)) (by omega))) (ge_repr M.n_repr c (ge_tup (ga_cons (ge_v 9) (ga_cons (ge_tuple M.n_tuple c (ge_v 7)) ga_nil))))) (gss_cons (gs_ret ge_bl)
    gss_nil) gss_nil)
    (gss_cons (gs_if (gb_neS (ge_repr M.n_repr c (ge_v 6)) (ge_v 8)) (gss_cons (gs_ret ge_bl)
    gss_nil) gss_nil)
    (gss_cons (gs_for c PassesOwn.never (gi_rg1 M.n_range ge_int) (gg_n 10 c.nd) (gss_cons (gs_set 11 c.nd (ge_tuple M.n_tuple c (ge_lc [("k", 12)] c (gi_rg1 M.n_range (ge_call c C_u_law_pick (gr_io 2 (gr_v ge_int gr_nil)) (by omega))) (by kernel_rfl) (fun _ _ _ _ _ => (gg_n 12 c.blk.nd)) (fun _ _ _ _ _ => gc_no) (fun _ _ _ _ _ => (ge_call c.blk C_u_law_of (gr_io 2 (gr_v (ge_add c.blk (ge_lst (ga_cons ge_str (ga_cons ge_str (ga_cons ge_str (ga_cons ge_str ga_nil))))) (ge_list M.n_list c.blk (ge_v 5))) gr_nil)) (by omega))))))
    (gss_cons (gs_if (gb_neS (ge_repr M.n_repr c (ge_call c C_answers_of (gr_v (ge_v 6) (gr_v (ge_v 11) gr_nil)) (by omega))) (ge_repr M.n_repr c (ge_call c C_answers_of (gr_v (ge_v 9) (gr_v (ge_v 11) gr_nil)) (by omega)))) (gss_cons (gs_ret ge_bl)
    gss_nil) gss_nil)
    gss_nil)))
    gss_nil)))))))))
    (gss_cons (gs_set 4 c.nd (ge_tup (ga_cons (ge_tup ga_nil) (ga_cons (ge_mul c (ge_tup (ga_cons ge_int ga_nil)) ge_int) (ga_cons (ge_tup (ga_cons ge_int (ga_cons ge_int ga_nil))) (ga_cons (ge_tuple M.n_tuple c (ge_lc [("k", 12)] c (gi_rg1 M.n_range ge_int) (by kernel_rfl) (fun _ _ _ _ _ => (gg_n 12 c.blk.nd)) (fun _ _ _ _ _ => gc_no) (fun _ _ _ _ _ => (ge_tup (ga_cons (ge_tup (ga_cons (ge_tup ga_nil) (ga_cons (ge_mod (ge_intF M.n_int (ge_add c.blk (ge_v 12) ge_int)) ge_int) (ga_cons (ge_tup ga_nil) ga_nil)))) ga_nil))))) ga_nil))))))
    (gss_cons (gs_ret (ge_and (ge_eq c (ge_callT c C_numbered_machine (grt_v (ge_v 4) (grt_nil 1)) (by omega)) (ge_tup (ga_cons (ge_v 4) (ga_cons (ge_trg1 M.n_tuple M.n_range c ge_int) ga_nil)))) (ge_one (ge_eq c (ge_callT c C_modes_come_to (grt_v (ge_v 4) (grt_nil 1)) (by omega)) (ge_trg1 M.n_tuple M.n_range c ge_int)))))
    gss_nil))))
theorem ok_law (F : L2.Fun K "law" "law" s_law f fd) (M : MG mg) (C_u_law_source : CalG P w0 K mg base 1 "_law_source" (spD (WT K TP nmF) 1 D_u_law_source)) (C_u_law_words : CalG P w0 K mg base 3 "_law_words" (spD (WT K TP nmF) 1 D_u_law_words)) (C_u_law_machine : CalG P w0 K mg base 3 "_law_machine" (spD (WT K TP nmF) 3 D_u_law_machine)) (C_u_law_numbered : CalG P w0 K mg base 1 "_law_numbered" (spD (WT K TP nmF) 2 D_u_law_numbered)) (C_u_law_come_to : CalG P w0 K mg base 1 "_law_come_to" (spD (WT K TP nmF) 1 D_u_law_come_to)) (C_numbered_machine : CalG P w0 K mg base 3 "numbered_machine" (spT (WT K TP nmF) 1 D_numbered_machine)) (C_modes_come_to : CalG P w0 K mg base 4 "modes_come_to" (spT (WT K TP nmF) 1 D_modes_come_to)) (C_u_law_of : CalG P w0 K mg base 2 "_law_of" (spD (WT K TP nmF) 2 D_u_law_of)) (C_answers_of : CalG P w0 K mg base 4 "answers_of" (spD (WT K TP nmF) 2 D_answers_of)) (C_u_law_pick : CalG P w0 K mg base 1 "_law_pick" (spD (WT K TP nmF) 2 D_u_law_pick)) : FnG P w0 K mg base (4 + 1) f fd P_law (spT (WT K TP nmF) 1 D_law) :=
  fnT_of F sc_law rfl (show ([1] : List Nat).Nodup by decide) (show ∀ i ∈ ([1] : List Nat), i < P_law.length + 1 by decide) rfl (by decide +kernel) fun cdv A outer s H E room gd => d_law M C_u_law_source C_u_law_words C_u_law_machine C_u_law_numbered C_u_law_come_to C_numbered_machine C_modes_come_to C_u_law_of C_answers_of C_u_law_pick room gd
end
/-- a def of the module as the top has written it -/
structure At (K : PySem.W.Frag) (mg : Str → Option Value) (x : Str) (st : Stmt) (ps : List Str) : Prop where
  ex : ∃ (f : Addr) (fd : FuncData), L2.Fun K x x st f fd ∧ mg x = some (.ref f) ∧ Binds K fd ps []
theorem at_mk {K : PySem.W.Frag} {mg : Str → Option Value} {hp : Heap} (KX : K.In hp) (G : hp.Ns mainGlobals mg) {x : Str} {st : Stmt} {ps : List Str} {f : Addr} {oc : Value} {od an : Option Addr} {osl : Array (Option Value)} {kV doc pm cdv ct : Value}
    (a : PySem.W.nsIn K mainGlobals x = some (some (.ref f))) (l : K.lookup f = some ⟨oc, od, .func (PySem.W.fnOf x x (defArgs st) (defBody st) (defScope st) .none kV doc pm an cdv ct), osl⟩) (c : PySem.W.codeIn K cdv x = true) (k : PySem.W.keepIn K (.ref f) = true)
    (hb : ∀ (kV doc pm : Value) (an : Option Addr) (cdv ct : Value) (us : List Value), us.length = ps.length → bindArgs (PySem.W.fnOf x x (defArgs st) (defBody st) (defScope st) .none kV doc pm an cdv ct) ⟨us, []⟩ = pure (ps.zip us)) : At K mg x st ps :=
  ⟨f, _, fun_mk l c k, PySem.W.mg_of KX G a, (fun_mk l c k).binds hb⟩
structure AtC (K : PySem.W.Frag) (mg : Str → Option Value) (x : Str) (st : Stmt) (ps : List Str) (cc : Addr) : Prop where
  ex : ∃ (f : Addr) (fd : FuncData), L2.Fun K x x st f fd ∧ mg x = some (.ref f) ∧ Binds K fd ps [] ∧ fd.code = .ref cc
theorem atC_mk {K : PySem.W.Frag} {mg : Str → Option Value} {hp : Heap} (KX : K.In hp) (G : hp.Ns mainGlobals mg) {x : Str} {st : Stmt} {ps : List Str} {f cc : Addr} {oc : Value} {od an : Option Addr} {osl : Array (Option Value)} {kV doc pm ct : Value}
    (a : PySem.W.nsIn K mainGlobals x = some (some (.ref f))) (l : K.lookup f = some ⟨oc, od, .func (PySem.W.fnOf x x (defArgs st) (defBody st) (defScope st) .none kV doc pm an (.ref cc) ct), osl⟩) (c : PySem.W.codeIn K (.ref cc) x = true) (k : PySem.W.keepIn K (.ref f) = true)
    (hb : ∀ (kV doc pm : Value) (an : Option Addr) (cdv ct : Value) (us : List Value), us.length = ps.length → bindArgs (PySem.W.fnOf x x (defArgs st) (defBody st) (defScope st) .none kV doc pm an cdv ct) ⟨us, []⟩ = pure (ps.zip us)) : AtC K mg x st ps cc :=
  ⟨f, _, fun_mk l c k, PySem.W.mg_of KX G a, (fun_mk l c k).binds hb, rfl⟩
theorem law_ok {P : Program} {w0 : World} {K : PySem.W.Frag} {mg : Str → Option Value} {fa CC TP : Addr} (M : MG mg) (hfa : mg "law" = some (.ref fa)) (A_u_law_source : At K mg "_law_source" s_u_law_source P_u_law_source) (A_u_law_pick : At K mg "_law_pick" s_u_law_pick P_u_law_pick) (A_u_law_of : At K mg "_law_of" s_u_law_of P_u_law_of) (A_u_law_words : At K mg "_law_words" s_u_law_words P_u_law_words) (A_u_law_mixed : At K mg "_law_mixed" s_u_law_mixed P_u_law_mixed) (A_u_law_machine : At K mg "_law_machine" s_u_law_machine P_u_law_machine) (A_u_law_numbered : At K mg "_law_numbered" s_u_law_numbered P_u_law_numbered) (A_u_law_come_to : At K mg "_law_come_to" s_u_law_come_to P_u_law_come_to) (A_made_machine : At K mg "made_machine" s_made_machine P_made_machine) (A_numbered_machine : AtC K mg "numbered_machine" s_numbered_machine P_numbered_machine CC) (A_modes_come_to : At K mg "modes_come_to" s_modes_come_to P_modes_come_to) (A_sign_at : At K mg "sign_at" s_sign_at P_sign_at) (A_stand_behind : At K mg "stand_behind" s_stand_behind P_stand_behind) (A_run_of : At K mg "run_of" s_run_of P_run_of) (A_answers_of : At K mg "answers_of" s_answers_of P_answers_of) (A_law : At K mg "law" s_law P_law) :
    ∃ fd : FuncData, (∀ (s : Shared) (u : Value), BindsTo s fd ⟨[u], []⟩ [("script", u)]) ∧ ∀ base : Heap, K.In base → base.Ns mainGlobals mg → LamX.TabB base mg CC TP → FnG P w0 K mg base 5 fa fd ["script"] (spT (WT K TP nmF) 1 D_law) := by
  obtain ⟨f_u_law_source, fd_u_law_source, F_u_law_source, m_u_law_source, b_u_law_source⟩ := A_u_law_source.ex
  obtain ⟨f_u_law_pick, fd_u_law_pick, F_u_law_pick, m_u_law_pick, b_u_law_pick⟩ := A_u_law_pick.ex
  obtain ⟨f_u_law_of, fd_u_law_of, F_u_law_of, m_u_law_of, b_u_law_of⟩ := A_u_law_of.ex
  obtain ⟨f_u_law_words, fd_u_law_words, F_u_law_words, m_u_law_words, b_u_law_words⟩ := A_u_law_words.ex
  obtain ⟨f_u_law_mixed, fd_u_law_mixed, F_u_law_mixed, m_u_law_mixed, b_u_law_mixed⟩ := A_u_law_mixed.ex
  obtain ⟨f_u_law_machine, fd_u_law_machine, F_u_law_machine, m_u_law_machine, b_u_law_machine⟩ := A_u_law_machine.ex
  obtain ⟨f_u_law_numbered, fd_u_law_numbered, F_u_law_numbered, m_u_law_numbered, b_u_law_numbered⟩ := A_u_law_numbered.ex
  obtain ⟨f_u_law_come_to, fd_u_law_come_to, F_u_law_come_to, m_u_law_come_to, b_u_law_come_to⟩ := A_u_law_come_to.ex
  obtain ⟨f_made_machine, fd_made_machine, F_made_machine, m_made_machine, b_made_machine⟩ := A_made_machine.ex
  obtain ⟨f_numbered_machine, fd_numbered_machine, F_numbered_machine, m_numbered_machine, b_numbered_machine, hcc_numbered_machine⟩ := A_numbered_machine.ex
  obtain ⟨f_modes_come_to, fd_modes_come_to, F_modes_come_to, m_modes_come_to, b_modes_come_to⟩ := A_modes_come_to.ex
  obtain ⟨f_sign_at, fd_sign_at, F_sign_at, m_sign_at, b_sign_at⟩ := A_sign_at.ex
  obtain ⟨f_stand_behind, fd_stand_behind, F_stand_behind, m_stand_behind, b_stand_behind⟩ := A_stand_behind.ex
  obtain ⟨f_run_of, fd_run_of, F_run_of, m_run_of, b_run_of⟩ := A_run_of.ex
  obtain ⟨f_answers_of, fd_answers_of, F_answers_of, m_answers_of, b_answers_of⟩ := A_answers_of.ex
  obtain ⟨f_law, fd_law, F_law, m_law, b_law⟩ := A_law.ex
  rw [m_law] at hfa
  cases hfa
  refine ⟨fd_law, fun s u => ?_, fun base KB _ TB => ?_⟩
  · obtain ⟨oc, od, kV, doc, pm, an, cdv, ct, osl, rfl, _⟩ := F_law.ex
    exact .of_eq rfl
  · have C_u_law_source : CalG P w0 K mg base 1 "_law_source" (spD (WT K TP nmF) 1 D_u_law_source) := ⟨f_u_law_source, fd_u_law_source, P_u_law_source, ok_u_law_source F_u_law_source M , m_u_law_source, F_u_law_source.kp, b_u_law_source⟩
    have C_u_law_pick : CalG P w0 K mg base 1 "_law_pick" (spD (WT K TP nmF) 2 D_u_law_pick) := ⟨f_u_law_pick, fd_u_law_pick, P_u_law_pick, ok_u_law_pick F_u_law_pick M , m_u_law_pick, F_u_law_pick.kp, b_u_law_pick⟩
    have C_u_law_of : CalG P w0 K mg base 2 "_law_of" (spD (WT K TP nmF) 2 D_u_law_of) := ⟨f_u_law_of, fd_u_law_of, P_u_law_of, ok_u_law_of F_u_law_of M C_u_law_pick, m_u_law_of, F_u_law_of.kp, b_u_law_of⟩
    have C_u_law_words : CalG P w0 K mg base 3 "_law_words" (spD (WT K TP nmF) 1 D_u_law_words) := ⟨f_u_law_words, fd_u_law_words, P_u_law_words, ok_u_law_words F_u_law_words M C_u_law_of, m_u_law_words, F_u_law_words.kp, b_u_law_words⟩
    have C_u_law_mixed : CalG P w0 K mg base 2 "_law_mixed" (spD (WT K TP nmF) 2 D_u_law_mixed) := ⟨f_u_law_mixed, fd_u_law_mixed, P_u_law_mixed, ok_u_law_mixed F_u_law_mixed M C_u_law_pick, m_u_law_mixed, F_u_law_mixed.kp, b_u_law_mixed⟩
    have C_u_law_machine : CalG P w0 K mg base 3 "_law_machine" (spD (WT K TP nmF) 3 D_u_law_machine) := ⟨f_u_law_machine, fd_u_law_machine, P_u_law_machine, ok_u_law_machine F_u_law_machine M C_u_law_of C_u_law_mixed C_u_law_pick, m_u_law_machine, F_u_law_machine.kp, b_u_law_machine⟩
    have C_u_law_numbered : CalG P w0 K mg base 1 "_law_numbered" (spD (WT K TP nmF) 2 D_u_law_numbered) := ⟨f_u_law_numbered, fd_u_law_numbered, P_u_law_numbered, ok_u_law_numbered F_u_law_numbered M , m_u_law_numbered, F_u_law_numbered.kp, b_u_law_numbered⟩
    have C_u_law_come_to : CalG P w0 K mg base 1 "_law_come_to" (spD (WT K TP nmF) 1 D_u_law_come_to) := ⟨f_u_law_come_to, fd_u_law_come_to, P_u_law_come_to, ok_u_law_come_to F_u_law_come_to M , m_u_law_come_to, F_u_law_come_to.kp, b_u_law_come_to⟩
    have C_made_machine : CalG P w0 K mg base 2 "made_machine" (spD (WC P w0 K mg base (WT K TP nmF) 1) 5 D_made_machine) := ⟨f_made_machine, fd_made_machine, P_made_machine, ok_made_machine F_made_machine M , m_made_machine, F_made_machine.kp, b_made_machine⟩
    have C_numbered_machine : CalG P w0 K mg base 3 "numbered_machine" (spT (WT K TP nmF) 1 D_numbered_machine) := ⟨f_numbered_machine, fd_numbered_machine, P_numbered_machine, ok_numbered_machine F_numbered_machine hcc_numbered_machine M TB C_made_machine, m_numbered_machine, F_numbered_machine.kp, b_numbered_machine⟩
    have C_modes_come_to : CalG P w0 K mg base 4 "modes_come_to" (spT (WT K TP nmF) 1 D_modes_come_to) := ⟨f_modes_come_to, fd_modes_come_to, P_modes_come_to, ok_modes_come_to F_modes_come_to M C_numbered_machine, m_modes_come_to, F_modes_come_to.kp, b_modes_come_to⟩
    have C_sign_at : CalG P w0 K mg base 1 "sign_at" (spD (WT K TP nmF) 3 D_sign_at) := ⟨f_sign_at, fd_sign_at, P_sign_at, ok_sign_at F_sign_at M , m_sign_at, F_sign_at.kp, b_sign_at⟩
    have C_stand_behind : CalG P w0 K mg base 2 "stand_behind" (spD (WT K TP nmF) 3 D_stand_behind) := ⟨f_stand_behind, fd_stand_behind, P_stand_behind, ok_stand_behind F_stand_behind M C_sign_at, m_stand_behind, F_stand_behind.kp, b_stand_behind⟩
    have C_run_of : CalG P w0 K mg base 3 "run_of" (spD (WT K TP nmF) 2 D_run_of) := ⟨f_run_of, fd_run_of, P_run_of, ok_run_of F_run_of M C_stand_behind, m_run_of, F_run_of.kp, b_run_of⟩
    have C_answers_of : CalG P w0 K mg base 4 "answers_of" (spD (WT K TP nmF) 2 D_answers_of) := ⟨f_answers_of, fd_answers_of, P_answers_of, ok_answers_of F_answers_of M C_run_of, m_answers_of, F_answers_of.kp, b_answers_of⟩
    exact ok_law F_law M C_u_law_source C_u_law_words C_u_law_machine C_u_law_numbered C_u_law_come_to C_numbered_machine C_modes_come_to C_u_law_of C_answers_of C_u_law_pick
end K11

set_option Elab.async false
set_option linter.all false
set_option maxRecDepth 100000
set_option maxHeartbeats 4000000
namespace K11
open PySem KV
theorem pick_turn (S1 : Src) (n : Int) (s : Sl) (hs : s = [some (.src S1), some (.val (.int n)), none, none]) :
    ((bAnd (bVal (k2 pGt (kX 1) (kC (.int 1)))) (bAnd (bVal (k2 pLt (kSGet 0 .left) (kC (.int 2)))) (bVal (k2 pGt (kSLen 0) (kC (.int 0)))))) s).W fun r =>
      if r.1 = true then ((sCons (sSPut 0 .left (kSPop 0)) sNil) r.2).W fun q => (q.1 = .nx ∨ q.1 = .ct) ∧ ∃ m', m' < S1.cells.length ∧ ∃ S2 : Src, q.2 = [some (.src S2), some (.val (.int n)), none, none] ∧ S2.cells.length = m'
      else r.2 = s := by
  subst hs
  simp only [run_mk, List.map_cons, List.map_nil, List.length_cons, List.length_nil, List.cons_append, List.nil_append, List.replicate_succ, List.replicate_zero, Nat.reduceAdd, Nat.reduceSub, List.getElem?_cons_zero, List.getElem?_cons_succ, List.set_cons_zero, List.set_cons_succ, R.bind_ok, sCons, sNil, sIf, sRet, retL, dropL, sSet, setL, sDrop, sUnp, sPar, lNil, lCons, kF, putL, gN, gT, gAll, kC, kX, kD, kG, kS, scl, k1, k2, L.get, L.take, T.toD, aNil, aCons, kTup, kLst, bVal, bAnd, bOr, bNot, kAnd, kOr, kNot, kIf, boolOf, kCall, cNil, cV, cMv, cPass, lend, back, resL, outs, endOf, srcAt, kSGet, kSLen, kInt, SF.get, SF.put, bl, nm, if_true, if_false, Bool.false_eq_true, Bool.not_true, Bool.not_false, pGt, pLt]
  by_cases h1 : (1 : Int) < n
  · simp only [h1, decide_true, run_mk, List.map_cons, List.map_nil, List.length_cons, List.length_nil, List.cons_append, List.nil_append, List.replicate_succ, List.replicate_zero, Nat.reduceAdd, Nat.reduceSub, List.getElem?_cons_zero, List.getElem?_cons_succ, List.set_cons_zero, List.set_cons_succ, R.bind_ok, sCons, sNil, sIf, sRet, retL, dropL, sSet, setL, sDrop, sUnp, sPar, lNil, lCons, kF, putL, gN, gT, gAll, kC, kX, kD, kG, kS, scl, k1, k2, L.get, L.take, T.toD, aNil, aCons, kTup, kLst, bVal, bAnd, bOr, bNot, kAnd, kOr, kNot, kIf, boolOf, kCall, cNil, cV, cMv, cPass, lend, back, resL, outs, endOf, srcAt, kSGet, kSLen, kInt, SF.get, SF.put, bl, nm, if_true, if_false, Bool.false_eq_true, Bool.not_true, Bool.not_false]
    by_cases h2 : S1.left < 2
    · simp only [h2, decide_true, run_mk, List.map_cons, List.map_nil, List.length_cons, List.length_nil, List.cons_append, List.nil_append, List.replicate_succ, List.replicate_zero, Nat.reduceAdd, Nat.reduceSub, List.getElem?_cons_zero, List.getElem?_cons_succ, List.set_cons_zero, List.set_cons_succ, R.bind_ok, sCons, sNil, sIf, sRet, retL, dropL, sSet, setL, sDrop, sUnp, sPar, lNil, lCons, kF, putL, gN, gT, gAll, kC, kX, kD, kG, kS, scl, k1, k2, L.get, L.take, T.toD, aNil, aCons, kTup, kLst, bVal, bAnd, bOr, bNot, kAnd, kOr, kNot, kIf, boolOf, kCall, cNil, cV, cMv, cPass, lend, back, resL, outs, endOf, srcAt, kSGet, kSLen, kInt, SF.get, SF.put, bl, nm, if_true, if_false, Bool.false_eq_true, Bool.not_true, Bool.not_false]
      by_cases h3 : (0 : Int) < S1.cells.length
      · simp only [h3, decide_true, run_mk, List.map_cons, List.map_nil, List.length_cons, List.length_nil, List.cons_append, List.nil_append, List.replicate_succ, List.replicate_zero, Nat.reduceAdd, Nat.reduceSub, List.getElem?_cons_zero, List.getElem?_cons_succ, List.set_cons_zero, List.set_cons_succ, R.bind_ok, sCons, sNil, sIf, sRet, retL, dropL, sSet, setL, sDrop, sUnp, sPar, lNil, lCons, kF, putL, gN, gT, gAll, kC, kX, kD, kG, kS, scl, k1, k2, L.get, L.take, T.toD, aNil, aCons, kTup, kLst, bVal, bAnd, bOr, bNot, kAnd, kOr, kNot, kIf, boolOf, kCall, cNil, cV, cMv, cPass, lend, back, resL, outs, endOf, srcAt, kSGet, kSLen, kInt, SF.get, SF.put, bl, nm, if_true, if_false, Bool.false_eq_true, Bool.not_true, Bool.not_false, R.W_ok]
        have hl : S1.cells.length - 1 < S1.cells.length := by omega
        simp only [sSPut, kSPop, run_mk, List.map_cons, List.map_nil, List.length_cons, List.length_nil, List.cons_append, List.nil_append, List.replicate_succ, List.replicate_zero, Nat.reduceAdd, Nat.reduceSub, List.getElem?_cons_zero, List.getElem?_cons_succ, List.set_cons_zero, List.set_cons_succ, R.bind_ok, sCons, sNil, sIf, sRet, retL, dropL, sSet, setL, sDrop, sUnp, sPar, lNil, lCons, kF, putL, gN, gT, gAll, kC, kX, kD, kG, kS, scl, k1, k2, L.get, L.take, T.toD, aNil, aCons, kTup, kLst, bVal, bAnd, bOr, bNot, kAnd, kOr, kNot, kIf, boolOf, kCall, cNil, cV, cMv, cPass, lend, back, resL, outs, endOf, srcAt, kSGet, kSLen, kInt, SF.get, SF.put, bl, nm, if_true, if_false, Bool.false_eq_true, Bool.not_true, Bool.not_false, List.getElem?_eq_getElem hl, R.W_ok]
        refine ⟨.inl trivial, S1.cells.length - 1, hl, _, rfl, ?_⟩
        simp
      · simp only [h3, decide_false, run_mk, List.map_cons, List.map_nil, List.length_cons, List.length_nil, List.cons_append, List.nil_append, List.replicate_succ, List.replicate_zero, Nat.reduceAdd, Nat.reduceSub, List.getElem?_cons_zero, List.getElem?_cons_succ, List.set_cons_zero, List.set_cons_succ, R.bind_ok, sCons, sNil, sIf, sRet, retL, dropL, sSet, setL, sDrop, sUnp, sPar, lNil, lCons, kF, putL, gN, gT, gAll, kC, kX, kD, kG, kS, scl, k1, k2, L.get, L.take, T.toD, aNil, aCons, kTup, kLst, bVal, bAnd, bOr, bNot, kAnd, kOr, kNot, kIf, boolOf, kCall, cNil, cV, cMv, cPass, lend, back, resL, outs, endOf, srcAt, kSGet, kSLen, kInt, SF.get, SF.put, bl, nm, if_true, if_false, Bool.false_eq_true, Bool.not_true, Bool.not_false, R.W_ok]
    · simp only [h2, decide_false, run_mk, List.map_cons, List.map_nil, List.length_cons, List.length_nil, List.cons_append, List.nil_append, List.replicate_succ, List.replicate_zero, Nat.reduceAdd, Nat.reduceSub, List.getElem?_cons_zero, List.getElem?_cons_succ, List.set_cons_zero, List.set_cons_succ, R.bind_ok, sCons, sNil, sIf, sRet, retL, dropL, sSet, setL, sDrop, sUnp, sPar, lNil, lCons, kF, putL, gN, gT, gAll, kC, kX, kD, kG, kS, scl, k1, k2, L.get, L.take, T.toD, aNil, aCons, kTup, kLst, bVal, bAnd, bOr, bNot, kAnd, kOr, kNot, kIf, boolOf, kCall, cNil, cV, cMv, cPass, lend, back, resL, outs, endOf, srcAt, kSGet, kSLen, kInt, SF.get, SF.put, bl, nm, if_true, if_false, Bool.false_eq_true, Bool.not_true, Bool.not_false, R.W_ok]
  · simp only [h1, decide_false, run_mk, List.map_cons, List.map_nil, List.length_cons, List.length_nil, List.cons_append, List.nil_append, List.replicate_succ, List.replicate_zero, Nat.reduceAdd, Nat.reduceSub, List.getElem?_cons_zero, List.getElem?_cons_succ, List.set_cons_zero, List.set_cons_succ, R.bind_ok, sCons, sNil, sIf, sRet, retL, dropL, sSet, setL, sDrop, sUnp, sPar, lNil, lCons, kF, putL, gN, gT, gAll, kC, kX, kD, kG, kS, scl, k1, k2, L.get, L.take, T.toD, aNil, aCons, kTup, kLst, bVal, bAnd, bOr, bNot, kAnd, kOr, kNot, kIf, boolOf, kCall, cNil, cV, cMv, cPass, lend, back, resL, outs, endOf, srcAt, kSGet, kSLen, kInt, SF.get, SF.put, bl, nm, if_true, if_false, Bool.false_eq_true, Bool.not_true, Bool.not_false, R.W_ok]
theorem pick_ok (S : Src) (n : Nat) (hn : n ≤ 1000000) (hc : S.cells.length ≤ 1000) : ∃ (r : Nat) (S' : Src), D_u_law_pick.run [.src S, .val (.int n)] = .ok (.val (.int r), [.src S']) ∧ (r < n ∨ (n ≤ 1 ∧ r = 0)) ∧ S'.cells.length ≤ S.cells.length := by
  have hw := while_inv (c := bAnd (bVal (k2 pGt (kX 1) (kC (.int 1)))) (bAnd (bVal (k2 pLt (kSGet 0 .left) (kC (.int 2)))) (bVal (k2 pGt (kSLen 0) (kC (.int 0)))))) (b := sCons (sSPut 0 .left (kSPop 0)) sNil)
    (fun m s => ∃ S1 : Src, s = [some (.src S1), some (.val (.int n)), none, none] ∧ S1.cells.length = m ∧ m ≤ S.cells.length)
    (fun s => ∃ S1 : Src, s = [some (.src S1), some (.val (.int n)), none, none] ∧ S1.cells.length ≤ S.cells.length)
    (fun m s ⟨S1, e1, e2, e3⟩ => R.W_mono (pick_turn S1 n s e1) fun r hr => by
      by_cases hb : r.1 = true
      · rw [if_pos hb] at hr ⊢
        exact R.W_mono hr fun q ⟨h1, m', h2, S2, h3, h4⟩ => ⟨h1, m', by omega, S2, h3, h4, by omega⟩
      · rw [if_neg hb] at hr ⊢
        rw [hr]
        exact ⟨S1, e1, by omega⟩)
    (n := fuel) (m := S.cells.length) (s := [some (.src S), some (.val (.int n)), none, none]) ⟨S, rfl, rfl, Nat.le_refl _⟩ (by show _ < 1000000; omega)
  obtain ⟨⟨fl, s1⟩, e1, e2, S1, e3, e4⟩ := R.W_get hw
  simp only at e2 e3
  subst e2 e3
  simp only [run_mk, List.map_cons, List.map_nil, List.length_cons, List.length_nil, List.cons_append, List.nil_append, List.replicate_succ, List.replicate_zero, Nat.reduceAdd, Nat.reduceSub, List.getElem?_cons_zero, List.getElem?_cons_succ, List.set_cons_zero, List.set_cons_succ, R.bind_ok, sCons, sNil, sIf, sRet, retL, dropL, sSet, setL, sDrop, sUnp, sPar, lNil, lCons, kF, putL, gN, gT, gAll, kC, kX, kD, kG, kS, scl, k1, k2, L.get, L.take, T.toD, aNil, aCons, kTup, kLst, bVal, bAnd, bOr, bNot, kAnd, kOr, kNot, kIf, boolOf, kCall, cNil, cV, cMv, cPass, lend, back, resL, outs, endOf, srcAt, kSGet, kSLen, kInt, SF.get, SF.put, bl, nm, if_true, if_false, Bool.false_eq_true, Bool.not_true, Bool.not_false, D_u_law_pick, sWhile, e1, pLt, pGt]
  have hmax : (if (n : Int) > 1 then (n : Int) else 1) > 0 := by split <;> omega
  have hmax2 : (if (n : Int) > 1 then (n : Int) else 1) < 1000000000 := by split <;> omega
  by_cases hs1 : (n : Int) < 2
  · simp only [hs1, decide_true, run_mk, List.map_cons, List.map_nil, List.length_cons, List.length_nil, List.cons_append, List.nil_append, List.replicate_succ, List.replicate_zero, Nat.reduceAdd, Nat.reduceSub, List.getElem?_cons_zero, List.getElem?_cons_succ, List.set_cons_zero, List.set_cons_succ, R.bind_ok, sCons, sNil, sIf, sRet, retL, dropL, sSet, setL, sDrop, sUnp, sPar, lNil, lCons, kF, putL, gN, gT, gAll, kC, kX, kD, kG, kS, scl, k1, k2, L.get, L.take, T.toD, aNil, aCons, kTup, kLst, bVal, bAnd, bOr, bNot, kAnd, kOr, kNot, kIf, boolOf, kCall, cNil, cV, cMv, cPass, lend, back, resL, outs, endOf, srcAt, kSGet, kSLen, kInt, SF.get, SF.put, bl, nm, if_true, if_false, Bool.false_eq_true, Bool.not_true, Bool.not_false, sSPut, pMax2, pDiv, pMod, pInt, hmax, hmax2, and_self]
    have e0 : ¬ ((n : Int) > 1) := by omega
    rw [if_neg e0, Int.emod_one]
    exact ⟨0, _, rfl, .inr ⟨by omega, rfl⟩, e4⟩
  · simp only [hs1, decide_false, run_mk, List.map_cons, List.map_nil, List.length_cons, List.length_nil, List.cons_append, List.nil_append, List.replicate_succ, List.replicate_zero, Nat.reduceAdd, Nat.reduceSub, List.getElem?_cons_zero, List.getElem?_cons_succ, List.set_cons_zero, List.set_cons_succ, R.bind_ok, sCons, sNil, sIf, sRet, retL, dropL, sSet, setL, sDrop, sUnp, sPar, lNil, lCons, kF, putL, gN, gT, gAll, kC, kX, kD, kG, kS, scl, k1, k2, L.get, L.take, T.toD, aNil, aCons, kTup, kLst, bVal, bAnd, bOr, bNot, kAnd, kOr, kNot, kIf, boolOf, kCall, cNil, cV, cMv, cPass, lend, back, resL, outs, endOf, srcAt, kSGet, kSLen, kInt, SF.get, SF.put, bl, nm, if_true, if_false, Bool.false_eq_true, Bool.not_true, Bool.not_false]
    have e0 : (n : Int) > 1 := by omega
    by_cases hs2 : (1 : Int) < S1.left
    · simp only [hs2, decide_true, run_mk, List.map_cons, List.map_nil, List.length_cons, List.length_nil, List.cons_append, List.nil_append, List.replicate_succ, List.replicate_zero, Nat.reduceAdd, Nat.reduceSub, List.getElem?_cons_zero, List.getElem?_cons_succ, List.set_cons_zero, List.set_cons_succ, R.bind_ok, sCons, sNil, sIf, sRet, retL, dropL, sSet, setL, sDrop, sUnp, sPar, lNil, lCons, kF, putL, gN, gT, gAll, kC, kX, kD, kG, kS, scl, k1, k2, L.get, L.take, T.toD, aNil, aCons, kTup, kLst, bVal, bAnd, bOr, bNot, kAnd, kOr, kNot, kIf, boolOf, kCall, cNil, cV, cMv, cPass, lend, back, resL, outs, endOf, srcAt, kSGet, kSLen, kInt, SF.get, SF.put, bl, nm, if_true, if_false, Bool.false_eq_true, Bool.not_true, Bool.not_false, sSPut, pMax2, pDiv, pMod, pInt, hmax, hmax2, and_self]
      rw [if_pos e0]
      have h1 := Int.emod_nonneg S1.left (show (n : Int) ≠ 0 by omega)
      have h2 := Int.emod_lt_of_pos S1.left (show (0 : Int) < n by omega)
      obtain ⟨r, hr⟩ : ∃ r : Nat, S1.left % (n : Int) = r := ⟨_, (Int.toNat_of_nonneg h1).symm⟩
      rw [hr] at h2 ⊢
      exact ⟨r, _, rfl, .inl (by omega), e4⟩
    · have t1 : (-2 ^ 64 < (104729 : Int) ∧ (104729 : Int) < 2 ^ 64) := by decide
      have t2 : (-2 ^ 64 < (17 : Int) ∧ (17 : Int) < 2 ^ 64) := by decide
      have t3 : (0 : Int) < 998244353 := by decide
      have t4 : (0 : Int) < 2147483647 := by decide
      have t5 : (0 : Int) < 16 ∧ (16 : Int) < 1000000000 := by decide
      have t6 : ∀ x : Int, (-2 ^ 64 < x % 998244353 ∧ x % 998244353 < 2 ^ 64) := fun x => by
        have h1 := Int.emod_nonneg x (show (998244353 : Int) ≠ 0 by decide)
        have h2 := Int.emod_lt_of_pos x (show (0 : Int) < 998244353 by decide)
        omega
      have t7 : (0 : Int) < n := by omega
      simp only [hs2, decide_false, run_mk, List.map_cons, List.map_nil, List.length_cons, List.length_nil, List.cons_append, List.nil_append, List.replicate_succ, List.replicate_zero, Nat.reduceAdd, Nat.reduceSub, List.getElem?_cons_zero, List.getElem?_cons_succ, List.set_cons_zero, List.set_cons_succ, R.bind_ok, sCons, sNil, sIf, sRet, retL, dropL, sSet, setL, sDrop, sUnp, sPar, lNil, lCons, kF, putL, gN, gT, gAll, kC, kX, kD, kG, kS, scl, k1, k2, L.get, L.take, T.toD, aNil, aCons, kTup, kLst, bVal, bAnd, bOr, bNot, kAnd, kOr, kNot, kIf, boolOf, kCall, cNil, cV, cMv, cPass, lend, back, resL, outs, endOf, srcAt, kSGet, kSLen, kInt, SF.get, SF.put, bl, nm, if_true, if_false, Bool.false_eq_true, Bool.not_true, Bool.not_false, sSPut, pMax2, pDiv, pMod, pInt, pAdd, pMul, t1, t2, t3, t4, t5, t6, t7, or_true, true_or, and_self]
      generalize (_ / 16 : Int) = z
      have h1 := Int.emod_nonneg z (show (n : Int) ≠ 0 by omega)
      have h2 := Int.emod_lt_of_pos z t7
      obtain ⟨r, hr⟩ : ∃ r : Nat, z % (n : Int) = r := ⟨_, (Int.toNat_of_nonneg h1).symm⟩
      rw [hr] at h2 ⊢
      exact ⟨r, _, rfl, .inl (by omega), e4⟩
/-- the source, as long as it is used -/
def Sok (S : Src) : Prop := S.cells.length ≤ 1000
theorem pick (S : Src) (n : Nat) (hS : Sok S) (hn : 0 < n) (hm : n ≤ 1000000) : ∃ (r : Nat) (S' : Src), D_u_law_pick.run [.src S, .val (.int n)] = .ok (.val (.int r), [.src S']) ∧ r < n ∧ Sok S' := by
  obtain ⟨r, S', h1, h2, h3⟩ := pick_ok S n hm hS
  exact ⟨r, S', h1, by omega, Nat.le_trans h3 hS⟩
theorem ixD_nat {n r : Nat} (h : r < n) : ixD n (r : Int) = some r := by
  unfold ixD L2.ixN
  rw [if_pos (by omega), if_pos (by omega)]
  simp
theorem of_ok (S : Src) (ds : List D) (hS : Sok S) (hn : 0 < ds.length) (hm : ds.length ≤ 1000000) : ∃ (d : D) (S' : Src), D_u_law_of.run [.src S, .val (.list ds)] = .ok (.val d, [.src S']) ∧ d ∈ ds ∧ Sok S' := by
  obtain ⟨r, S', h1, h2, h3⟩ := pick S ds.length hS hn hm
  refine ⟨ds[r], S', ?_, List.getElem_mem _, h3⟩
  simp only [run_mk, List.map_cons, List.map_nil, List.length_cons, List.length_nil, List.cons_append, List.nil_append, List.replicate_succ, List.replicate_zero, Nat.reduceAdd, Nat.reduceSub, List.getElem?_cons_zero, List.getElem?_cons_succ, List.set_cons_zero, List.set_cons_succ, R.bind_ok, sCons, sNil, sIf, sRet, retL, dropL, sSet, setL, sDrop, sUnp, sPar, lNil, lCons, kF, putL, gN, gT, gAll, kC, kX, kD, kG, kS, scl, k1, k2, L.get, L.take, T.toD, aNil, aCons, kTup, kLst, bVal, bAnd, bOr, bNot, kAnd, kOr, kNot, kIf, boolOf, kCall, cNil, cV, cMv, cPass, lend, back, resL, outs, endOf, srcAt, kSGet, kSLen, kInt, SF.get, SF.put, bl, nm, if_true, if_false, Bool.false_eq_true, Bool.not_true, Bool.not_false, D_u_law_of, pLen, h1, pIx, ixD_nat h2, Option.bind_some, List.getElem?_eq_getElem h2, optD]
def absD : D → D
  | .int i => .int (if i < 0 then -i else i)
  | d => d
theorem source_ok (ns : List Int) (h : ns.length ≤ 63) : ∃ S : Src, D_u_law_source.run [.scr ns] = .ok (.src S, []) ∧ Sok S := by
  have hw := for_inv (g := gN 2) (b := sCons (sSet 1 (k2 pMod (k1 pInt (k2 pAdd (k2 pAdd (k2 pMul (kX 1) (kC (.int 69069))) (k2 pMul (kX 2) (kC (.int 31)))) (kC (.int 5)))) (kC (.int 2147483629)))) sNil) (ds := ns.map PyData.int)
    (fun _ s => ∃ (m : Int) (t : Option T), s = [some (.scr ns), some (.val (.int m)), t]) (s := [some (.scr ns), some (.val (.int 11)), none]) ⟨11, none, rfl⟩ (fun i x s hx ⟨m, t, hs⟩ => by
      subst hs
      obtain ⟨z, hz, rfl⟩ : ∃ z, z ∈ ns ∧ x = .int z := by
        have := List.mem_of_getElem? hx
        simpa [eq_comm] using this
      have t1 : (-2 ^ 64 < (69069 : Int) ∧ (69069 : Int) < 2 ^ 64) := by decide
      have t2 : (-2 ^ 64 < (31 : Int) ∧ (31 : Int) < 2 ^ 64) := by decide
      have t3 : (0 : Int) < 2147483629 := by decide
      simp only [run_mk, List.map_cons, List.map_nil, List.length_cons, List.length_nil, List.cons_append, List.nil_append, List.replicate_succ, List.replicate_zero, Nat.reduceAdd, Nat.reduceSub, List.getElem?_cons_zero, List.getElem?_cons_succ, List.set_cons_zero, List.set_cons_succ, R.bind_ok, sCons, sNil, sIf, sRet, retL, dropL, sSet, setL, sDrop, sUnp, sPar, lNil, lCons, kF, putL, gN, gT, gAll, kC, kX, kD, kG, kS, scl, k1, k2, L.get, L.take, T.toD, aNil, aCons, kTup, kLst, bVal, bAnd, bOr, bNot, kAnd, kOr, kNot, kIf, boolOf, kCall, cNil, cV, cMv, cPass, lend, back, resL, outs, endOf, srcAt, kSGet, kSLen, kInt, SF.get, SF.put, bl, nm, if_true, if_false, Bool.false_eq_true, Bool.not_true, Bool.not_false, pMul, pAdd, pInt, pMod, t1, t2, t3, or_true, true_or, R.W_ok, true_and]
      exact ⟨_, _, rfl⟩)
  obtain ⟨⟨fl, s1⟩, e1, e2, m, t, e3⟩ := R.W_get hw
  simp only at e2 e3
  subst e2 e3
  obtain ⟨s2, hc, hs2⟩ := comp_pure2 (g := gN 2) (c := none) (f := k1 pAbs (kX 2)) (own := [2]) (s := [some (.scr ns), some (.val (.int m)), t]) (fun x => [some (.scr ns), some (.val (.int m)), some (.val x)]) (fun _ => true)
    absD rfl (ds := ns.map PyData.int) (fun x hx => by
      obtain ⟨z, hz, rfl⟩ : ∃ z, z ∈ ns ∧ x = .int z := by simpa [eq_comm] using hx
      refine ⟨rfl, rfl, rfl, fun _ => ?_⟩
      simp only [run_mk, List.map_cons, List.map_nil, List.length_cons, List.length_nil, List.cons_append, List.nil_append, List.replicate_succ, List.replicate_zero, Nat.reduceAdd, Nat.reduceSub, List.getElem?_cons_zero, List.getElem?_cons_succ, List.set_cons_zero, List.set_cons_succ, R.bind_ok, sCons, sNil, sIf, sRet, retL, dropL, sSet, setL, sDrop, sUnp, sPar, lNil, lCons, kF, putL, gN, gT, gAll, kC, kX, kD, kG, kS, scl, k1, k2, L.get, L.take, T.toD, aNil, aCons, kTup, kLst, bVal, bAnd, bOr, bNot, kAnd, kOr, kNot, kIf, boolOf, kCall, cNil, cV, cMv, cPass, lend, back, resL, outs, endOf, srcAt, kSGet, kSLen, kInt, SF.get, SF.put, bl, nm, if_true, if_false, Bool.false_eq_true, Bool.not_true, Bool.not_false, pAbs, absD])
  have hl : ∀ zs : List Int, (zs.map PyData.int).map absD = (zs.map fun i : Int => if i < 0 then -i else i).map PyData.int := fun zs => by simp [absD]
  have hf : (ns.map PyData.int).filter (fun _ => true) = ns.map PyData.int := by simp
  rw [hf, hl] at hc
  have hi : ∀ zs : List Int, intsOf (zs.map PyData.int).reverse = some zs.reverse := fun zs => by
    rw [← List.map_reverse]
    generalize zs.reverse = ys
    induction ys with
    | nil => rfl
    | cons y ys ih => rw [List.map_cons, intsOf, ih]; rfl
  have hz : szOk (ns.map fun i : Int => if i < 0 then -i else i).length = true := decide_eq_true (by rw [List.length_map]; omega)
  have hs3 : ∃ t2, s2 = [some (.scr ns), some (.val (.int m)), t2] := by
    rcases hs2 with rfl | rfl
    · exact ⟨t, rfl⟩
    · exact ⟨none, rfl⟩
  obtain ⟨t2, rfl⟩ := hs3
  rw [List.length_map] at hz
  simp only [run_mk, List.map_cons, List.map_nil, List.length_cons, List.length_nil, List.cons_append, List.nil_append, List.replicate_succ, List.replicate_zero, Nat.reduceAdd, Nat.reduceSub, List.getElem?_cons_zero, List.getElem?_cons_succ, List.set_cons_zero, List.set_cons_succ, R.bind_ok, sCons, sNil, sIf, sRet, retL, dropL, sSet, setL, sDrop, sUnp, sPar, lNil, lCons, kF, putL, gN, gT, gAll, kC, kX, kD, kG, kS, scl, k1, k2, L.get, L.take, T.toD, aNil, aCons, kTup, kLst, bVal, bAnd, bOr, bNot, kAnd, kOr, kNot, kIf, boolOf, kCall, cNil, cV, cMv, cPass, lend, back, resL, outs, endOf, srcAt, kSGet, kSLen, kInt, SF.get, SF.put, bl, nm, if_true, if_false, Bool.false_eq_true, Bool.not_true, Bool.not_false, D_u_law_source, sFor, iScr, scrAt, e1, kSrc, kComp, hc, List.length_map, hz, pRev, hi]
  refine ⟨_, rfl, ?_⟩
  show List.length (List.reverse _) ≤ 1000
  rw [List.length_reverse, List.length_map]
  omega
end K11

set_option Elab.async false
set_option linter.all false
set_option maxRecDepth 100000
set_option maxHeartbeats 4000000
set_option pp.maxSteps 600
namespace K11
open PySem KV
def strsE (bs : List Str) : D := .tuple (bs.map .str)
def Sk (x : Str) : Prop := PyData.strOk x = true ∧ x.cps.size ≤ 20
theorem fit_strs {bs : List Str} (h : ∀ b ∈ bs, Sk b) : ∀ d ∈ bs.map PyData.str, fit 0 20 d := fun d hd => by
  obtain ⟨b, hb, rfl⟩ := List.mem_map.mp hd
  exact fit_str (h b hb).1 (h b hb).2
theorem eqOk_strs {bs : List Str} (h : ∀ b ∈ bs, Sk b) : eqOk (strsE bs) = true := (fit_tup (fit_strs h) (Nat.le_refl _)).eqOk (by decide)
theorem eqOk_sk {x : Str} (h : Sk x) : eqOk (.str x) = true := (fit_str (n := 0) (m := 20) h.1 h.2).eqOk (by decide)
theorem ix0 {a : D} {r : List D} : pIx (.tuple (a :: r)) (.int 0) = .ok (.d a) := by
  simp only [pIx, ixD_nat (n := (a :: r).length) (r := 0) (by simp), Option.bind_some, List.getElem?_cons_zero, optD, show ((0 : Nat) : Int) = 0 from rfl]
  have := ixD_nat (n := (a :: r).length) (r := 0) (by simp)
  simp only [Int.natCast_zero] at this ⊢
  rw [show ixD (a :: r).length 0 = some 0 from this]
  rfl
theorem ix1 {a b : D} {r : List D} : pIx (.tuple (a :: b :: r)) (.int 1) = .ok (.d b) := by
  have := ixD_nat (n := (a :: b :: r).length) (r := 1) (by simp)
  simp only [pIx]
  rw [show ixD (a :: b :: r).length 1 = some 1 from this]
  rfl
theorem ix2 {a b c : D} {r : List D} : pIx (.tuple (a :: b :: c :: r)) (.int 2) = .ok (.d c) := by
  have := ixD_nat (n := (a :: b :: c :: r).length) (r := 2) (by simp)
  simp only [pIx]
  rw [show ixD (a :: b :: c :: r).length 2 = some 2 from this]
  rfl
theorem ix3 {a b c d : D} {r : List D} : pIx (.tuple (a :: b :: c :: d :: r)) (.int 3) = .ok (.d d) := by
  have := ixD_nat (n := (a :: b :: c :: d :: r).length) (r := 3) (by simp)
  simp only [pIx]
  rw [show ixD (a :: b :: c :: d :: r).length 3 = some 3 from this]
  rfl
theorem inB_strs {v : Str} : ∀ {ws : List Str}, inB (.str v) (ws.map PyData.str) = decide (v ∈ ws)
  | [] => by simp [inB]
  | w :: ws => by
    have ih := inB_strs (v := v) (ws := ws)
    simp only [inB, List.map_cons, List.any_cons, eqv_str] at ih ⊢
    rw [ih]
    by_cases e : w = v
    · subst e; simp
    · simp [e, Ne.symm e]
theorem last_app {α : Type} {xs : List α} {x : α} : (xs ++ [x])[(xs ++ [x]).length - 1]? = some x := by simp
theorem last_app1 {α : Type} {xs : List α} {x : α} : (xs ++ [x])[xs.length + 1 - 1]? = some x := by simp
theorem pNe_nil {xs : List D} (h : eqOk (.list xs) = true) : pNe (.list xs) (.list []) = bl (!xs.isEmpty) := by
  rw [pNe_of h rfl]
  cases xs <;> simp [PyData.eqv, PyData.eqvAll]
theorem szOk2 : szOk 2 = true := by decide
theorem szOk1 : szOk 1 = true := by decide
theorem szOk0 : szOk 0 = true := by decide
theorem szOk3 : szOk 3 = true := by decide
theorem szOk4 : szOk 4 = true := by decide
theorem szOk5 : szOk 5 = true := by decide
theorem szOk6 : szOk 6 = true := by decide
theorem szOk_of {n : Nat} (h : n ≤ 1000000) : szOk n = true := decide_eq_true (by omega)
theorem pEq_sk {x y : Str} (h : Sk x) (h' : Sk y) : pEq (.str x) (.str y) = bl (decide (x = y)) := by rw [pEq_of (eqOk_sk h) (eqOk_sk h'), eqv_str]
theorem seq_t {xs : List D} : seqOf (.tuple xs) = .ok xs := rfl
theorem seq_l {xs : List D} : seqOf (.list xs) = .ok xs := rfl
theorem ixl0 : ∀ (a : D) (r : List D), pIx (.list (a :: r)) (.int 0) = .ok (.d a) := fun a r => by
  have := ixD_nat (n := (a :: r).length) (r := 0) (by simp)
  simp only [pIx]
  rw [show ixD (a :: r).length 0 = some 0 from this]
  rfl
theorem pickI {n : Nat} (i : Int) (S : Src) (e : i = n) (hS : Sok S) (hn : 0 < n) (hm : n ≤ 1000000) : ∃ (r : Nat) (S' : Src), D_u_law_pick.run [.src S, .val (.int i)] = .ok (.val (.int r), [.src S']) ∧ r < n ∧ Sok S' := by
  subst e
  exact pick S n hS hn hm
theorem pEq_int {a b : Int} : pEq (.int a) (.int b) = bl (decide (a = b)) := rfl
def findF {α : Type} (F : Nat → Option α) : Nat → Nat → Option α
  | _, 0 => none
  | k, n + 1 => match F k with
    | some a => some a
    | none => findF F (k + 1) n
def Hit {α : Type} (o : Option α) (tt : α → T) (r : Fl × Sl) (Q : Sl → Prop) : Prop := match o with
  | some a => r.1 = .rt (tt a)
  | none => r.1 = .nx ∧ Q r.2
def Turn {α : Type} (o : Option α) (tt : α → T) (r : Fl × Sl) (Q : Sl → Prop) : Prop := match o with
  | some a => r.1 = .rt (tt a)
  | none => (r.1 = .nx ∨ r.1 = .ct) ∧ Q r.2
theorem forD_find {α : Type} {g : GV} {b : SV} {ds : List D} (I : Nat → Sl → Prop) (F : Nat → Option α) (tt : α → T)
    (h : ∀ i x s, ds[i]? = some x → I i s → (g x s).W fun s1 => (b s1).W fun r => Turn (F i) tt r (I (i + 1))) :
    ∀ {k : Nat} {s : Sl}, I k s → k ≤ ds.length → (forD g b (ds.drop k) s).W fun r => Hit (findF F k (ds.length - k)) tt r (I ds.length) := by
  intro k s hi hk
  generalize hn : ds.length - k = n
  induction n generalizing k s with
  | zero =>
    have : k = ds.length := by omega
    subst this
    rw [List.drop_length]
    exact ⟨rfl, hi⟩
  | succ n ih =>
    have hlt : k < ds.length := by omega
    rw [List.drop_eq_getElem_cons hlt]
    obtain ⟨s1, e1, h1⟩ := R.W_get (h k ds[k] s (List.getElem?_eq_getElem hlt) hi)
    obtain ⟨⟨fl, s2⟩, e2, h2⟩ := R.W_get h1
    unfold forD findF
    rw [e1, R.bind_ok, e2, R.bind_ok]
    cases hF : F k with
    | some a =>
      simp only [hF, Turn, Hit] at h2 ⊢
      subst h2
      exact rfl
    | none =>
      simp only [hF, Turn] at h2 ⊢
      obtain ⟨h2, h3⟩ := h2
      have next := ih (k := k + 1) (s := s2) h3 hlt (by omega)
      rcases h2 with h2 | h2 <;> (subst h2; exact next)
theorem for_find {α : Type} {g : GV} {b : SV} {ds : List D} {s : Sl} (I : Nat → Sl → Prop) (F : Nat → Option α) (tt : α → T) (h0 : I 0 s)
    (h : ∀ i x s, ds[i]? = some x → I i s → (g x s).W fun s1 => (b s1).W fun r => Turn (F i) tt r (I (i + 1))) :
    (forD g b ds s).W fun r => Hit (findF F 0 ds.length) tt r (I ds.length) := by
  have := forD_find I F tt h (k := 0) h0 (Nat.zero_le _)
  rwa [List.drop_zero, Nat.sub_zero] at this
theorem findF_congr {α : Type} {F G : Nat → Option α} : ∀ {n k : Nat}, (∀ i, k ≤ i → i < k + n → F i = G i) → findF F k n = findF G k n
  | 0, _, _ => rfl
  | n + 1, k, h => by
    unfold findF
    rw [h k (Nat.le_refl _) (by omega), findF_congr (n := n) (k := k + 1) fun i h1 h2 => h i (by omega) (by omega)]
theorem pAdd_ll {a b : List D} (h : a.length + b.length ≤ 1000000) : pAdd (.list a) (.list b) = .ok (.t (.lst (a ++ b))) := by
  simp only [pAdd, szOk_of h, if_true]
theorem pAdd_tt {a b : List D} (h : a.length + b.length ≤ 1000000) : pAdd (.tuple a) (.tuple b) = .ok (.d (.tuple (a ++ b))) := by
  simp only [pAdd, szOk_of h, if_true]
theorem fit_ints : ∀ i ∈ List.range 100, (PyData.canLay0 (.int (i : Nat)) && decide (PyData.depth (.int (i : Nat)) ≤ 0) && decide (PyData.weight (.int (i : Nat)) ≤ 20) && PyData.intsShort 13 (.int (i : Nat)) && PyData.showable (.int (i : Nat))) = true := by decide +kernel
theorem fit_int {i : Nat} (h : i < 100) : fit 0 20 (.int (i : Nat)) := by
  have := fit_ints i (List.mem_range.mpr h)
  simp only [Bool.and_eq_true, decide_eq_true_eq] at this
  exact ⟨this.1.1.1.1, this.1.1.1.2, this.1.1.2, this.1.2, this.2⟩
theorem cut_to {xs : List D} {k : Nat} : cutD xs none (some (k : Int)) = xs.take k := by
  unfold cutD
  rw [HT.sIx_none, HT.sIx_nat, List.drop_zero, Nat.sub_zero, List.take_eq_take_iff]
  omega
theorem cut_from {xs : List D} {k : Nat} : cutD xs (some (k : Int)) none = xs.drop k := by
  unfold cutD
  rw [HT.sIx_none, HT.sIx_nat]
  by_cases h : k ≤ xs.length
  · rw [Nat.min_eq_left h, List.take_of_length_le (by rw [List.length_drop]; exact Nat.le_refl _)]
  · rw [Nat.min_eq_right (by omega), List.drop_length, List.drop_eq_nil_of_le (by omega)]
    simp
theorem in_strsL {v : Str} {ws : List Str} (hv : Sk v) (hw : ∀ w ∈ ws, Sk w) : pIn (.str v) (.list (ws.map PyData.str)) = bl (decide (v ∈ ws)) := by
  unfold pIn
  simp only [eqOk_sk hv, show eqOk (.list (ws.map PyData.str)) = true from (fit_lst (fit_strs hw) (Nat.le_refl _)).eqOk (by decide), Bool.and_self, if_true, inB_strs]
theorem in_strsT {v : Str} {ws : List Str} (hv : Sk v) (hw : ∀ w ∈ ws, Sk w) : pIn (.str v) (.tuple (ws.map PyData.str)) = bl (decide (v ∈ ws)) := by
  unfold pIn
  simp only [eqOk_sk hv, show eqOk (.tuple (ws.map PyData.str)) = true from eqOk_strs hw, Bool.and_self, if_true, inB_strs]
theorem notIn_strsL {v : Str} {ws : List Str} (hv : Sk v) (hw : ∀ w ∈ ws, Sk w) : pNotIn (.str v) (.list (ws.map PyData.str)) = bl (!decide (v ∈ ws)) := by
  unfold pNotIn
  rw [in_strsL hv hw]
  rfl
theorem nodict_pIxT {xs : List D} {a : Nat} {x : D} (h : xs[a]? = some x) : pIx (.tuple xs) (.int (a : Nat)) = .ok (.d x) := by
  have := ixD_nat (n := xs.length) (r := a) (List.getElem?_eq_some_iff.mp h).1
  simp only [pIx, this, Option.bind_some, h, optD]
theorem nodict_pIxL {xs : List D} {a : Nat} {x : D} (h : xs[a]? = some x) : pIx (.list xs) (.int (a : Nat)) = .ok (.d x) := by
  have := ixD_nat (n := xs.length) (r := a) (List.getElem?_eq_some_iff.mp h).1
  simp only [pIx, this, Option.bind_some, h, optD]
theorem enum_at : ∀ {ds : List D} {k i : Nat}, (enumD k ds)[i]? = (ds[i]?).map fun d => .tuple [.int ((k + i : Nat) : Int), d]
  | [], _, _ => rfl
  | d :: ds, k, 0 => rfl
  | d :: ds, k, i + 1 => by
    rw [enumD, List.getElem?_cons_succ, List.getElem?_cons_succ, enum_at, show k + 1 + i = k + (i + 1) by omega]
theorem enum_len : ∀ {ds : List D} {k : Nat}, (enumD k ds).length = ds.length
  | [], _ => rfl
  | d :: ds, k => by rw [enumD, List.length_cons, List.length_cons, enum_len]
theorem intR_at {n i : Nat} (h : i < n) : (intR 0 n)[i]? = some (.int (i : Nat)) := by
  simp only [intR, List.getElem?_map, List.getElem?_range h, Option.map_some, Int.zero_add]
theorem intR_len {n : Nat} : (intR 0 n).length = n := by simp [intR]
theorem intR_in {n i : Nat} {d : D} (h : (intR 0 n)[i]? = some d) : i < n ∧ d = .int (i : Nat) := by
  have h1 : i < n := by
    have := (List.getElem?_eq_some_iff.mp h).1
    rwa [intR_len] at this
  rw [intR_at h1] at h
  exact ⟨h1, (Option.some.inj h).symm⟩
theorem forD_nil {g : GV} {b : SV} {s : Sl} : forD g b [] s = .ok (.nx, s) := rfl
theorem forD_rt {g : GV} {b : SV} {x : D} {xs : List D} {s s1 s2 : Sl} {t : T} (h1 : g x s = .ok s1) (h2 : b s1 = .ok (.rt t, s2)) : forD g b (x :: xs) s = .ok (.rt t, s2) := by
  unfold forD
  rw [h1, R.bind_ok, h2, R.bind_ok]
theorem forD_nx {g : GV} {b : SV} {x : D} {xs : List D} {s s1 s2 : Sl} {fl : Fl} (h1 : g x s = .ok s1) (h2 : b s1 = .ok (fl, s2)) (h : fl = .nx ∨ fl = .ct) : forD g b (x :: xs) s = forD g b xs s2 := by
  rw [forD, h1, R.bind_ok, h2, R.bind_ok]
  rcases h with h | h <;> subst h <;> rfl
theorem findF_mem {α : Type} {F : Nat → Option α} {a : α} : ∀ {n k : Nat}, findF F k n = some a → ∃ i, k ≤ i ∧ i < k + n ∧ F i = some a
  | 0, _, h => by cases h
  | n + 1, k, h => by
    unfold findF at h
    cases hF : F k with
    | some b =>
      rw [hF] at h
      cases h
      exact ⟨k, Nat.le_refl _, by omega, hF⟩
    | none =>
      rw [hF] at h
      obtain ⟨i, h1, h2, h3⟩ := findF_mem h
      exact ⟨i, by omega, by omega, h3⟩
theorem findF_none {α : Type} {F : Nat → Option α} : ∀ {n k : Nat}, (∀ i, k ≤ i → i < k + n → F i = none) → findF F k n = none
  | 0, _, _ => rfl
  | n + 1, k, h => by
    unfold findF
    rw [h k (Nat.le_refl _) (by omega)]
    exact findF_none fun i h1 h2 => h i (by omega) (by omega)
theorem fit_t0 {n : Nat} : fit (n + 1) 0 (.tuple []) := ⟨by simp [PyData.canLay0, PyData.canLayAll0], by simp [PyData.depth, PyData.depthAll], by simp [PyData.weight, PyData.weightAll], by simp [PyData.intsShort, PyData.intsShortAll], by simp [PyData.showable, PyData.showableAll]⟩
theorem fit_cons {n a b c : Nat} {d : D} {ds : List D} (h1 : fit n a d) (h2 : fit (n + 1) b (.tuple ds)) (hc : a + 1 + b ≤ c) : fit (n + 1) c (.tuple (d :: ds)) := by
  obtain ⟨p1, p2, p3, p4, p5⟩ := h1
  obtain ⟨q1, q2, q3, q4, q5⟩ := h2
  rw [PyData.canLay0] at q1
  rw [PyData.depth] at q2
  rw [PyData.weight] at q3
  rw [PyData.intsShort] at q4
  rw [PyData.showable] at q5
  exact ⟨by rw [PyData.canLay0, PyData.canLayAll0, p1, q1]; rfl, by rw [PyData.depth, PyData.depthAll]; omega, by rw [PyData.weight, PyData.weightAll]; omega, by rw [PyData.intsShort, PyData.intsShortAll, p4, q4]; rfl, by rw [PyData.showable, PyData.showableAll, p5, q5]; rfl⟩
theorem fit_sk {n : Nat} {x : Str} (h : Sk x) : fit n 20 (.str x) := fit_str h.1 h.2
theorem of2 (S : Src) (ds : List D) {P : D → Prop} (hS : Sok S) (hn : 0 < ds.length) (hm : ds.length ≤ 1000000) (h : ∀ d ∈ ds, P d) : ∃ (d : D) (S' : Src), D_u_law_of.run [.src S, .val (.list ds)] = .ok (.val d, [.src S']) ∧ P d ∧ Sok S' := by
  obtain ⟨d, S', h1, h2, h3⟩ := of_ok S ds hS hn hm
  exact ⟨d, S', h1, h d h2, h3⟩
theorem pLenM {α : Type} {f : α → D} {l : List α} : pLen (.tuple (l.map f)) = .ok (.d (.int (l.length : Nat))) := by
  show nm _ = _
  rw [List.length_map]
  rfl
theorem pGt_int {a b : Int} : pGt (.int a) (.int b) = bl (decide (b < a)) := rfl
theorem pAdd_int {a b : Int} : pAdd (.int a) (.int b) = .ok (.d (.int (a + b))) := rfl
theorem slT {α : Type} {f : α → D} {l : List α} {i : Nat} : pSl none (some (i : Int)) (.tuple (l.map f)) = .ok (.d (.tuple ((l.take i).map f))) := by
  unfold pSl
  simp only [cut_to, List.map_take]
theorem neS {a : Str} : pNeS (.str a) (.str a) = bl false := by simp [pNeS]
theorem eqS {a : Str} : pEqS (.str a) (.str a) = bl true := by simp [pEqS]
/-! ### a drawn order -/
theorem pop_perm {α : Type} {l : List α} {j : Nat} {x : α} (h : l[j]? = some x) : (x :: l.eraseIdx j).Perm l := by
  induction l generalizing j with
  | nil => simp at h
  | cons y l ih =>
    cases j with
    | zero => simp at h; subst h; exact List.Perm.refl _
    | succ j =>
      have := ih (j := j) (by simpa using h)
      rw [List.eraseIdx_cons_succ]
      exact (List.Perm.swap y x _).trans (this.cons y)
theorem map_eraseIdx {α : Type} {f : α → D} {l : List α} {j : Nat} : (l.map f).eraseIdx j = (l.eraseIdx j).map f := by
  induction l generalizing j with
  | nil => rfl
  | cons y l ih =>
    cases j with
    | zero => rfl
    | succ j => rw [List.map_cons, List.eraseIdx_cons_succ, List.eraseIdx_cons_succ, List.map_cons, ih]
theorem lmixed_ok {α : Type} {f : α → D} {l : List α} (hl : l.length ≤ 1000) (S : Src) (hS : Sok S) : ∃ (l' : List α) (S' : Src), D_u_law_mixed.run [.src S, .val (.list (l.map f))] = .ok (.lst (l'.map f), [.src S']) ∧ l'.Perm l ∧ Sok S' := by
  have hlen : (intR 0 l.length).length = l.length := by simp [intR]
  have h := comp_inv0 (g := gN 3) (f := kPopJ 2 (kCall (D_u_law_pick).run (cMv 0 (cV (k1 pLen (kX 2)) cNil)))) (own := [3]) (ds := intR 0 l.length) (s := [some (.src S), some (.val (.list (l.map f))), some (.lst (l.map f)), none])
    (fun i acc s => ∃ (la lr : List α) (S' : Src), acc = la.map f ∧ s = [some (.src S'), some (.val (.list (l.map f))), some (.lst (lr.map f)), none] ∧ (la ++ lr).Perm l ∧ lr.length + i = l.length ∧ Sok S')
    ⟨[], l, S, rfl, rfl, List.Perm.refl _, rfl, hS⟩ (fun i x acc s hx ⟨la, lr, S1, a1, a2, a3, a4, a5⟩ => by
      have hi : i < l.length := by
        have := (List.getElem?_eq_some_iff.mp hx).1
        omega
      obtain ⟨j, S2, p1, p2, hS2⟩ := pickI (n := lr.length) (((lr.map f).length : Nat) : Int) S1 (by rw [List.length_map]) a5 (by omega) (by omega)
      obtain ⟨y, hy⟩ : ∃ y, lr[j]? = some y := ⟨lr[j], List.getElem?_eq_getElem p2⟩
      have hy2 : (lr.map f)[j]? = some (f y) := by rw [List.getElem?_map, hy]; rfl
      have hz : szOk (lr.map f).length = true := szOk_of (by rw [List.length_map]; omega)
      have hj : (0 : Int) ≤ (j : Int) := Int.natCast_nonneg _
      have pl : pLen (.list (lr.map f)) = .ok (.d (.int (((lr.map f).length : Nat) : Int))) := rfl
      subst a1 a2
      simp only [run_mk, List.map_cons, List.map_nil, List.length_cons, List.length_nil, List.cons_append, List.nil_append, List.replicate_succ, List.replicate_zero, Nat.reduceAdd, Nat.reduceSub, List.getElem?_cons_zero, List.getElem?_cons_succ, List.set_cons_zero, List.set_cons_succ, R.bind_ok, sCons, sNil, sIf, sRet, retL, dropL, sSet, setL, sDrop, sUnp, sPar, lNil, lCons, kF, putL, gN, gT, gAll, kC, kX, kD, kG, kS, scl, k1, k2, L.get, L.take, T.toD, aNil, aCons, kTup, kLst, bVal, bAnd, bOr, bNot, kAnd, kOr, kNot, kIf, boolOf, kCall, cNil, cV, cMv, cPass, lend, back, resL, outs, endOf, srcAt, kSGet, kSLen, kInt, SF.get, SF.put, bl, nm, if_true, if_false, Bool.false_eq_true, Bool.not_true, Bool.not_false, wipeD, kPopJ, pl, p1, hj, hz, and_self, Int.toNat_natCast, hy2, map_eraseIdx, R.W_ok]
      refine ⟨la ++ [y], lr.eraseIdx j, S2, by rw [List.map_append]; rfl, rfl, ?_, ?_, hS2⟩
      · rw [List.append_assoc]
        exact (List.Perm.append_left la (pop_perm hy)).trans a3
      · rw [List.length_eraseIdx, if_pos p2]
        omega)
  rw [hlen] at h
  obtain ⟨⟨acc, s2⟩, e1, la, lr, S2, e2, e3, e4, e5, hS2⟩ := R.W_get h
  simp only at e2 e3
  subst e2 e3
  have hnil : lr = [] := List.eq_nil_of_length_eq_zero (by omega)
  subst hnil
  rw [List.append_nil] at e4
  refine ⟨la, S2, ?_, e4, hS2⟩
  have pl : pLen (.list (l.map f)) = .ok (.d (.int (((l.map f).length : Nat) : Int))) := rfl
  have px : pList (.list (l.map f)) = .ok (.t (.lst (l.map f))) := rfl
  have zn : (((l.map f).length : Int) ≤ 16000000 ∧ -16000000 ≤ ((l.map f).length : Int)) := by rw [List.length_map]; omega
  have hI : intR 0 (Int.toNat ((l.map f).length : Int)) = intR 0 l.length := by rw [Int.toNat_natCast, List.length_map]
  have hz : szOk (la.map f).length = true := szOk_of (by rw [List.length_map, e4.length_eq]; omega)
  simp only [run_mk, List.map_cons, List.map_nil, List.length_cons, List.length_nil, List.cons_append, List.nil_append, List.replicate_succ, List.replicate_zero, Nat.reduceAdd, Nat.reduceSub, List.getElem?_cons_zero, List.getElem?_cons_succ, List.set_cons_zero, List.set_cons_succ, R.bind_ok, sCons, sNil, sIf, sRet, retL, dropL, sSet, setL, sDrop, sUnp, sPar, lNil, lCons, kF, putL, gN, gT, gAll, kC, kX, kD, kG, kS, scl, k1, k2, L.get, L.take, T.toD, aNil, aCons, kTup, kLst, bVal, bAnd, bOr, bNot, kAnd, kOr, kNot, kIf, boolOf, kCall, cNil, cV, cMv, cPass, lend, back, resL, outs, endOf, srcAt, kSGet, kSLen, kInt, SF.get, SF.put, bl, nm, if_true, if_false, Bool.false_eq_true, Bool.not_true, Bool.not_false, D_u_law_mixed, px, kComp, iRg1, pl, zn, and_self, hI, e1, hz]
end K11

set_option Elab.async false
set_option linter.all false
set_option maxRecDepth 100000
set_option maxHeartbeats 4000000
set_option pp.maxSteps 600
namespace K11
open PySem KV
abbrev eN (n : Nat) : D := .int (n : Nat)
theorem getD_at {l : List α} {i : Nat} {d0 : α} (h : i < l.length) : l[i]? = some (l.getD i d0) := by
  rw [List.getD_eq_getElem?_getD, List.getElem?_eq_getElem h]; rfl
theorem cast_eq {a b : Nat} : decide (((a : Nat) : Int) = ((b : Nat) : Int)) = decide (a = b) := by
  by_cases h : a = b
  · subst h; simp
  · rw [decide_eq_false h, decide_eq_false (by omega)]
/-! ### machines of numbers and texts -/
abbrev Stp := List Nat × Nat × List Nat
def stpE (s : Stp) : D := .tuple [.tuple (s.1.map eN), eN s.2.1, .tuple (s.2.2.map eN)]
structure Mach where
  W : List Str
  B : List Nat
  Y : List Nat
  S : List (List Stp)
def lineE (l : List Stp) : D := .tuple (l.map stpE)
def Mach.enc (M : Mach) : D := .tuple [strsE M.W, .tuple (M.B.map eN), .tuple (M.Y.map eN), .tuple (M.S.map lineE)]
abbrev Stn := Nat × List Str
def stnE (s : Stn) : D := .tuple [eN s.1, strsE s.2]
/-- so many things at a mode by a sign -/
def Mach.many (M : Mach) (i j : Nat) : Nat := M.W.length + M.B.getD i 0 + if j = M.W.length + M.B.getD i 0 then 1 else 0
def Mach.stp (M : Mach) (i j : Nat) : Stp := (M.S.getD i []).getD j ([], 0, [])
structure MOk (M : Mach) : Prop where
  wk : ∀ x ∈ M.W, Sk x
  ws : M.W.length ≤ 4
  b1 : 1 ≤ M.B.length
  b60 : M.B.length ≤ 60
  b0 : M.B.getD 0 0 = 0
  b5 : ∀ x ∈ M.B, x < 5
  sl : M.S.length = M.B.length
  ll : ∀ i, i < M.B.length → (M.S.getD i []).length = M.W.length + M.B.getD i 0 + 1
  an : ∀ i j, i < M.B.length → j ≤ M.W.length + M.B.getD i 0 → ∀ x ∈ (M.stp i j).1, x < M.many i j
  al : ∀ i j, i < M.B.length → j ≤ M.W.length + M.B.getD i 0 → (M.stp i j).1.length ≤ 8
  lt : ∀ i j, i < M.B.length → j ≤ M.W.length + M.B.getD i 0 → (M.stp i j).2.1 < M.B.length
  fn : ∀ i j, i < M.B.length → j ≤ M.W.length + M.B.getD i 0 → ∀ x ∈ (M.stp i j).2.2, M.W.length ≤ x ∧ x < M.many i j
  fl : ∀ i j, i < M.B.length → j ≤ M.W.length + M.B.getD i 0 → (M.stp i j).2.2.length = M.B.getD (M.stp i j).2.1 0
  fu : ∀ i j, i < M.B.length → j ≤ M.W.length + M.B.getD i 0 → (M.stp i j).2.2.Nodup
structure StOk (M : Mach) (s : Stn) : Prop where
  lt : s.1 < M.B.length
  ln : s.2.length = M.B.getD s.1 0
  sk : ∀ x ∈ s.2, Sk x
/-! ### signs -/
def idxS (v : Str) : List Str → Nat
  | [] => 0
  | w :: r => if w = v then 0 else idxS v r + 1
theorem idxS_lt {v : Str} : ∀ {l : List Str}, v ∈ l → idxS v l < l.length
  | [], h => by cases h
  | w :: r, h => by
    unfold idxS
    split
    · simp
    · rename_i n
      have := idxS_lt (l := r) ((List.mem_cons.mp h).resolve_left (fun e => n e.symm))
      rw [List.length_cons]
      omega
theorem firstAt_strs {v : Str} : ∀ {l : List Str}, v ∈ l → firstAt (.str v) (l.map PyData.str) = some (idxS v l)
  | [], h => by cases h
  | w :: r, h => by
    rw [List.map_cons, firstAt, eqv_str]
    unfold idxS
    by_cases e : w = v
    · rw [if_pos (by simpa using e), if_pos e]
    · rw [if_neg (by simpa using e), if_neg e, firstAt_strs ((List.mem_cons.mp h).resolve_left (fun q => e q.symm))]
      rfl
def sgF (M : Mach) (s : Stn) (v : Str) : Nat := if v ∈ M.W then idxS v M.W else M.W.length + if v ∈ s.2 then idxS v s.2 else s.2.length
theorem sgF_le {M : Mach} {s : Stn} {v : Str} (h : StOk M s) : sgF M s v ≤ M.W.length + M.B.getD s.1 0 := by
  unfold sgF
  rw [← h.ln]
  split
  · rename_i q
    have := idxS_lt q
    omega
  · split
    · rename_i q
      have := idxS_lt q
      omega
    · omega
theorem nmN {n : Nat} : nm (n : Int) = .ok (.d (.int (n : Nat))) := rfl
theorem idx_T {v : Str} {l : List Str} (hv : Sk v) (hl : ∀ x ∈ l, Sk x) (h : v ∈ l) : pIndex (.tuple (l.map PyData.str)) (.str v) = .ok (.d (.int (idxS v l : Nat))) := by
  unfold pIndex
  simp only [eqOk_sk hv, show eqOk (.tuple (l.map PyData.str)) = true from eqOk_strs hl, Bool.and_self, if_true, firstAt_strs h]
  rfl
theorem idx_L {v : Str} {l : List Str} (hv : Sk v) (hl : ∀ x ∈ l, Sk x) (h : v ∈ l) : pIndex (.list (l.map PyData.str)) (.str v) = .ok (.d (.int (idxS v l : Nat))) := by
  unfold pIndex
  simp only [eqOk_sk hv, show eqOk (.list (l.map PyData.str)) = true from (fit_lst (fit_strs hl) (Nat.le_refl _)).eqOk (by decide), Bool.and_self, if_true, firstAt_strs h]
  rfl
theorem add_nn {a b : Nat} : pAdd (.int (a : Nat)) (.int (b : Nat)) = .ok (.d (.int ((a + b : Nat) : Int))) := rfl
section
variable {M : Mach} {s : Stn} {v : Str}
theorem sign_at_ok (o : MOk M) (hs : StOk M s) (hv : Sk v) : D_sign_at.run [.val M.enc, .val (stnE s), .val (.str v)] = .ok (.val (.int (sgF M s v : Nat)), []) := by
  have lw : pLen (strsE M.W) = .ok (.d (.int (M.W.length : Nat))) := pLenM
  have ls : pLen (strsE s.2) = .ok (.d (.int (s.2.length : Nat))) := pLenM
  have i1 : pIn (.str v) (strsE M.W) = bl (decide (v ∈ M.W)) := in_strsT hv o.wk
  have i2 : pIn (.str v) (strsE s.2) = bl (decide (v ∈ s.2)) := in_strsT hv hs.sk
  unfold sgF Mach.enc stnE
  by_cases h1 : v ∈ M.W
  · have x1 : pIndex (strsE M.W) (.str v) = .ok (.d (.int (idxS v M.W : Nat))) := idx_T hv o.wk h1
    rw [if_pos h1]
    simp only [run_mk, List.map_cons, List.map_nil, List.length_cons, List.length_nil, List.cons_append, List.nil_append, List.replicate_succ, List.replicate_zero, Nat.reduceAdd, Nat.reduceSub, List.getElem?_cons_zero, List.getElem?_cons_succ, List.set_cons_zero, List.set_cons_succ, R.bind_ok, sCons, sNil, sIf, sRet, retL, dropL, sSet, setL, sDrop, sUnp, sPar, lNil, lCons, kF, putL, gN, gT, gAll, kC, kX, kD, kG, kS, scl, k1, k2, L.get, L.take, T.toD, aNil, aCons, kTup, kLst, bVal, bAnd, bOr, bNot, kAnd, kOr, kNot, kIf, boolOf, kCall, cNil, cV, cMv, cPass, lend, back, resL, outs, endOf, srcAt, kSGet, kSLen, kInt, SF.get, SF.put, bl, nm, if_true, if_false, Bool.false_eq_true, Bool.not_true, Bool.not_false, D_sign_at, i1, h1, decide_true, kIndex, show likeSeq (strsE M.W) (strsE M.W) = true from rfl, x1]
  · rw [if_neg h1]
    by_cases h2 : v ∈ s.2
    · have x2 : pIndex (strsE s.2) (.str v) = .ok (.d (.int (idxS v s.2 : Nat))) := idx_T hv hs.sk h2
      rw [if_pos h2]
      simp only [run_mk, List.map_cons, List.map_nil, List.length_cons, List.length_nil, List.cons_append, List.nil_append, List.replicate_succ, List.replicate_zero, Nat.reduceAdd, Nat.reduceSub, List.getElem?_cons_zero, List.getElem?_cons_succ, List.set_cons_zero, List.set_cons_succ, R.bind_ok, sCons, sNil, sIf, sRet, retL, dropL, sSet, setL, sDrop, sUnp, sPar, lNil, lCons, kF, putL, gN, gT, gAll, kC, kX, kD, kG, kS, scl, k1, k2, L.get, L.take, T.toD, aNil, aCons, kTup, kLst, bVal, bAnd, bOr, bNot, kAnd, kOr, kNot, kIf, boolOf, kCall, cNil, cV, cMv, cPass, lend, back, resL, outs, endOf, srcAt, kSGet, kSLen, kInt, SF.get, SF.put, bl, nm, if_true, if_false, Bool.false_eq_true, Bool.not_true, Bool.not_false, D_sign_at, i1, h1, decide_false, lw, ix1, i2, h2, decide_true, kIndex, show likeSeq (strsE s.2) (strsE s.2) = true from rfl, x2, add_nn]
    · rw [if_neg h2]
      simp only [run_mk, List.map_cons, List.map_nil, List.length_cons, List.length_nil, List.cons_append, List.nil_append, List.replicate_succ, List.replicate_zero, Nat.reduceAdd, Nat.reduceSub, List.getElem?_cons_zero, List.getElem?_cons_succ, List.set_cons_zero, List.set_cons_succ, R.bind_ok, sCons, sNil, sIf, sRet, retL, dropL, sSet, setL, sDrop, sUnp, sPar, lNil, lCons, kF, putL, gN, gT, gAll, kC, kX, kD, kG, kS, scl, k1, k2, L.get, L.take, T.toD, aNil, aCons, kTup, kLst, bVal, bAnd, bOr, bNot, kAnd, kOr, kNot, kIf, boolOf, kCall, cNil, cV, cMv, cPass, lend, back, resL, outs, endOf, srcAt, kSGet, kSLen, kInt, SF.get, SF.put, bl, nm, if_true, if_false, Bool.false_eq_true, Bool.not_true, Bool.not_false, D_sign_at, i1, h1, decide_false, lw, ix1, i2, h2, ls, add_nn]
/-! ### steps -/
def thg (M : Mach) (s : Stn) (v : Str) : List Str := M.W ++ s.2 ++ [v]
def bhF (M : Mach) (s : Stn) (v : Str) : List Str × Stn :=
  ((M.stp s.1 (sgF M s v)).1.map fun k => (thg M s v).getD k "", (M.stp s.1 (sgF M s v)).2.1, (M.stp s.1 (sgF M s v)).2.2.map fun k => (thg M s v).getD k "")
theorem many_le {i j : Nat} : M.many i j ≤ M.W.length + M.B.getD i 0 + 1 := by
  unfold Mach.many
  split <;> omega
theorem thg_len (hs : StOk M s) : (thg M s v).length = M.W.length + M.B.getD s.1 0 + 1 := by
  unfold thg
  rw [List.length_append, List.length_append, List.length_singleton, hs.ln]
theorem thg_sk (o : MOk M) (hs : StOk M s) (hv : Sk v) : ∀ x ∈ thg M s v, Sk x := fun x hx => by
  unfold thg at hx
  rcases List.mem_append.mp hx with q | q
  · rcases List.mem_append.mp q with p | p
    · exact o.wk x p
    · exact hs.sk x p
  · rw [List.mem_singleton.mp q]; exact hv
theorem getD_mem {l : List Str} {k : Nat} (h : k < l.length) : l.getD k "" ∈ l := List.mem_of_getElem? (getD_at (α := Str) (d0 := "") h)
theorem bh_ok (o : MOk M) (hs : StOk M s) (hv : Sk v) : StOk M (bhF M s v).2 ∧ (∀ x ∈ (bhF M s v).1, Sk x) ∧ (bhF M s v).1.length ≤ 8 := by
  have le := sgF_le (v := v) hs
  have lt := o.lt s.1 (sgF M s v) hs.lt le
  refine ⟨⟨lt, ?_, ?_⟩, ?_, ?_⟩
  · show (List.map _ _).length = _
    rw [List.length_map]
    exact o.fl s.1 _ hs.lt le
  · intro x hx
    obtain ⟨k, hk, rfl⟩ := List.mem_map.mp hx
    have := (o.fn s.1 _ hs.lt le k hk).2
    exact thg_sk o hs hv _ (getD_mem (by rw [thg_len hs]; have := many_le (M := M) (i := s.1) (j := sgF M s v); omega))
  · intro x hx
    obtain ⟨k, hk, rfl⟩ := List.mem_map.mp hx
    have := o.an s.1 _ hs.lt le k hk
    exact thg_sk o hs hv _ (getD_mem (by rw [thg_len hs]; have := many_le (M := M) (i := s.1) (j := sgF M s v); omega))
  · show (List.map _ _).length ≤ 8
    rw [List.length_map]
    exact o.al s.1 _ hs.lt le
theorem stp_ix (o : MOk M) (hs : StOk M s) : pIx (.tuple (M.S.map lineE)) (.int (s.1 : Nat)) = .ok (.d (lineE (M.S.getD s.1 []))) ∧ pIx (lineE (M.S.getD s.1 [])) (.int (sgF M s v : Nat)) = .ok (.d (stpE (M.stp s.1 (sgF M s v)))) := by
  have h1 : s.1 < M.S.length := by rw [o.sl]; exact hs.lt
  have h2 : sgF M s v < (M.S.getD s.1 []).length := by
    rw [o.ll s.1 hs.lt]
    have := sgF_le (v := v) hs
    omega
  exact ⟨nodict_pIxT (by rw [List.getElem?_map, getD_at (d0 := []) h1]; rfl), nodict_pIxT (by rw [List.getElem?_map, getD_at (d0 := ([], 0, [])) h2]; rfl)⟩
def ansE (l : List Str) : D := strsE l
def bhE (b : List Str × Stn) : D := .tuple [strsE b.1, stnE b.2]
theorem things_comp {g : GV} {f : EV} {own : List Nat} {st : Sl} {ks : List Nat} {L : List Str} (S : Nat → Sl) (hw : wipeD st own = st) (h : ∀ k ∈ ks, k < L.length ∧ g (eN k) st = .ok (S k) ∧ wipeD (S k) own = st ∧ kD f (S k) = .ok (.str (L.getD k ""), S k)) :
    compD g none f own (ks.map eN) st = .ok ((ks.map fun k => L.getD k "").map PyData.str, st) := by
  have hc := comp_map (g := g) (c := none) (f := f) (own := own) (s := st) eN S (fun _ => true) (fun k => .str (L.getD k "")) hw (xs := ks) (fun k hk => ⟨(h k hk).2.1, (h k hk).2.2.1, rfl, fun _ => (h k hk).2.2.2⟩)
  rw [List.filter_eq_self.mpr (fun _ _ => rfl)] at hc
  rw [hc, List.map_map]
  rfl
theorem behind_ok (o : MOk M) (hs : StOk M s) (hv : Sk v) : D_stand_behind.run [.val M.enc, .val (stnE s), .val (.str v)] = .ok (.val (bhE (bhF M s v)), []) := by
  have sg := sign_at_ok o hs hv
  have le := sgF_le (v := v) hs
  obtain ⟨i1, i2⟩ := stp_ix (v := v) o hs
  have tl := thg_len (v := v) hs
  have hb8 : M.B.getD s.1 0 < 5 := o.b5 _ (List.mem_of_getElem? (getD_at (d0 := 0) hs.lt))
  have xk : ∀ k, k < (thg M s v).length → pIx (.tuple ((thg M s v).map PyData.str)) (eN k) = .ok (.d (.str ((thg M s v).getD k ""))) := fun k hk => nodict_pIxT (by rw [List.getElem?_map, getD_at (α := Str) (d0 := "") hk]; rfl)
  have c1 := things_comp (g := gN 8) (f := k2 pIx (kX 4) (kX 8)) (own := [8]) (st := [some (.val M.enc), some (.val (stnE s)), some (.val (.str v)), some (.val (.int (sgF M s v : Nat))), some (.val (.tuple ((thg M s v).map PyData.str))), some (.val (.tuple ((M.stp s.1 (sgF M s v)).1.map eN))), some (.val (eN (M.stp s.1 (sgF M s v)).2.1)), some (.val (.tuple ((M.stp s.1 (sgF M s v)).2.2.map eN))), none]) (ks := (M.stp s.1 (sgF M s v)).1) (L := thg M s v) (fun k => [some (.val M.enc), some (.val (stnE s)), some (.val (.str v)), some (.val (.int (sgF M s v : Nat))), some (.val (.tuple ((thg M s v).map PyData.str))), some (.val (.tuple ((M.stp s.1 (sgF M s v)).1.map eN))), some (.val (eN (M.stp s.1 (sgF M s v)).2.1)), some (.val (.tuple ((M.stp s.1 (sgF M s v)).2.2.map eN))), some (.val (eN k))]) rfl (fun k hk => by
    have h1 := o.an s.1 _ hs.lt le k hk
    have h2 := many_le (M := M) (i := s.1) (j := sgF M s v)
    have hk : k < (thg M s v).length := by omega
    have := xk k hk
    exact ⟨hk, rfl, rfl, by simp only [run_mk, List.map_cons, List.map_nil, List.length_cons, List.length_nil, List.cons_append, List.nil_append, List.replicate_succ, List.replicate_zero, Nat.reduceAdd, Nat.reduceSub, List.getElem?_cons_zero, List.getElem?_cons_succ, List.set_cons_zero, List.set_cons_succ, R.bind_ok, sCons, sNil, sIf, sRet, retL, dropL, sSet, setL, sDrop, sUnp, sPar, lNil, lCons, kF, putL, gN, gT, gAll, kC, kX, kD, kG, kS, scl, k1, k2, L.get, L.take, T.toD, aNil, aCons, kTup, kLst, bVal, bAnd, bOr, bNot, kAnd, kOr, kNot, kIf, boolOf, kCall, cNil, cV, cMv, cPass, lend, back, resL, outs, endOf, srcAt, kSGet, kSLen, kInt, SF.get, SF.put, bl, nm, if_true, if_false, Bool.false_eq_true, Bool.not_true, Bool.not_false, this]⟩)
  have c2 := things_comp (g := gN 8) (f := k2 pIx (kX 4) (kX 8)) (own := [8]) (st := [some (.val M.enc), some (.val (stnE s)), some (.val (.str v)), some (.val (.int (sgF M s v : Nat))), some (.val (.tuple ((thg M s v).map PyData.str))), some (.val (.tuple ((M.stp s.1 (sgF M s v)).1.map eN))), some (.val (eN (M.stp s.1 (sgF M s v)).2.1)), some (.val (.tuple ((M.stp s.1 (sgF M s v)).2.2.map eN))), none]) (ks := (M.stp s.1 (sgF M s v)).2.2) (L := thg M s v) (fun k => [some (.val M.enc), some (.val (stnE s)), some (.val (.str v)), some (.val (.int (sgF M s v : Nat))), some (.val (.tuple ((thg M s v).map PyData.str))), some (.val (.tuple ((M.stp s.1 (sgF M s v)).1.map eN))), some (.val (eN (M.stp s.1 (sgF M s v)).2.1)), some (.val (.tuple ((M.stp s.1 (sgF M s v)).2.2.map eN))), some (.val (eN k))]) rfl (fun k hk => by
    have h1 := (o.fn s.1 _ hs.lt le k hk).2
    have h2 := many_le (M := M) (i := s.1) (j := sgF M s v)
    have hk : k < (thg M s v).length := by omega
    have := xk k hk
    exact ⟨hk, rfl, rfl, by simp only [run_mk, List.map_cons, List.map_nil, List.length_cons, List.length_nil, List.cons_append, List.nil_append, List.replicate_succ, List.replicate_zero, Nat.reduceAdd, Nat.reduceSub, List.getElem?_cons_zero, List.getElem?_cons_succ, List.set_cons_zero, List.set_cons_succ, R.bind_ok, sCons, sNil, sIf, sRet, retL, dropL, sSet, setL, sDrop, sUnp, sPar, lNil, lCons, kF, putL, gN, gT, gAll, kC, kX, kD, kG, kS, scl, k1, k2, L.get, L.take, T.toD, aNil, aCons, kTup, kLst, bVal, bAnd, bOr, bNot, kAnd, kOr, kNot, kIf, boolOf, kCall, cNil, cV, cMv, cPass, lend, back, resL, outs, endOf, srcAt, kSGet, kSLen, kInt, SF.get, SF.put, bl, nm, if_true, if_false, Bool.false_eq_true, Bool.not_true, Bool.not_false, this]⟩)
  have z1 : szOk (((M.stp s.1 (sgF M s v)).1.map fun k => (thg M s v).getD k "").map PyData.str).length = true := szOk_of (by
    rw [List.length_map, List.length_map]
    have := o.al s.1 _ hs.lt le
    omega)
  have z2 : szOk (((M.stp s.1 (sgF M s v)).2.2.map fun k => (thg M s v).getD k "").map PyData.str).length = true := szOk_of (by
    rw [List.length_map, List.length_map, o.fl s.1 _ hs.lt le]
    have := o.b5 _ (List.mem_of_getElem? (getD_at (d0 := 0) (o.lt s.1 _ hs.lt le)))
    omega)
  have th : M.W.map PyData.str ++ (s.2.map PyData.str ++ [PyData.str v]) = (thg M s v).map PyData.str := by
    unfold thg
    rw [List.map_append, List.map_append, List.append_assoc]
    rfl
  have zt : szOk ((thg M s v).map PyData.str).length = true := szOk_of (by rw [List.length_map, tl]; have := o.ws; omega)
  have zt2 := zt
  rw [← th] at zt2
  have e1 : pIx M.enc (.int 0) = .ok (.d (strsE M.W)) := ix0
  have e3 : pIx M.enc (.int 3) = .ok (.d (.tuple (M.S.map lineE))) := ix3
  have f0 : pIx (stnE s) (.int 0) = .ok (.d (.int (s.1 : Nat))) := ix0
  have f1 : pIx (stnE s) (.int 1) = .ok (.d (strsE s.2)) := ix1
  have sW : seqOf (strsE M.W) = .ok (M.W.map PyData.str) := rfl
  have sV : seqOf (strsE s.2) = .ok (s.2.map PyData.str) := rfl
  simp only [run_mk, List.map_cons, List.map_nil, List.length_cons, List.length_nil, List.cons_append, List.nil_append, List.replicate_succ, List.replicate_zero, Nat.reduceAdd, Nat.reduceSub, List.getElem?_cons_zero, List.getElem?_cons_succ, List.set_cons_zero, List.set_cons_succ, R.bind_ok, sCons, sNil, sIf, sRet, retL, dropL, sSet, setL, sDrop, sUnp, sPar, lNil, lCons, kF, putL, gN, gT, gAll, kC, kX, kD, kG, kS, scl, k1, k2, L.get, L.take, T.toD, aNil, aCons, kTup, kLst, bVal, bAnd, bOr, bNot, kAnd, kOr, kNot, kIf, boolOf, kCall, cNil, cV, cMv, cPass, lend, back, resL, outs, endOf, srcAt, kSGet, kSLen, kInt, SF.get, SF.put, bl, nm, if_true, if_false, Bool.false_eq_true, Bool.not_true, Bool.not_false, D_stand_behind, sg, aStar, e1, f1, sW, sV, th, zt, e3, f0, i1, i2]
  simp only [run_mk, List.map_cons, List.map_nil, List.length_cons, List.length_nil, List.cons_append, List.nil_append, List.replicate_succ, List.replicate_zero, Nat.reduceAdd, Nat.reduceSub, List.getElem?_cons_zero, List.getElem?_cons_succ, List.set_cons_zero, List.set_cons_succ, R.bind_ok, sCons, sNil, sIf, sRet, retL, dropL, sSet, setL, sDrop, sUnp, sPar, lNil, lCons, kF, putL, gN, gT, gAll, kC, kX, kD, kG, kS, scl, k1, k2, L.get, L.take, T.toD, aNil, aCons, kTup, kLst, bVal, bAnd, bOr, bNot, kAnd, kOr, kNot, kIf, boolOf, kCall, cNil, cV, cMv, cPass, lend, back, resL, outs, endOf, srcAt, kSGet, kSLen, kInt, SF.get, SF.put, bl, nm, if_true, if_false, Bool.false_eq_true, Bool.not_true, Bool.not_false, stpE, iSeq, seq_t, kComp, c1, z1, pTuple, c2, z2, szOk2]
  rfl
end
end K11

set_option Elab.async false
set_option linter.all false
set_option maxRecDepth 100000
set_option maxHeartbeats 4000000
set_option pp.maxSteps 600
namespace K11
open PySem KV
theorem last_ix {xs : List D} {x : D} : pIx (.list (xs ++ [x])) (.int (-1)) = .ok (.d x) := by
  have : ixD (xs ++ [x]).length (-1) = some xs.length := by
    unfold ixD L2.ixN
    simp only [List.length_append, List.length_singleton]
    split <;> simp_all <;> omega
  simp only [pIx, this, Option.bind_some]
  simp [optD]
theorem cut_last {xs : List D} {x : D} : pSl none (some (-1)) (.list (xs ++ [x])) = .ok (.t (.lst xs)) := by
  have : HT.sIx (xs ++ [x]).length (xs ++ [x]).length (some (-1)) = xs.length := by
    unfold HT.sIx
    simp only [List.length_append, List.length_singleton]
    split <;> simp_all <;> omega
  simp only [pSl, cutD, HT.sIx_none, List.drop_zero, Nat.sub_zero, this]
  simp
theorem last_ixT {xs : List D} {x : D} : pIx (.tuple (xs ++ [x])) (.int (-1)) = .ok (.d x) := by
  have : ixD (xs ++ [x]).length (-1) = some xs.length := by
    unfold ixD L2.ixN
    simp only [List.length_append, List.length_singleton]
    split <;> simp_all <;> omega
  simp only [pIx, this, Option.bind_some]
  simp [optD]
theorem cut_lastT {xs : List D} {x : D} : pSl none (some (-1)) (.tuple (xs ++ [x])) = .ok (.d (.tuple xs)) := by
  have h := cut_last (xs := xs) (x := x)
  unfold pSl at h ⊢
  simp only [R.ok.injEq, L.t.injEq, T.lst.injEq] at h ⊢
  rw [h]
theorem pn1 : pNeg (.int 1) = .ok (.d (.int (-1))) := rfl
/-! ### runs -/
def runS (M : Mach) : Stn → List Str → List (List Str × Stn)
  | _, [] => []
  | s, v :: r => bhF M s v :: runS M (bhF M s v).2 r
def iniS (M : Mach) : Stn → List Str → List Stn
  | _, [] => []
  | s, v :: r => s :: iniS M (bhF M s v).2 r
def lasS (M : Mach) : Stn → List Str → Stn
  | s, [] => s
  | s, v :: r => lasS M (bhF M s v).2 r
abbrev st0 : Stn := (0, [])
def ansF (M : Mach) (row : List Str) : List (List Str) := (runS M st0 row).map (·.1)
def stsF (M : Mach) (row : List Str) : List Stn := st0 :: (runS M st0 row).map (·.2)
section
variable {M : Mach}
theorem runS_len : ∀ {r : List Str} {s : Stn}, (runS M s r).length = r.length
  | [], _ => rfl
  | v :: r, s => by rw [runS, List.length_cons, List.length_cons, runS_len]
theorem iniS_len : ∀ {r : List Str} {s : Stn}, (iniS M s r).length = r.length
  | [], _ => rfl
  | v :: r, s => by rw [iniS, List.length_cons, List.length_cons, iniS_len]
theorem sts_split : ∀ {r : List Str} {s : Stn}, s :: (runS M s r).map (·.2) = iniS M s r ++ [lasS M s r]
  | [], _ => rfl
  | v :: r, s => by
    rw [runS, iniS, lasS, List.map_cons, sts_split]
    rfl
theorem run_all (o : MOk M) : ∀ {r : List Str} {s : Stn}, StOk M s → (∀ v ∈ r, Sk v) → StOk M (lasS M s r) ∧ (∀ x ∈ iniS M s r, StOk M x) ∧ ∀ x ∈ runS M s r, StOk M x.2 ∧ (∀ y ∈ x.1, Sk y) ∧ x.1.length ≤ 8
  | [], s, h, _ => ⟨h, (fun _ q => (nomatch q)), (fun _ q => (nomatch q))⟩
  | v :: r, s, h, hr => by
    have b := bh_ok o h (hr v (List.mem_cons_self ..))
    obtain ⟨h1, h2, h3⟩ := run_all o (r := r) b.1 fun y hy => hr y (List.mem_cons_of_mem _ hy)
    refine ⟨h1, fun x hx => ?_, fun x hx => ?_⟩
    · rcases List.mem_cons.mp hx with q | q
      · rw [q]; exact h
      · exact h2 x q
    · rcases List.mem_cons.mp hx with q | q
      · rw [q]; exact b
      · exact h3 x q
theorem run_at : ∀ {r : List Str} {s : Stn} {k : Nat}, k < r.length → (runS M s r).getD k ([], st0) = bhF M ((s :: (runS M s r).map (·.2)).getD k st0) (r.getD k "")
  | [], _, _, h => by cases h
  | v :: r, s, 0, _ => rfl
  | v :: r, s, k + 1, h => by
    have := run_at (r := r) (s := (bhF M s v).2) (k := k) (by simpa using h)
    exact this
theorem ini_at : ∀ {r : List Str} {s : Stn} {k : Nat}, k < r.length → (iniS M s r).getD k st0 = (s :: (runS M s r).map (·.2)).getD k st0
  | [], _, _, h => by cases h
  | v :: r, s, 0, _ => rfl
  | v :: r, s, k + 1, h => ini_at (r := r) (s := (bhF M s v).2) (k := k) (by simpa using h)
def rS (M : Mach) (row : D) (A Z : List D) (t4 t5 t6 : Option T) : Sl := [some (.val M.enc), some (.val row), some (.lst A), some (.lst Z), t4, t5, t6]
theorem rloop (o : MOk M) {row : D} : ∀ {r : List Str} {s : Stn} {A Z : List D} {t4 t5 t6 : Option T}, StOk M s → (∀ v ∈ r, Sk v) → A.length + r.length ≤ 1000 → Z.length + r.length ≤ 1000 →
    ∃ t4' t5' t6', forD (gN 4) (sCons (sUnp (gT [(gN 5), (gN 6)]) (kCall (D_stand_behind).run (cV (kX 0) (cV (k2 pIx (kX 3) (k1 pNeg (kC (.int 1)))) (cV (kX 4) cNil))))) (sCons (sDrop (kApp 2 (kX 5))) (sCons (sDrop (kApp 3 (kX 6))) sNil))) (r.map PyData.str) (rS M row A (Z ++ [stnE s]) t4 t5 t6) = .ok (.nx, rS M row (A ++ (runS M s r).map fun b => strsE b.1) (Z ++ (stnE s :: (runS M s r).map fun b => stnE b.2)) t4' t5' t6')
  | [], s, A, Z, t4, t5, t6, _, _, _, _ => ⟨t4, t5, t6, by rw [runS, List.map_nil, List.map_nil, List.map_nil, List.append_nil]; rfl⟩
  | v :: r, s, A, Z, t4, t5, t6, hs, hr, hA, hZ => by
    have hv := hr v (List.mem_cons_self ..)
    have bk := behind_ok o hs hv
    obtain ⟨t4', t5', t6', e⟩ := rloop o (row := row) (r := r) (s := (bhF M s v).2) (A := A ++ [strsE (bhF M s v).1]) (Z := Z ++ [stnE s]) (t4 := some (.val (.str v))) (t5 := some (.val (strsE (bhF M s v).1))) (t6 := some (.val (stnE (bhF M s v).2))) (bh_ok o hs hv).1 (fun y hy => hr y (List.mem_cons_of_mem _ hy)) (by rw [List.length_append, List.length_singleton]; rw [List.length_cons] at hA; omega) (by rw [List.length_append, List.length_singleton]; rw [List.length_cons] at hZ; omega)
    refine ⟨t4', t5', t6', ?_⟩
    have z1 : szOk (A.length + 1) = true := szOk_of (by rw [List.length_cons] at hA; omega)
    have z2 : szOk ((Z ++ [stnE s]).length + 1) = true := szOk_of (by rw [List.length_append, List.length_singleton]; rw [List.length_cons] at hZ; omega)
    rw [List.map_cons, forD_nx (s1 := rS M row A (Z ++ [stnE s]) (some (.val (.str v))) t5 t6) (s2 := rS M row (A ++ [strsE (bhF M s v).1]) (Z ++ [stnE s] ++ [stnE (bhF M s v).2]) (some (.val (.str v))) (some (.val (strsE (bhF M s v).1))) (some (.val (stnE (bhF M s v).2)))) (fl := .nx) rfl ?_ (.inl rfl), e]
    · rw [runS, List.map_cons, List.map_cons, List.append_assoc, List.append_assoc]
      rfl
    · simp only [run_mk, List.map_cons, List.map_nil, List.length_cons, List.length_nil, List.cons_append, List.nil_append, List.replicate_succ, List.replicate_zero, Nat.reduceAdd, Nat.reduceSub, List.getElem?_cons_zero, List.getElem?_cons_succ, List.set_cons_zero, List.set_cons_succ, R.bind_ok, sCons, sNil, sIf, sRet, retL, dropL, sSet, setL, sDrop, sUnp, sPar, lNil, lCons, kF, putL, gN, gT, gAll, kC, kX, kD, kG, kS, scl, k1, k2, L.get, L.take, T.toD, aNil, aCons, kTup, kLst, bVal, bAnd, bOr, bNot, kAnd, kOr, kNot, kIf, boolOf, kCall, cNil, cV, cMv, cPass, lend, back, resL, outs, endOf, srcAt, kSGet, kSLen, kInt, SF.get, SF.put, bl, nm, if_true, if_false, Bool.false_eq_true, Bool.not_true, Bool.not_false, rS, pn1, last_ix, bk, bhE, kApp, z1, z2]
theorem run_ok (o : MOk M) {row : List Str} (hr : ∀ v ∈ row, Sk v) (hl : row.length ≤ 900) : D_run_of.run [.val M.enc, .val (strsE row)] = .ok (.val (.tuple [.tuple ((ansF M row).map strsE), .tuple ((stsF M row).map stnE)]), []) := by
  have h0 : StOk M st0 := ⟨o.b1, o.b0.symm, fun x hx => by cases hx⟩
  obtain ⟨t4, t5, t6, e⟩ := rloop o (row := strsE row) (r := row) (s := st0) (A := []) (Z := []) (t4 := none) (t5 := none) (t6 := none) h0 hr (by simp; omega) (by simp; omega)
  have a1 : ([] : List D) ++ (runS M st0 row).map (fun b => strsE b.1) = (ansF M row).map strsE := by unfold ansF; rw [List.map_map]; rfl
  have a2 : ([] : List D) ++ (stnE st0 :: (runS M st0 row).map (fun b => stnE b.2)) = (stsF M row).map stnE := by unfold stsF; rw [List.map_cons, List.map_map]; rfl
  rw [a1, a2] at e
  simp only [rS, List.nil_append] at e
  have e0 : PyData.tuple [.int 0, .tuple []] = stnE st0 := rfl
  have sr : seqOf (strsE row) = .ok (row.map PyData.str) := rfl
  simp only [run_mk, List.map_cons, List.map_nil, List.length_cons, List.length_nil, List.cons_append, List.nil_append, List.replicate_succ, List.replicate_zero, Nat.reduceAdd, Nat.reduceSub, List.getElem?_cons_zero, List.getElem?_cons_succ, List.set_cons_zero, List.set_cons_succ, R.bind_ok, sCons, sNil, sIf, sRet, retL, dropL, sSet, setL, sDrop, sUnp, sPar, lNil, lCons, kF, putL, gN, gT, gAll, kC, kX, kD, kG, kS, scl, k1, k2, L.get, L.take, T.toD, aNil, aCons, kTup, kLst, bVal, bAnd, bOr, bNot, kAnd, kOr, kNot, kIf, boolOf, kCall, cNil, cV, cMv, cPass, lend, back, resL, outs, endOf, srcAt, kSGet, kSLen, kInt, SF.get, SF.put, bl, nm, if_true, if_false, Bool.false_eq_true, Bool.not_true, Bool.not_false, D_run_of, szOk0, szOk1, szOk2, e0, sFor, iSeq, sr, e, pTuple]
theorem answers_ok (o : MOk M) {row : List Str} (hr : ∀ v ∈ row, Sk v) (hl : row.length ≤ 900) : D_answers_of.run [.val M.enc, .val (strsE row)] = .ok (.val (.tuple ((ansF M row).map strsE)), []) := by
  have r1 := run_ok o hr hl
  simp only [run_mk, List.map_cons, List.map_nil, List.length_cons, List.length_nil, List.cons_append, List.nil_append, List.replicate_succ, List.replicate_zero, Nat.reduceAdd, Nat.reduceSub, List.getElem?_cons_zero, List.getElem?_cons_succ, List.set_cons_zero, List.set_cons_succ, R.bind_ok, sCons, sNil, sIf, sRet, retL, dropL, sSet, setL, sDrop, sUnp, sPar, lNil, lCons, kF, putL, gN, gT, gAll, kC, kX, kD, kG, kS, scl, k1, k2, L.get, L.take, T.toD, aNil, aCons, kTup, kLst, bVal, bAnd, bOr, bNot, kAnd, kOr, kNot, kIf, boolOf, kCall, cNil, cV, cMv, cPass, lend, back, resL, outs, endOf, srcAt, kSGet, kSLen, kInt, SF.get, SF.put, bl, nm, if_true, if_false, Bool.false_eq_true, Bool.not_true, Bool.not_false, D_answers_of, r1, ix0]
theorem ans_8 (o : MOk M) {row : List Str} (hr : ∀ v ∈ row, Sk v) : ∀ x ∈ ansF M row, x.length ≤ 8 ∧ ∀ y ∈ x, Sk y := fun x hx => by
  have h0 : StOk M st0 := ⟨o.b1, o.b0.symm, fun x hx => by cases hx⟩
  obtain ⟨b, hb, rfl⟩ := List.mem_map.mp hx
  have := (run_all o h0 hr).2.2 b hb
  exact ⟨this.2.2, this.2.1⟩
theorem ans_len {row : List Str} : (ansF M row).length = row.length := by unfold ansF; rw [List.length_map, runS_len]
/-! ### the signs of a row -/
theorem zipD_map {α β : Type} {f : α → D} {g : β → D} : ∀ {a : List α} {b : List β}, zipD (a.map f) (b.map g) = (a.zip b).map fun p => .tuple [f p.1, g p.2]
  | [], b => by simp [zipD]
  | x :: a, [] => by simp [zipD]
  | x :: a, y :: b => by
    rw [List.map_cons, List.map_cons, zipD, zipD_map]
    rfl
theorem zip_mem {α β : Type} : ∀ {a : List α} {b : List β} {p : α × β}, p ∈ a.zip b → p.1 ∈ a ∧ p.2 ∈ b := fun {a b p} h => List.of_mem_zip (show (p.1, p.2) ∈ a.zip b from h)
theorem zip_app {α β : Type} {z : α} : ∀ {a : List α} {b : List β}, a.length = b.length → (a ++ [z]).zip b = a.zip b
  | [], [], _ => rfl
  | x :: a, y :: b, h => by
    show (x, y) :: (a ++ [z]).zip b = (x, y) :: a.zip b
    rw [zip_app (by simpa using h)]
end
end K11

set_option Elab.async false
set_option linter.all false
set_option maxRecDepth 100000
set_option maxHeartbeats 4000000
set_option pp.maxSteps 600
namespace K11
open PySem KV
/-! ### what is come to -/
def addT (L : List Nat) (s : Stp) : List Nat := if s.2.1 ∈ L then L else L ++ [s.2.1]
def addL (L : List Nat) (line : List Stp) : List Nat := line.foldl addT L
inductive Come (M : Mach) : Nat → List Nat → List Nat → Prop
  | done {k : Nat} {L : List Nat} : L.length ≤ k → Come M k L L
  | more {k : Nat} {L R : List Nat} : k < L.length → Come M (k + 1) (addL L (M.S.getD (L.getD k 0) [])) R → Come M k L R
structure CG (M : Mach) (L : List Nat) : Prop where
  nd : L.Nodup
  lt : ∀ x ∈ L, x < M.B.length
  h0 : L.getD 0 0 = 0
  ne : 1 ≤ L.length
section
variable {M : Mach} {L R : List Nat} {k : Nat}
theorem nd_len : ∀ {n : Nat} {L : List Nat}, L.Nodup → (∀ x ∈ L, x < n) → L.length ≤ n
  | 0, L, _, h => by
    cases L with
    | nil => exact Nat.le_refl _
    | cons x r => exact absurd (h x (List.mem_cons_self ..)) (Nat.not_lt_zero _)
  | n + 1, L, nd, h => by
    have h1 := nd_len (n := n) (L := L.erase n) (nd.erase n) (fun x hx => by
      have h1 := h x (List.mem_of_mem_erase hx)
      have h2 := ((List.Nodup.mem_erase_iff nd).mp hx).1
      omega)
    by_cases q : n ∈ L
    · rw [List.length_erase_of_mem q] at h1; omega
    · rw [List.erase_of_not_mem q] at h1; omega
theorem CG.len (h : CG M L) : L.length ≤ M.B.length := nd_len h.nd h.lt
theorem CG.at (h : CG M L) (hk : k < L.length) : L.getD k 0 < M.B.length := h.lt _ (List.mem_of_getElem? (getD_at (d0 := 0) hk))
theorem addT_pre {s : Stp} : L <+: addT L s := by
  unfold addT
  split
  · exact List.prefix_rfl
  · exact List.prefix_append _ _
theorem addL_pre : ∀ {line : List Stp} {L : List Nat}, L <+: addL L line
  | [], _ => List.prefix_rfl
  | s :: r, L => (addT_pre (s := s)).trans (addL_pre (line := r) (L := addT L s))
theorem addT_mem {s : Stp} : s.2.1 ∈ addT L s := by
  unfold addT
  split
  · assumption
  · simp
theorem addL_mem : ∀ {line : List Stp} {L : List Nat} {s : Stp}, s ∈ line → s.2.1 ∈ addL L line
  | s :: r, L, x, h => by
    rcases List.mem_cons.mp h with rfl | h
    · exact (addL_pre (line := r) (L := addT L x)).mem addT_mem
    · exact addL_mem (line := r) h
theorem pre_at {A B : List Nat} (p : A <+: B) (hk : k < A.length) : B.getD k 0 = A.getD k 0 := by
  obtain ⟨t, rfl⟩ := p
  rw [List.getD_eq_getElem?_getD, List.getD_eq_getElem?_getD, List.getElem?_append_left hk]
theorem addT_cg {s : Stp} (h : CG M L) (hs : s.2.1 < M.B.length) : CG M (addT L s) := by
  unfold addT
  split
  · exact h
  · rename_i q
    refine ⟨List.nodup_append.mpr ⟨h.nd, by simp, fun a ha b hb e => ?_⟩, fun x hx => ?_, ?_, by rw [List.length_append]; have := h.ne; omega⟩
    · rw [List.mem_singleton.mp hb] at e
      exact q (e ▸ ha)
    · rcases List.mem_append.mp hx with p | p
      · exact h.lt x p
      · rw [List.mem_singleton.mp p]; exact hs
    · rw [pre_at (List.prefix_append _ _) h.ne]; exact h.h0
theorem addL_cg : ∀ {line : List Stp} {L : List Nat}, CG M L → (∀ s ∈ line, s.2.1 < M.B.length) → CG M (addL L line)
  | [], _, h, _ => h
  | s :: r, L, h, hs => addL_cg (line := r) (addT_cg h (hs s (List.mem_cons_self ..))) fun x hx => hs x (List.mem_cons_of_mem _ hx)
theorem line_lt (o : MOk M) {i : Nat} (hi : i < M.B.length) : ∀ s ∈ M.S.getD i [], s.2.1 < M.B.length := fun s hs => by
  obtain ⟨j, hj, rfl⟩ := List.getElem_of_mem hs
  have e2 : (M.S.getD i [])[j] = M.stp i j := by unfold Mach.stp; rw [List.getD_eq_getElem?_getD (l := M.S.getD i []), List.getElem?_eq_getElem hj]; rfl
  rw [e2]
  rw [o.ll i hi] at hj
  exact o.lt i j hi (by omega)
theorem come_ex (o : MOk M) : ∀ {n k : Nat} {L : List Nat}, M.B.length - k ≤ n → CG M L → ∃ R, Come M k L R
  | n, k, L, hn, h => by
    by_cases q : k < L.length
    · have := h.len
      match n, hn with
      | 0, hn => exact absurd hn (by omega)
      | n + 1, hn =>
        obtain ⟨R, hR⟩ := come_ex o (n := n) (k := k + 1) (by omega) (addL_cg h (line_lt o (h.at q)))
        exact ⟨R, .more q hR⟩
    · exact ⟨L, .done (by omega)⟩
theorem Come.pre (c : Come M k L R) : L <+: R := by
  induction c with
  | done _ => exact List.prefix_rfl
  | more _ _ ih => exact addL_pre.trans ih
theorem Come.cg (o : MOk M) (c : Come M k L R) (h : CG M L) : CG M R := by
  induction c with
  | done _ => exact h
  | more hk _ ih => exact ih (addL_cg h (line_lt o (h.at hk)))
theorem Come.closed (c : Come M k L R) : ∀ i, k ≤ i → i < R.length → ∀ s ∈ M.S.getD (R.getD i 0) [], s.2.1 ∈ R := by
  induction c with
  | done h => intro i h1 h2; omega
  | more hk c ih =>
    intro i h1 h2 s hs
    rename_i k L R
    by_cases q : i = k
    · subst q
      rw [pre_at (addL_pre.trans c.pre) hk] at hs
      exact c.pre.mem (addL_mem hs)
    · exact ih i (by omega) h2 s hs
theorem cg0 (o : MOk M) : CG M [0] := ⟨by simp, fun x hx => by rw [List.mem_singleton.mp hx]; exact o.b1, rfl, Nat.le_refl _⟩
/-- the modes that are come to -/
structure Rch (M : Mach) (R : List Nat) : Prop where
  cm : Come M 0 [0] R
  cg : CG M R
  cl : ∀ i, i < R.length → ∀ s ∈ M.S.getD (R.getD i 0) [], s.2.1 ∈ R
theorem rch_ex (o : MOk M) : ∃ R, Rch M R := by
  obtain ⟨R, c⟩ := come_ex o (n := M.B.length) (k := 0) (L := [0]) (by omega) (cg0 o)
  exact ⟨R, c, c.cg o (cg0 o), fun i hi => c.closed i (Nat.zero_le _) hi⟩
/-! ### numbered -/
def idxN (v : Nat) : List Nat → Nat
  | [] => 0
  | w :: r => if w = v then 0 else idxN v r + 1
theorem idxN_lt {v : Nat} : ∀ {l : List Nat}, v ∈ l → idxN v l < l.length
  | w :: r, h => by
    unfold idxN
    split
    · simp
    · rename_i n
      have := idxN_lt (l := r) ((List.mem_cons.mp h).resolve_left (fun e => n e.symm))
      rw [List.length_cons]
      omega
theorem idxN_at {v : Nat} : ∀ {l : List Nat}, v ∈ l → l.getD (idxN v l) 0 = v
  | w :: r, h => by
    unfold idxN
    split
    · rename_i e; exact e
    · rename_i n
      exact idxN_at (l := r) ((List.mem_cons.mp h).resolve_left (fun e => n e.symm))
theorem idxN_pre {v : Nat} : ∀ {A B : List Nat}, A <+: B → v ∈ A → idxN v B = idxN v A
  | w :: r, B, ⟨t, e⟩, h => by
    subst e
    rw [List.cons_append]
    unfold idxN
    split
    · rfl
    · rename_i n
      rw [idxN_pre (A := r) (List.prefix_append _ _) ((List.mem_cons.mp h).resolve_left (fun e => n e.symm))]
theorem idxN_new {v : Nat} : ∀ {l : List Nat}, v ∉ l → idxN v (l ++ [v]) = l.length
  | [], _ => by simp [idxN]
  | w :: r, h => by
    rw [List.cons_append]
    unfold idxN
    rw [if_neg (fun e => h (by rw [e]; exact List.mem_cons_self ..)), idxN_new (fun q => h (List.mem_cons_of_mem _ q)), List.length_cons]
def numS (R : List Nat) (s : Stp) : Stp := (s.1, idxN s.2.1 R, s.2.2)
def numM (M : Mach) (R : List Nat) : Mach := ⟨M.W, R.map (M.B.getD · 0), (List.range R.length).filter (fun k => decide (R.getD k 0 ∈ M.Y)), R.map fun m => (M.S.getD m []).map (numS R)⟩
theorem num_B {i : Nat} (hi : i < R.length) : (numM M R).B.getD i 0 = M.B.getD (R.getD i 0) 0 := by
  show (R.map (M.B.getD · 0)).getD i 0 = _
  rw [List.getD_eq_getElem?_getD, List.getElem?_map, getD_at (d0 := 0) hi]
  rfl
theorem num_Bl : (numM M R).B.length = R.length := List.length_map ..
theorem num_S {i : Nat} (hi : i < R.length) : (numM M R).S.getD i [] = (M.S.getD (R.getD i 0) []).map (numS R) := by
  show (R.map fun m => (M.S.getD m []).map (numS R)).getD i [] = _
  rw [List.getD_eq_getElem?_getD, List.getElem?_map, getD_at (d0 := 0) hi]
  rfl
theorem num_stp {i j : Nat} (hi : i < R.length) (hj : j < (M.S.getD (R.getD i 0) []).length) : (numM M R).stp i j = numS R (M.stp (R.getD i 0) j) := by
  unfold Mach.stp
  rw [num_S hi, List.getD_eq_getElem?_getD, List.getElem?_map, getD_at (d0 := ([], 0, [])) hj]
  rfl
theorem num_many {i j : Nat} (hi : i < R.length) : (numM M R).many i j = M.many (R.getD i 0) j := by
  unfold Mach.many
  rw [num_B hi]
  rfl
theorem stp_mem {i j : Nat} (o : MOk M) (hi : i < M.B.length) (hj : j ≤ M.W.length + M.B.getD i 0) : M.stp i j ∈ M.S.getD i [] := by
  have hj2 : j < (M.S.getD i []).length := by rw [o.ll i hi]; omega
  exact List.mem_of_getElem? (getD_at (d0 := ([], 0, [])) hj2)
theorem num_at (o : MOk M) (h : Rch M R) {i j : Nat} (hi : i < (numM M R).B.length) (hj : j ≤ (numM M R).W.length + (numM M R).B.getD i 0) :
    R.getD i 0 < M.B.length ∧ j ≤ M.W.length + M.B.getD (R.getD i 0) 0 ∧ (numM M R).stp i j = numS R (M.stp (R.getD i 0) j) ∧ (numM M R).many i j = M.many (R.getD i 0) j ∧ (M.stp (R.getD i 0) j).2.1 ∈ R := by
  rw [num_Bl] at hi
  rw [num_B hi] at hj
  have h1 := h.cg.at hi
  have hj : j ≤ M.W.length + M.B.getD (R.getD i 0) 0 := hj
  exact ⟨h1, hj, num_stp hi (by rw [o.ll _ h1]; omega), num_many hi, h.cl i hi _ (stp_mem o h1 hj)⟩
theorem num_ok (o : MOk M) (h : Rch M R) : MOk (numM M R) where
  wk := o.wk
  ws := o.ws
  b1 := by rw [num_Bl]; exact h.cg.ne
  b60 := by rw [num_Bl]; exact Nat.le_trans h.cg.len o.b60
  b0 := by rw [num_B h.cg.ne, h.cg.h0]; exact o.b0
  b5 := fun x hx => by
    obtain ⟨m, hm, rfl⟩ := List.mem_map.mp hx
    exact o.b5 _ (List.mem_of_getElem? (getD_at (d0 := 0) (h.cg.lt m hm)))
  sl := by rw [num_Bl]; exact List.length_map ..
  ll := fun i hi => by
    rw [num_Bl] at hi
    rw [num_S hi, List.length_map, o.ll _ (h.cg.at hi), num_B hi]
    rfl
  an := fun i j hi hj => by
    obtain ⟨h1, h2, h3, h4, h5⟩ := num_at o h hi hj
    rw [h3, h4]
    exact o.an _ j h1 h2
  al := fun i j hi hj => by
    obtain ⟨h1, h2, h3, h4, h5⟩ := num_at o h hi hj
    rw [h3]
    exact o.al _ j h1 h2
  lt := fun i j hi hj => by
    obtain ⟨h1, h2, h3, h4, h5⟩ := num_at o h hi hj
    rw [h3, num_Bl]
    exact idxN_lt h5
  fn := fun i j hi hj => by
    obtain ⟨h1, h2, h3, h4, h5⟩ := num_at o h hi hj
    rw [h3, h4]
    exact o.fn _ j h1 h2
  fl := fun i j hi hj => by
    obtain ⟨h1, h2, h3, h4, h5⟩ := num_at o h hi hj
    rw [h3]
    show (M.stp (R.getD i 0) j).2.2.length = (numM M R).B.getD (idxN (M.stp (R.getD i 0) j).2.1 R) 0
    rw [num_B (idxN_lt h5), idxN_at h5]
    exact o.fl _ j h1 h2
  fu := fun i j hi hj => by
    obtain ⟨h1, h2, h3, h4, h5⟩ := num_at o h hi hj
    rw [h3]
    exact o.fu _ j h1 h2
/-! ### they answer alike -/
theorem num_bh (o : MOk M) (h : Rch M R) {i : Nat} {vs : List Str} (hi : i < R.length) (hs : StOk M (R.getD i 0, vs)) {v : Str} :
    (bhF (numM M R) (i, vs) v).1 = (bhF M (R.getD i 0, vs) v).1 ∧ (bhF (numM M R) (i, vs) v).2.2 = (bhF M (R.getD i 0, vs) v).2.2 ∧ R.getD (bhF (numM M R) (i, vs) v).2.1 0 = (bhF M (R.getD i 0, vs) v).2.1 ∧ (bhF (numM M R) (i, vs) v).2.1 < R.length := by
  have e1 : sgF (numM M R) (i, vs) v = sgF M (R.getD i 0, vs) v := rfl
  have le := sgF_le (v := v) hs
  have lt := hs.lt
  obtain ⟨h1, h2, h3, h4, h5⟩ := num_at o h (i := i) (j := sgF M (R.getD i 0, vs) v) (by rw [num_Bl]; exact hi) (by rw [num_B hi]; exact le)
  unfold bhF
  rw [e1]
  simp only
  rw [h3]
  exact ⟨rfl, rfl, idxN_at h5, idxN_lt h5⟩
theorem num_run (o : MOk M) (h : Rch M R) : ∀ {row : List Str} {i : Nat} {vs : List Str}, i < R.length → StOk M (R.getD i 0, vs) → (∀ v ∈ row, Sk v) →
    (runS (numM M R) (i, vs) row).map (·.1) = (runS M (R.getD i 0, vs) row).map (·.1)
  | [], _, _, _, _, _ => rfl
  | v :: r, i, vs, hi, hs, hv => by
    obtain ⟨a1, a2, a3, a4⟩ := num_bh o h hi hs (v := v)
    rw [runS, runS, List.map_cons, List.map_cons, a1]
    have b := (bh_ok o hs (hv v (List.mem_cons_self ..))).1
    have e1 : (bhF (numM M R) (i, vs) v).2 = ((bhF (numM M R) (i, vs) v).2.1, (bhF M (R.getD i 0, vs) v).2.2) := by rw [← a2]
    have e2 : (bhF M (R.getD i 0, vs) v).2 = (R.getD (bhF (numM M R) (i, vs) v).2.1 0, (bhF M (R.getD i 0, vs) v).2.2) := by rw [a3]
    rw [e1, e2, num_run o h a4 (e2 ▸ b) fun x hx => hv x (List.mem_cons_of_mem _ hx)]
theorem num_ans (o : MOk M) (h : Rch M R) {row : List Str} (hv : ∀ v ∈ row, Sk v) : ansF (numM M R) row = ansF M row := by
  have := num_run o h (row := row) (i := 0) (vs := []) h.cg.ne (by rw [h.cg.h0]; exact ⟨o.b1, by rw [o.b0]; rfl, fun _ q => (nomatch q)⟩) hv
  rw [h.cg.h0] at this
  exact this
end
end K11

set_option Elab.async false
set_option linter.all false
set_option maxRecDepth 100000
set_option maxHeartbeats 4000000
set_option pp.maxSteps 600
namespace K11
open PySem KV
/-! ### made_machine -/
def I0 : SV := (sUnp (gT [(gN 12), (gN 13), (gN 14)]) (kClo 4 (cV (kX 9) (cV (kX 11) cNil))))
def I1 : SV := (sIf (bVal (k2 pGt (k1 pLen (kX 12)) (kC (.int 8)))) (sCons sNever sNil) sNil)
def I2 : SV := (sIf (bVal (k2 pNotIn (kX 13) (kX 6))) (sCons (sIf (bVal (k2 pGt (kClo 2 (cV (kX 13) cNil)) (kC (.int 4)))) (sCons sNever sNil) sNil) (sCons (sIf (bVal (k2 pEq (k1 pLen (kX 5)) (kC (.int 60)))) (sCons sNever sNil) sNil) (sCons (sPt 6 (kX 13) (k1 pLen (kX 5))) (sCons (sDrop (kApp 5 (kX 13))) sNil)))) sNil)
def I3 : SV := (sDrop (kApp 10 (kTup (aCons (k1 pTuple (kX 12)) (aCons (k2 pIx (kX 6) (kX 13)) (aCons (k1 pTuple (kX 14)) aNil))))))
def inB' : SV := (sCons I0 (sCons I1 (sCons I2 (sCons I3 sNil))))
def W0' : SV := (sPar [9, 10] (lCons (k2 pIx (kX 5) (k1 pLen (kX 7))) (lCons (kLst aNil) lNil)))
def W1' : SV := (sFor (iRg1 (k2 pAdd (k2 pAdd (k1 pLen (kX 0)) (kClo 2 (cV (kX 9) cNil))) (kC (.int 1)))) (gN 11) inB')
def W2' : SV := (sDrop (kApp 7 (k1 pTuple (kX 10))))
def whC : BV := (bVal (k2 pLt (k1 pLen (kX 7)) (k1 pLen (kX 5))))
def whB : SV := (sCons W0' (sCons W1' (sCons W2' sNil)))
def G0 : SV := (sIf (bVal (k2 pGt (kClo 2 (cV (kX 1) cNil)) (kC (.int 4)))) (sCons sNever sNil) sNil)
def G1 : SV := (sPar [5, 6, 7] (lCons (kLst (aCons (kX 1) aNil)) (lCons (kDisp (dCons (kX 1) (kC (.int 0)) dNil)) (lCons (kLst aNil) lNil))))
def G3 : SV := (sSet 8 (k1 pTuple (kComp (iEnum (kX 5)) (gT [(gN 15), (gN 16)]) (some (bVal (kClo 3 (cV (kX 16) cNil)))) (kX 15) [15, 16])))
def G4 : SV := (sRet (kTup (aCons (kTup (aCons (k1 pTuple (kX 0)) (aCons (k1 pTuple (kComp (iSeq (kX 5)) (gN 16) none (kClo 2 (cV (kX 16) cNil)) [16])) (aCons (kX 8) (aCons (k1 pTuple (kX 7)) aNil))))) (aCons (k1 pTuple (kX 5)) aNil))))
theorem made_def : D_made_machine = ⟨17, [], (sCons G0 (sCons G1 (sCons (sWhile whC whB) (sCons G3 (sCons G4 sNil)))))⟩ := rfl
theorem sFor_it {it : IV} {g : GV} {b : SV} {s s1 : Sl} {xs : List D} (h : it s = .ok (xs, s1)) : sFor it g b s = forD g b xs s1 := by
  show (it s).bind _ = _
  rw [h]
  rfl
theorem iRg1_it {f : EV} {s s1 : Sl} {m : Nat} (h : kD f s = .ok (.int (m : Nat), s1)) (hm : m ≤ 1000000) : iRg1 f s = .ok (intR 0 m, s1) := by
  have e3 : ((m : Nat) : Int) ≤ 16000000 ∧ -16000000 ≤ ((m : Nat) : Int) := ⟨by omega, by omega⟩
  unfold iRg1
  rw [h, R.bind_ok]
  show (if ((m : Nat) : Int) ≤ 16000000 ∧ -16000000 ≤ ((m : Nat) : Int) then R.ok (intR 0 (Int.toNat ((m : Nat) : Int)), s1) else .no) = _
  rw [if_pos e3, Int.toNat_natCast]
theorem kComp_it {it : IV} {g : GV} {c : Option BV} {f : EV} {own : List Nat} {s s1 s2 : Sl} {xs ys : List D} (h : it s = .ok (xs, s1)) (hc : compD g c f own xs s1 = .ok (ys, s2)) (z : szOk ys.length = true) : kComp it g c f own s = .ok (.t (.lst ys), s2) := by
  unfold kComp
  rw [h, R.bind_ok]
  show (compD g c f own xs s1).bind _ = _
  rw [hc, R.bind_ok]
  simp only [z, if_true]
theorem eqv_Z (a b : Int) : PyData.eqv (.int a) (.int b) = decide (a = b) := by
  show (a == b) = _
  by_cases h : a = b
  · subst h; simp
  · simp [h]
theorem eqv_N (a b : Nat) : PyData.eqv (eN a) (eN b) = decide (a = b) := by
  rw [eqv_Z]
  by_cases h : a = b
  · subst h; simp
  · rw [decide_eq_false h, decide_eq_false (by omega)]
theorem in_yes {n : Nat} : ∀ {Y : List Nat}, inB (eN n) (Y.map eN) = decide (n ∈ Y)
  | [] => rfl
  | y :: Y => by
    have ih := in_yes (n := n) (Y := Y)
    have e : inB (eN n) ((y :: Y).map eN) = (PyData.eqv (eN y) (eN n) || inB (eN n) (Y.map eN)) := rfl
    rw [e, ih, eqv_N]
    by_cases q : y = n
    · subst q
      simp
    · have : ¬ n = y := fun e => q e.symm
      simp [q, this]
theorem intR0 {n : Nat} : intR 0 n = (List.range n).map eN := by
  unfold intR
  apply List.map_congr_left
  intro i _
  rw [Int.zero_add]
theorem _root_.KV.fit.eqT {n m : Nat} {ds : List D} (h : ∀ d ∈ ds, fit n m d) (hn : n ≤ 60) : eqOk (.tuple ds) = true := (fit_tup h (Nat.le_refl _)).eqOk (by omega)
/-! ### the dict of what is known -/
def kn : Nat → List Nat → List (D × D)
  | _, [] => []
  | k, x :: r => (eN x, eN k) :: kn (k + 1) r
theorem kn_len : ∀ {Ls : List Nat} {k : Nat}, (kn k Ls).length = Ls.length
  | [], _ => rfl
  | x :: r, k => by rw [kn, List.length_cons, List.length_cons, kn_len]
theorem kn_has {v : Nat} : ∀ {Ls : List Nat} {k : Nat}, hasB (kn k Ls) (eN v) = decide (v ∈ Ls)
  | [], _ => by simp [kn, hasB]
  | x :: r, k => by
    have ih := kn_has (v := v) (Ls := r) (k := k + 1)
    unfold hasB at ih ⊢
    rw [kn, List.any_cons, ih, eqv_N]
    by_cases q : x = v
    · subst q; simp
    · have : ¬ v = x := fun e => q e.symm
      simp [q, this]
theorem kn_look {v : Nat} : ∀ {Ls : List Nat} {k : Nat}, v ∈ Ls → lookD (kn k Ls) (eN v) = some (eN (k + idxN v Ls))
  | x :: r, k, h => by
    unfold lookD
    rw [kn, List.find?_cons, eqv_N]
    unfold idxN
    by_cases q : x = v
    · rw [decide_eq_true q, if_pos q]; rfl
    · rw [decide_eq_false q, if_neg q]
      have ih := kn_look (v := v) (Ls := r) (k := k + 1) ((List.mem_cons.mp h).resolve_left (fun e => q e.symm))
      unfold lookD at ih
      simp only
      rw [ih]
      have e : k + 1 + idxN v r = k + (idxN v r + 1) := by omega
      rw [e]
theorem kn_app {v : Nat} : ∀ {Ls : List Nat} {k : Nat}, kn k (Ls ++ [v]) = kn k Ls ++ [(eN v, eN (k + Ls.length))]
  | [], k => rfl
  | x :: r, k => by
    have e : k + 1 + r.length = k + (r.length + 1) := by omega
    rw [List.cons_append, kn, kn, kn_app, List.cons_append, List.length_cons, e]
theorem kn_put {v : Nat} {Ls : List Nat} (h : v ∉ Ls) : putD (kn 0 Ls) (eN v) (eN Ls.length) = kn 0 (Ls ++ [v]) := by
  unfold putD
  rw [kn_has, decide_eq_false h, kn_app, Nat.zero_add]
  rfl
/-! ### the functions handed on -/
section
variable {M : Mach} {Rs Ls : List Nat} {Ts : List (List Stp)}
def fB (M : Mach) : List D → R D := cloF 1 D_numbered_machine_2 [.tuple (M.B.map eN)]
def fY (M : Mach) : List D → R D := cloF 1 D_numbered_machine_1 [.tuple (M.Y.map eN)]
def fS (M : Mach) : List D → R D := cloF 2 D_numbered_machine_0 [.tuple (M.S.map lineE)]
theorem fB_ok {i : Nat} (hi : i < M.B.length) : fB M [eN i] = .ok (eN (M.B.getD i 0)) := by
  have xk : pIx (.tuple (M.B.map eN)) (eN i) = .ok (.d (eN (M.B.getD i 0))) := nodict_pIxT (by rw [List.getElem?_map, getD_at (d0 := 0) hi]; rfl)
  unfold fB cloF D_numbered_machine_2
  simp only [run_mk, List.map_cons, List.map_nil, List.length_cons, List.length_nil, List.cons_append, List.nil_append, List.replicate_succ, List.replicate_zero, Nat.reduceAdd, Nat.reduceSub, List.getElem?_cons_zero, List.getElem?_cons_succ, List.set_cons_zero, List.set_cons_succ, R.bind_ok, sCons, sNil, sIf, sRet, retL, dropL, sSet, setL, sDrop, sUnp, sPar, lNil, lCons, kF, putL, gN, gT, gAll, kC, kX, kD, kG, kS, scl, k1, k2, L.get, L.take, T.toD, aNil, aCons, kTup, kLst, bVal, bAnd, bOr, bNot, kAnd, kOr, kNot, kIf, boolOf, kCall, cNil, cV, cMv, cPass, lend, back, resL, outs, endOf, srcAt, kSGet, kSLen, kInt, SF.get, SF.put, bl, nm, if_true, if_false, Bool.false_eq_true, Bool.not_true, Bool.not_false, sRetD, resD, xk]
theorem fS_ok (o : MOk M) {i j : Nat} (hi : i < M.B.length) (hj : j ≤ M.W.length + M.B.getD i 0) : fS M [eN i, eN j] = .ok (stpE (M.stp i j)) := by
  have h1 : i < M.S.length := by rw [o.sl]; exact hi
  have h2 : j < (M.S.getD i []).length := by rw [o.ll i hi]; omega
  have x1 : pIx (.tuple (M.S.map lineE)) (eN i) = .ok (.d (lineE (M.S.getD i []))) := nodict_pIxT (by rw [List.getElem?_map, getD_at (d0 := []) h1]; rfl)
  have x2 : pIx (lineE (M.S.getD i [])) (eN j) = .ok (.d (stpE (M.stp i j))) := nodict_pIxT (by rw [List.getElem?_map, getD_at (d0 := ([], 0, [])) h2]; rfl)
  unfold fS cloF D_numbered_machine_0
  simp only [run_mk, List.map_cons, List.map_nil, List.length_cons, List.length_nil, List.cons_append, List.nil_append, List.replicate_succ, List.replicate_zero, Nat.reduceAdd, Nat.reduceSub, List.getElem?_cons_zero, List.getElem?_cons_succ, List.set_cons_zero, List.set_cons_succ, R.bind_ok, sCons, sNil, sIf, sRet, retL, dropL, sSet, setL, sDrop, sUnp, sPar, lNil, lCons, kF, putL, gN, gT, gAll, kC, kX, kD, kG, kS, scl, k1, k2, L.get, L.take, T.toD, aNil, aCons, kTup, kLst, bVal, bAnd, bOr, bNot, kAnd, kOr, kNot, kIf, boolOf, kCall, cNil, cV, cMv, cPass, lend, back, resL, outs, endOf, srcAt, kSGet, kSLen, kInt, SF.get, SF.put, bl, nm, if_true, if_false, Bool.false_eq_true, Bool.not_true, Bool.not_false, sRetD, resD, x1, x2]
theorem inYes {i : Nat} (hi : i < 100) (hy : ∀ x ∈ M.Y, x < 100) : pIn (eN i) (.tuple (M.Y.map eN)) = bl (decide (i ∈ M.Y)) := by
  have ey : eqOk (.tuple (M.Y.map eN)) = true := fit.eqT (n := 0) (m := 20) (fun d hd => by
    obtain ⟨x, hx, rfl⟩ := List.mem_map.mp hd
    exact fit_int (hy x hx)) (by decide)
  show (if _ then _ else _) = _
  rw [(fit_int hi).eqOk (by decide), ey]
  show bl (inB _ _) = _
  rw [in_yes]
theorem fY_ok {i : Nat} (hi : i < 100) (hy : ∀ x ∈ M.Y, x < 100) : fY M [eN i] = .ok (.bool (decide (i ∈ M.Y))) := by
  have := inYes hi hy
  unfold fY cloF D_numbered_machine_1
  simp only [run_mk, List.map_cons, List.map_nil, List.length_cons, List.length_nil, List.cons_append, List.nil_append, List.replicate_succ, List.replicate_zero, Nat.reduceAdd, Nat.reduceSub, List.getElem?_cons_zero, List.getElem?_cons_succ, List.set_cons_zero, List.set_cons_succ, R.bind_ok, sCons, sNil, sIf, sRet, retL, dropL, sSet, setL, sDrop, sUnp, sPar, lNil, lCons, kF, putL, gN, gT, gAll, kC, kX, kD, kG, kS, scl, k1, k2, L.get, L.take, T.toD, aNil, aCons, kTup, kLst, bVal, bAnd, bOr, bNot, kAnd, kOr, kNot, kIf, boolOf, kCall, cNil, cV, cMv, cPass, lend, back, resL, outs, endOf, srcAt, kSGet, kSLen, kInt, SF.get, SF.put, bl, nm, if_true, if_false, Bool.false_eq_true, Bool.not_true, Bool.not_false, sRetD, resD, this]
/-- the state -/
def mdS (M : Mach) (Ls : List Nat) (Ts : List (List Stp)) (v8 v9 v10 v11 v12 v13 v14 v15 v16 : Option T) : Sl :=
  [some (.val (strsE M.W)), some (.val (.int 0)), some (.clo 2 (fB M)), some (.clo 1 (fY M)), some (.clo 0 (fS M)), some (.lst (Ls.map eN)), some (.dct (kn 0 Ls)), some (.lst (Ts.map lineE)), v8, v9, v10, v11, v12, v13, v14, v15, v16]
variable {v8 v9 v10 v11 v12 v13 v14 v15 v16 : Option T} {i j : Nat} {acc : List Stp}
theorem i0_ok (o : MOk M) (hi : i < M.B.length) (hj : j ≤ M.W.length + M.B.getD i 0) :
    I0 (mdS M Ls Ts v8 (some (.val (eN i))) v10 (some (.val (eN j))) v12 v13 v14 v15 v16) =
      .ok (.nx, mdS M Ls Ts v8 (some (.val (eN i))) v10 (some (.val (eN j))) (some (.val (.tuple ((M.stp i j).1.map eN)))) (some (.val (eN (M.stp i j).2.1))) (some (.val (.tuple ((M.stp i j).2.2.map eN)))) v15 v16) := by
  have := fS_ok o hi hj
  simp only [run_mk, List.map_cons, List.map_nil, List.length_cons, List.length_nil, List.cons_append, List.nil_append, List.replicate_succ, List.replicate_zero, Nat.reduceAdd, Nat.reduceSub, List.getElem?_cons_zero, List.getElem?_cons_succ, List.set_cons_zero, List.set_cons_succ, R.bind_ok, sCons, sNil, sIf, sRet, retL, dropL, sSet, setL, sDrop, sUnp, sPar, lNil, lCons, kF, putL, gN, gT, gAll, kC, kX, kD, kG, kS, scl, k1, k2, L.get, L.take, T.toD, aNil, aCons, kTup, kLst, bVal, bAnd, bOr, bNot, kAnd, kOr, kNot, kIf, boolOf, kCall, cNil, cV, cMv, cPass, lend, back, resL, outs, endOf, srcAt, kSGet, kSLen, kInt, SF.get, SF.put, bl, nm, if_true, if_false, Bool.false_eq_true, Bool.not_true, Bool.not_false, I0, mdS, kClo, valsA, this, stpE, seqOf]
theorem i1_ok {a : List Nat} (ha : a.length ≤ 8) :
    I1 (mdS M Ls Ts v8 v9 v10 v11 (some (.val (.tuple (a.map eN)))) v13 v14 v15 v16) = .ok (.nx, mdS M Ls Ts v8 v9 v10 v11 (some (.val (.tuple (a.map eN)))) v13 v14 v15 v16) := by
  have pl : pLen (.tuple (a.map eN)) = .ok (.d (.int (a.length : Nat))) := pLenM
  have e0 : pGt (.int (a.length : Nat)) (.int 8) = bl false := by rw [pGt_int, decide_eq_false (by omega)]
  simp only [run_mk, List.map_cons, List.map_nil, List.length_cons, List.length_nil, List.cons_append, List.nil_append, List.replicate_succ, List.replicate_zero, Nat.reduceAdd, Nat.reduceSub, List.getElem?_cons_zero, List.getElem?_cons_succ, List.set_cons_zero, List.set_cons_succ, R.bind_ok, sCons, sNil, sIf, sRet, retL, dropL, sSet, setL, sDrop, sUnp, sPar, lNil, lCons, kF, putL, gN, gT, gAll, kC, kX, kD, kG, kS, scl, k1, k2, L.get, L.take, T.toD, aNil, aCons, kTup, kLst, bVal, bAnd, bOr, bNot, kAnd, kOr, kNot, kIf, boolOf, kCall, cNil, cV, cMv, cPass, lend, back, resL, outs, endOf, srcAt, kSGet, kSLen, kInt, SF.get, SF.put, bl, nm, if_true, if_false, Bool.false_eq_true, Bool.not_true, Bool.not_false, I1, mdS, pl, e0]
theorem pInD {v : Nat} : pNotIn (eN v) (.dict (kn 0 Ls)) = bl (!decide (v ∈ Ls)) := by
  unfold pNotIn
  show R.bind (bl (hasB (kn 0 Ls) (eN v))) _ = _
  rw [kn_has]
  rfl
theorem i2_ok (o : MOk M) (h : CG M Ls) {s : Stp} (hs : s.2.1 < M.B.length) :
    I2 (mdS M Ls Ts v8 v9 v10 v11 v12 (some (.val (eN s.2.1))) v14 v15 v16) = .ok (.nx, mdS M (addT Ls s) Ts v8 v9 v10 v11 v12 (some (.val (eN s.2.1))) v14 v15 v16) := by
  have h2 := (addT_cg h hs).len
  have b60 := o.b60
  unfold addT at h2 ⊢
  by_cases q : s.2.1 ∈ Ls
  · rw [if_pos q]
    have e0 : pNotIn (eN s.2.1) (.dict (kn 0 Ls)) = bl false := by rw [pInD, decide_eq_true q]; rfl
    simp only [run_mk, List.map_cons, List.map_nil, List.length_cons, List.length_nil, List.cons_append, List.nil_append, List.replicate_succ, List.replicate_zero, Nat.reduceAdd, Nat.reduceSub, List.getElem?_cons_zero, List.getElem?_cons_succ, List.set_cons_zero, List.set_cons_succ, R.bind_ok, sCons, sNil, sIf, sRet, retL, dropL, sSet, setL, sDrop, sUnp, sPar, lNil, lCons, kF, putL, gN, gT, gAll, kC, kX, kD, kG, kS, scl, k1, k2, L.get, L.take, T.toD, aNil, aCons, kTup, kLst, bVal, bAnd, bOr, bNot, kAnd, kOr, kNot, kIf, boolOf, kCall, cNil, cV, cMv, cPass, lend, back, resL, outs, endOf, srcAt, kSGet, kSLen, kInt, SF.get, SF.put, bl, nm, if_true, if_false, Bool.false_eq_true, Bool.not_true, Bool.not_false, I2, mdS, e0]
  · rw [if_neg q] at h2 ⊢
    rw [List.length_append, List.length_singleton] at h2
    have e0 : pNotIn (eN s.2.1) (.dict (kn 0 Ls)) = bl true := by rw [pInD, decide_eq_false q]; rfl
    have b5 : M.B.getD s.2.1 0 < 5 := o.b5 _ (List.mem_of_getElem? (getD_at (d0 := 0) hs))
    have e1 := fB_ok hs
    have e2 : pGt (eN (M.B.getD s.2.1 0)) (.int 4) = bl false := by rw [pGt_int, decide_eq_false (by omega)]
    have pl : pLen (.list (Ls.map eN)) = .ok (.d (.int (Ls.length : Nat))) := by
      show nm _ = _
      rw [List.length_map]; rfl
    have e3 : pEq (.int (Ls.length : Nat)) (.int 60) = bl false := by rw [pEq_int, decide_eq_false (by omega)]
    have ko : (keyOf (eN s.2.1)).isSome = true := rfl
    have z1 : szOk ((kn 0 Ls).length + 1) = true := szOk_of (by rw [kn_len]; omega)
    have z2 : szOk ((Ls.map eN).length + 1) = true := szOk_of (by rw [List.length_map]; omega)
    have kp := kn_put q
    have ap : Ls.map eN ++ [eN s.2.1] = (Ls ++ [s.2.1]).map eN := by rw [List.map_append]; rfl
    simp only [run_mk, List.map_cons, List.map_nil, List.length_cons, List.length_nil, List.cons_append, List.nil_append, List.replicate_succ, List.replicate_zero, Nat.reduceAdd, Nat.reduceSub, List.getElem?_cons_zero, List.getElem?_cons_succ, List.set_cons_zero, List.set_cons_succ, R.bind_ok, sCons, sNil, sIf, sRet, retL, dropL, sSet, setL, sDrop, sUnp, sPar, lNil, lCons, kF, putL, gN, gT, gAll, kC, kX, kD, kG, kS, scl, k1, k2, L.get, L.take, T.toD, aNil, aCons, kTup, kLst, bVal, bAnd, bOr, bNot, kAnd, kOr, kNot, kIf, boolOf, kCall, cNil, cV, cMv, cPass, lend, back, resL, outs, endOf, srcAt, kSGet, kSLen, kInt, SF.get, SF.put, bl, nm, if_true, if_false, Bool.false_eq_true, Bool.not_true, Bool.not_false, I2, mdS, e0, kClo, valsA, e1, e2, pl, e3, sPt, ko, z1, z2, Bool.and_true, kp, kApp, ap]
theorem i3_ok {s : Stp} (hs : s.2.1 ∈ Ls) (hp : Ls <+: Rs) (ha : acc.length ≤ 100) :
    I3 (mdS M Ls Ts v8 v9 (some (.lst (acc.map stpE))) v11 (some (.val (.tuple (s.1.map eN)))) (some (.val (eN s.2.1))) (some (.val (.tuple (s.2.2.map eN)))) v15 v16) =
      .ok (.nx, mdS M Ls Ts v8 v9 (some (.lst ((acc ++ [numS Rs s]).map stpE))) v11 (some (.val (.tuple (s.1.map eN)))) (some (.val (eN s.2.1))) (some (.val (.tuple (s.2.2.map eN)))) v15 v16) := by
  have lk : pIx (.dict (kn 0 Ls)) (eN s.2.1) = .ok (.d (eN (idxN s.2.1 Rs))) := by
    show optD (lookD (kn 0 Ls) (eN s.2.1)) = _
    rw [kn_look hs, Nat.zero_add, idxN_pre hp hs]
    rfl
  have p1 : ∀ l : List Nat, pTuple (.tuple (l.map eN)) = .ok (.d (.tuple (l.map eN))) := fun l => rfl
  have z2 : szOk ((acc.map stpE).length + 1) = true := szOk_of (by rw [List.length_map]; omega)
  have ap : acc.map stpE ++ [.tuple [.tuple (s.1.map eN), eN (idxN s.2.1 Rs), .tuple (s.2.2.map eN)]] = (acc ++ [numS Rs s]).map stpE := by rw [List.map_append]; rfl
  simp only [run_mk, List.map_cons, List.map_nil, List.length_cons, List.length_nil, List.cons_append, List.nil_append, List.replicate_succ, List.replicate_zero, Nat.reduceAdd, Nat.reduceSub, List.getElem?_cons_zero, List.getElem?_cons_succ, List.set_cons_zero, List.set_cons_succ, R.bind_ok, sCons, sNil, sIf, sRet, retL, dropL, sSet, setL, sDrop, sUnp, sPar, lNil, lCons, kF, putL, gN, gT, gAll, kC, kX, kD, kG, kS, scl, k1, k2, L.get, L.take, T.toD, aNil, aCons, kTup, kLst, bVal, bAnd, bOr, bNot, kAnd, kOr, kNot, kIf, boolOf, kCall, cNil, cV, cMv, cPass, lend, back, resL, outs, endOf, srcAt, kSGet, kSLen, kInt, SF.get, SF.put, bl, nm, if_true, if_false, Bool.false_eq_true, Bool.not_true, Bool.not_false, I3, mdS, lk, p1, kApp, z2, ap, szOk3]
theorem addL_snoc {line : List Stp} {s : Stp} : addL Ls (line ++ [s]) = addT (addL Ls line) s := by
  unfold addL
  rw [List.foldl_append]
  rfl
theorem in_loop (o : MOk M) (h : CG M Ls) (hi : i < M.B.length) (hp : addL Ls (M.S.getD i []) <+: Rs) :
    (forD (gN 11) inB' (intR 0 (M.W.length + M.B.getD i 0 + 1)) (mdS M Ls Ts v8 (some (.val (eN i))) (some (.lst [])) v11 v12 v13 v14 v15 v16)).W fun r => r.1 = .nx ∧
      ∃ u11 u12 u13 u14, r.2 = mdS M (addL Ls (M.S.getD i [])) Ts v8 (some (.val (eN i))) (some (.lst (((M.S.getD i []).map (numS Rs)).map stpE))) u11 u12 u13 u14 v15 v16 := by
  have ll := o.ll i hi
  have b5 : M.B.getD i 0 < 5 := o.b5 _ (List.mem_of_getElem? (getD_at (d0 := 0) hi))
  have ws := o.ws
  have hlt := line_lt o hi
  have w := for_inv (g := gN 11) (b := inB') (ds := intR 0 (M.W.length + M.B.getD i 0 + 1)) (s := mdS M Ls Ts v8 (some (.val (eN i))) (some (.lst [])) v11 v12 v13 v14 v15 v16)
    (fun j s => ∃ u11 u12 u13 u14, s = mdS M (addL Ls ((M.S.getD i []).take j)) Ts v8 (some (.val (eN i))) (some (.lst ((((M.S.getD i []).take j).map (numS Rs)).map stpE))) u11 u12 u13 u14 v15 v16)
    ⟨v11, v12, v13, v14, rfl⟩ (fun j x s hx ⟨u11, u12, u13, u14, e⟩ => by
      obtain ⟨hj, rfl⟩ := intR_in hx
      subst e
      have hj2 : j < (M.S.getD i []).length := by omega
      have tk : (M.S.getD i []).take (j + 1) = (M.S.getD i []).take j ++ [M.stp i j] := by
        rw [List.take_succ, getD_at (d0 := ([], 0, [])) hj2]
        rfl
      have c0 : CG M (addL Ls ((M.S.getD i []).take j)) := addL_cg h fun s hs => hlt s (List.mem_of_mem_take hs)
      have st : (M.stp i j).2.1 < M.B.length := o.lt i j hi (by omega)
      have pj : addT (addL Ls ((M.S.getD i []).take j)) (M.stp i j) <+: Rs := by
        rw [← addL_snoc, ← tk]
        refine List.IsPrefix.trans ?_ hp
        conv => rhs; rw [← List.take_append_drop (j + 1) (M.S.getD i [])]
        unfold addL
        rw [List.foldl_append]
        exact addL_pre
      refine R.W_of (a := mdS M (addL Ls ((M.S.getD i []).take j)) Ts v8 (some (.val (eN i))) (some (.lst ((((M.S.getD i []).take j).map (numS Rs)).map stpE))) (some (.val (eN j))) u12 u13 u14 v15 v16) rfl ?_
      have ev : inB' (mdS M (addL Ls ((M.S.getD i []).take j)) Ts v8 (some (.val (eN i))) (some (.lst ((((M.S.getD i []).take j).map (numS Rs)).map stpE))) (some (.val (eN j))) u12 u13 u14 v15 v16) = .ok (.nx, mdS M (addT (addL Ls ((M.S.getD i []).take j)) (M.stp i j)) Ts v8 (some (.val (eN i))) (some (.lst ((((M.S.getD i []).take j).map (numS Rs) ++ [numS Rs (M.stp i j)]).map stpE))) (some (.val (eN j))) (some (.val (.tuple ((M.stp i j).1.map eN)))) (some (.val (eN (M.stp i j).2.1))) (some (.val (.tuple ((M.stp i j).2.2.map eN)))) v15 v16) := by
        unfold inB'
        rw [sCons_nx (i0_ok o hi (by omega)), sCons_nx (i1_ok (o.al i j hi (by omega))), sCons_nx (i2_ok o c0 st), sCons_nx (i3_ok addT_mem pj (by rw [List.length_map, List.length_take]; omega))]
        rfl
      refine R.W_of ev ⟨.inl rfl, some (.val (eN j)), some (.val (.tuple ((M.stp i j).1.map eN))), some (.val (eN (M.stp i j).2.1)), some (.val (.tuple ((M.stp i j).2.2.map eN))), ?_⟩
      simp only [tk, addL_snoc, List.map_append]
      rfl)
  rw [intR_len, ← ll, List.take_length] at w
  exact ll ▸ w
end
end K11

set_option Elab.async false
set_option linter.all false
set_option maxRecDepth 100000
set_option maxHeartbeats 4000000
set_option pp.maxSteps 600
namespace K11
open PySem KV

section
variable {M : Mach} {Rs Ls : List Nat} {Ts : List (List Stp)} {v8 v9 v10 v11 v12 v13 v14 v15 v16 : Option T} {i k : Nat}
theorem pLenL {α : Type} {f : α → D} {l : List α} : pLen (.list (l.map f)) = .ok (.d (.int (l.length : Nat))) := by
  show nm _ = _
  rw [List.length_map]; rfl
theorem w0_ok (h : Ts.length < Ls.length) : W0' (mdS M Ls Ts v8 v9 v10 v11 v12 v13 v14 v15 v16) = .ok (.nx, mdS M Ls Ts v8 (some (.val (eN (Ls.getD Ts.length 0)))) (some (.lst [])) v11 v12 v13 v14 v15 v16) := by
  have pl : pLen (.list (Ts.map lineE)) = .ok (.d (.int (Ts.length : Nat))) := pLenL
  have xk : pIx (.list (Ls.map eN)) (.int (Ts.length : Nat)) = .ok (.d (eN (Ls.getD Ts.length 0))) := nodict_pIxL (by rw [List.getElem?_map, getD_at (d0 := 0) h]; rfl)
  simp only [run_mk, List.map_cons, List.map_nil, List.length_cons, List.length_nil, List.cons_append, List.nil_append, List.replicate_succ, List.replicate_zero, Nat.reduceAdd, Nat.reduceSub, List.getElem?_cons_zero, List.getElem?_cons_succ, List.set_cons_zero, List.set_cons_succ, R.bind_ok, sCons, sNil, sIf, sRet, retL, dropL, sSet, setL, sDrop, sUnp, sPar, lNil, lCons, kF, putL, gN, gT, gAll, kC, kX, kD, kG, kS, scl, k1, k2, L.get, L.take, T.toD, aNil, aCons, kTup, kLst, bVal, bAnd, bOr, bNot, kAnd, kOr, kNot, kIf, boolOf, kCall, cNil, cV, cMv, cPass, lend, back, resL, outs, endOf, srcAt, kSGet, kSLen, kInt, SF.get, SF.put, bl, nm, if_true, if_false, Bool.false_eq_true, Bool.not_true, Bool.not_false, W0', mdS, pl, xk, szOk0]
theorem w1_ok (o : MOk M) (h : CG M Ls) (hi : i < M.B.length) (hp : addL Ls (M.S.getD i []) <+: Rs) :
    (W1' (mdS M Ls Ts v8 (some (.val (eN i))) (some (.lst [])) v11 v12 v13 v14 v15 v16)).W fun r => r.1 = .nx ∧
      ∃ u11 u12 u13 u14, r.2 = mdS M (addL Ls (M.S.getD i [])) Ts v8 (some (.val (eN i))) (some (.lst (((M.S.getD i []).map (numS Rs)).map stpE))) u11 u12 u13 u14 v15 v16 := by
  have ws := o.ws
  have b5 : M.B.getD i 0 < 5 := o.b5 _ (List.mem_of_getElem? (getD_at (d0 := 0) hi))
  have pl : pLen (strsE M.W) = .ok (.d (.int (M.W.length : Nat))) := pLenM
  have e1 := fB_ok hi
  have a1 : pAdd (.int (M.W.length : Nat)) (eN (M.B.getD i 0)) = .ok (.d (.int ((M.W.length + M.B.getD i 0 : Nat) : Int))) := rfl
  have a2 : pAdd (.int ((M.W.length + M.B.getD i 0 : Nat) : Int)) (.int 1) = .ok (.d (.int ((M.W.length + M.B.getD i 0 + 1 : Nat) : Int))) := rfl
  have it : iRg1 (k2 pAdd (k2 pAdd (k1 pLen (kX 0)) (kClo 2 (cV (kX 9) cNil))) (kC (.int 1))) (mdS M Ls Ts v8 (some (.val (eN i))) (some (.lst [])) v11 v12 v13 v14 v15 v16) = .ok (intR 0 (M.W.length + M.B.getD i 0 + 1), mdS M Ls Ts v8 (some (.val (eN i))) (some (.lst [])) v11 v12 v13 v14 v15 v16) :=
    iRg1_it (by simp only [run_mk, List.map_cons, List.map_nil, List.length_cons, List.length_nil, List.cons_append, List.nil_append, List.replicate_succ, List.replicate_zero, Nat.reduceAdd, Nat.reduceSub, List.getElem?_cons_zero, List.getElem?_cons_succ, List.set_cons_zero, List.set_cons_succ, R.bind_ok, sCons, sNil, sIf, sRet, retL, dropL, sSet, setL, sDrop, sUnp, sPar, lNil, lCons, kF, putL, gN, gT, gAll, kC, kX, kD, kG, kS, scl, k1, k2, L.get, L.take, T.toD, aNil, aCons, kTup, kLst, bVal, bAnd, bOr, bNot, kAnd, kOr, kNot, kIf, boolOf, kCall, cNil, cV, cMv, cPass, lend, back, resL, outs, endOf, srcAt, kSGet, kSLen, kInt, SF.get, SF.put, bl, nm, if_true, if_false, Bool.false_eq_true, Bool.not_true, Bool.not_false, mdS, kClo, valsA, pl, e1, a1, a2]) (by omega)
  unfold W1'
  rw [sFor_it it]
  exact in_loop o h hi hp
theorem w2_ok {l : List Stp} (hl : l.length ≤ 100) (h : Ts.length ≤ 100) : W2' (mdS M Ls Ts v8 v9 (some (.lst (l.map stpE))) v11 v12 v13 v14 v15 v16) = .ok (.nx, mdS M Ls (Ts ++ [l]) v8 v9 (some (.lst (l.map stpE))) v11 v12 v13 v14 v15 v16) := by
  have z : szOk ((Ts.map lineE).length + 1) = true := szOk_of (by rw [List.length_map]; omega)
  have p1 : pTuple (.list (l.map stpE)) = .ok (.d (lineE l)) := rfl
  have ap : Ts.map lineE ++ [lineE l] = (Ts ++ [l]).map lineE := by rw [List.map_append]; rfl
  simp only [run_mk, List.map_cons, List.map_nil, List.length_cons, List.length_nil, List.cons_append, List.nil_append, List.replicate_succ, List.replicate_zero, Nat.reduceAdd, Nat.reduceSub, List.getElem?_cons_zero, List.getElem?_cons_succ, List.set_cons_zero, List.set_cons_succ, R.bind_ok, sCons, sNil, sIf, sRet, retL, dropL, sSet, setL, sDrop, sUnp, sPar, lNil, lCons, kF, putL, gN, gT, gAll, kC, kX, kD, kG, kS, scl, k1, k2, L.get, L.take, T.toD, aNil, aCons, kTup, kLst, bVal, bAnd, bOr, bNot, kAnd, kOr, kNot, kIf, boolOf, kCall, cNil, cV, cMv, cPass, lend, back, resL, outs, endOf, srcAt, kSGet, kSLen, kInt, SF.get, SF.put, bl, nm, if_true, if_false, Bool.false_eq_true, Bool.not_true, Bool.not_false, W2', mdS, kApp, p1, z, ap]
theorem g0_ok (o : MOk M) : G0 [some (.val (strsE M.W)), some (.val (.int 0)), some (.clo 2 (fB M)), some (.clo 1 (fY M)), some (.clo 0 (fS M)), none, none, none, none, none, none, none, none, none, none, none, none] =
    .ok (.nx, [some (.val (strsE M.W)), some (.val (.int 0)), some (.clo 2 (fB M)), some (.clo 1 (fY M)), some (.clo 0 (fS M)), none, none, none, none, none, none, none, none, none, none, none, none]) := by
  have e1 : fB M [.int 0] = .ok (eN (M.B.getD 0 0)) := fB_ok (i := 0) o.b1
  have e2 : pGt (eN (M.B.getD 0 0)) (.int 4) = bl false := by rw [o.b0]; rfl
  simp only [run_mk, List.map_cons, List.map_nil, List.length_cons, List.length_nil, List.cons_append, List.nil_append, List.replicate_succ, List.replicate_zero, Nat.reduceAdd, Nat.reduceSub, List.getElem?_cons_zero, List.getElem?_cons_succ, List.set_cons_zero, List.set_cons_succ, R.bind_ok, sCons, sNil, sIf, sRet, retL, dropL, sSet, setL, sDrop, sUnp, sPar, lNil, lCons, kF, putL, gN, gT, gAll, kC, kX, kD, kG, kS, scl, k1, k2, L.get, L.take, T.toD, aNil, aCons, kTup, kLst, bVal, bAnd, bOr, bNot, kAnd, kOr, kNot, kIf, boolOf, kCall, cNil, cV, cMv, cPass, lend, back, resL, outs, endOf, srcAt, kSGet, kSLen, kInt, SF.get, SF.put, bl, nm, if_true, if_false, Bool.false_eq_true, Bool.not_true, Bool.not_false, G0, kClo, valsA, e1, e2]
theorem g1_ok : G1 [some (.val (strsE M.W)), some (.val (.int 0)), some (.clo 2 (fB M)), some (.clo 1 (fY M)), some (.clo 0 (fS M)), none, none, none, none, none, none, none, none, none, none, none, none] =
    .ok (.nx, mdS M [0] [] none none none none none none none none none) := by
  have e1 : mergeD [] [((.int 0 : D), (.int 0 : D))] = kn 0 [0] := rfl
  have e2 : keyOf (.int 0) = some (.inl 0) := rfl
  have e3 : [(.int 0 : D)] = ([0] : List Nat).map eN := rfl
  have l15 : (0 + 1 ≤ 15) = True := by simp
  simp only [run_mk, List.map_cons, List.map_nil, List.length_cons, List.length_nil, List.cons_append, List.nil_append, List.replicate_succ, List.replicate_zero, Nat.reduceAdd, Nat.reduceSub, List.getElem?_cons_zero, List.getElem?_cons_succ, List.set_cons_zero, List.set_cons_succ, R.bind_ok, sCons, sNil, sIf, sRet, retL, dropL, sSet, setL, sDrop, sUnp, sPar, lNil, lCons, kF, putL, gN, gT, gAll, kC, kX, kD, kG, kS, scl, k1, k2, L.get, L.take, T.toD, aNil, aCons, kTup, kLst, bVal, bAnd, bOr, bNot, kAnd, kOr, kNot, kIf, boolOf, kCall, cNil, cV, cMv, cPass, lend, back, resL, outs, endOf, srcAt, kSGet, kSLen, kInt, SF.get, SF.put, bl, nm, if_true, if_false, Bool.false_eq_true, Bool.not_true, Bool.not_false, G1, mdS, kDisp, dCons, dNil, szOk0, szOk1, e1, l15, Option.isSome]
  rfl
/-! ### the while -/
def lns (M : Mach) (Rs : List Nat) (k : Nat) : List (List Stp) := (Rs.take k).map fun m => (M.S.getD m []).map (numS Rs)
theorem wh_ok (o : MOk M) (hR : Rch M Rs) :
    (sWhile whC whB (mdS M [0] [] none none none none none none none none none)).W fun r => r.1 = .nx ∧ ∃ u9 u10 u11 u12 u13 u14, r.2 = mdS M Rs (numM M Rs).S none u9 u10 u11 u12 u13 u14 none none := by
  have rl := hR.cg.len
  have b60 := o.b60
  have hw2 := while_inv (c := whC) (b := whB)
    (fun m s => ∃ Ls Ts u9 u10 u11 u12 u13 u14, s = mdS M Ls Ts none u9 u10 u11 u12 u13 u14 none none ∧ Ts = lns M Rs Ts.length ∧ Come M Ts.length Ls Rs ∧ CG M Ls ∧ Ts.length ≤ Ls.length ∧ m = Rs.length - Ts.length)
    (fun s => ∃ u9 u10 u11 u12 u13 u14, s = mdS M Rs (numM M Rs).S none u9 u10 u11 u12 u13 u14 none none)
    (fun m s ⟨Ls, Ts, u9, u10, u11, u12, u13, u14, e, h1, h2, h3, h4, h5⟩ => by
      subst e
      have pl1 : pLen (.list (Ts.map lineE)) = .ok (.d (.int (Ts.length : Nat))) := pLenL
      have pl2 : pLen (.list (Ls.map eN)) = .ok (.d (.int (Ls.length : Nat))) := pLenL
      have ll := h3.len
      have hpre := h2.pre
      have lr : Ls.length ≤ Rs.length := hpre.length_le
      by_cases q : Ts.length < Ls.length
      · have e0 : pLt (.int (Ts.length : Nat)) (.int (Ls.length : Nat)) = bl true := by
          show bl (decide _) = _
          rw [decide_eq_true (by omega)]
        refine R.W_of (a := (true, mdS M Ls Ts none u9 u10 u11 u12 u13 u14 none none)) (by simp only [run_mk, List.map_cons, List.map_nil, List.length_cons, List.length_nil, List.cons_append, List.nil_append, List.replicate_succ, List.replicate_zero, Nat.reduceAdd, Nat.reduceSub, List.getElem?_cons_zero, List.getElem?_cons_succ, List.set_cons_zero, List.set_cons_succ, R.bind_ok, sCons, sNil, sIf, sRet, retL, dropL, sSet, setL, sDrop, sUnp, sPar, lNil, lCons, kF, putL, gN, gT, gAll, kC, kX, kD, kG, kS, scl, k1, k2, L.get, L.take, T.toD, aNil, aCons, kTup, kLst, bVal, bAnd, bOr, bNot, kAnd, kOr, kNot, kIf, boolOf, kCall, cNil, cV, cMv, cPass, lend, back, resL, outs, endOf, srcAt, kSGet, kSLen, kInt, SF.get, SF.put, bl, nm, if_true, if_false, Bool.false_eq_true, Bool.not_true, Bool.not_false, whC, mdS, pl1, pl2, e0]) ?_
        rw [if_pos rfl]
        have hi := h3.at q
        have hc : Come M (Ts.length + 1) (addL Ls (M.S.getD (Ls.getD Ts.length 0) [])) Rs := by
          cases h2 with
          | done h => exact absurd h (by omega)
          | more _ c => exact c
        obtain ⟨⟨f1, s1⟩, t1, t2, w11, w12, w13, w14, t3⟩ := R.W_get (w1_ok (Ts := Ts) (v8 := none) (v11 := u11) (v12 := u12) (v13 := u13) (v14 := u14) (v15 := none) (v16 := none) o h3 hi hc.pre)
        simp only at t2 t3
        subst t2 t3
        have hl : ((M.S.getD (Ls.getD Ts.length 0) []).map (numS Rs)).length ≤ 100 := by
          rw [List.length_map, o.ll _ hi]
          have := o.ws
          have := o.b5 _ (List.mem_of_getElem? (getD_at (d0 := 0) hi))
          omega
        have ev : whB (mdS M Ls Ts none u9 u10 u11 u12 u13 u14 none none) = .ok (.nx, mdS M (addL Ls (M.S.getD (Ls.getD Ts.length 0) [])) (Ts ++ [(M.S.getD (Ls.getD Ts.length 0) []).map (numS Rs)]) none (some (.val (eN (Ls.getD Ts.length 0)))) (some (.lst (((M.S.getD (Ls.getD Ts.length 0) []).map (numS Rs)).map stpE))) w11 w12 w13 w14 none none) := by
          unfold whB
          rw [sCons_nx (w0_ok q), sCons_nx t1, sCons_nx (w2_ok hl (by omega))]
          rfl
        have hTl : (Ts ++ [(M.S.getD (Ls.getD Ts.length 0) []).map (numS Rs)]).length = Ts.length + 1 := by rw [List.length_append]; rfl
        have c2 := addL_cg h3 (line_lt o hi)
        refine R.W_of ev ⟨.inl rfl, Rs.length - (Ts.length + 1), by omega, _, _, _, _, _, _, _, _, rfl, ?_, by rw [hTl]; exact hc, c2, ?_, by rw [hTl]⟩
        · rw [hTl]
          unfold lns at h1 ⊢
          rw [List.take_succ, List.map_append, ← h1, getD_at (d0 := 0) (show Ts.length < Rs.length by omega), pre_at hpre q]
          rfl
        · rw [hTl]
          have := (addL_pre (line := M.S.getD (Ls.getD Ts.length 0) []) (L := Ls)).length_le
          omega
      · have e0 : pLt (.int (Ts.length : Nat)) (.int (Ls.length : Nat)) = bl false := by
          show bl (decide _) = _
          rw [decide_eq_false (by omega)]
        refine R.W_of (a := (false, mdS M Ls Ts none u9 u10 u11 u12 u13 u14 none none)) (by simp only [run_mk, List.map_cons, List.map_nil, List.length_cons, List.length_nil, List.cons_append, List.nil_append, List.replicate_succ, List.replicate_zero, Nat.reduceAdd, Nat.reduceSub, List.getElem?_cons_zero, List.getElem?_cons_succ, List.set_cons_zero, List.set_cons_succ, R.bind_ok, sCons, sNil, sIf, sRet, retL, dropL, sSet, setL, sDrop, sUnp, sPar, lNil, lCons, kF, putL, gN, gT, gAll, kC, kX, kD, kG, kS, scl, k1, k2, L.get, L.take, T.toD, aNil, aCons, kTup, kLst, bVal, bAnd, bOr, bNot, kAnd, kOr, kNot, kIf, boolOf, kCall, cNil, cV, cMv, cPass, lend, back, resL, outs, endOf, srcAt, kSGet, kSLen, kInt, SF.get, SF.put, bl, nm, if_true, if_false, Bool.false_eq_true, Bool.not_true, Bool.not_false, whC, mdS, pl1, pl2, e0]) ?_
        rw [if_neg (by simp)]
        have eL : Ls = Rs := by
          cases h2 with
          | done h => rfl
          | more h _ => exact absurd h q
        subst eL
        have eT : Ts = (numM M Ls).S := by
          rw [h1]
          unfold lns
          rw [List.take_of_length_le (by omega)]
          rfl
        exact ⟨u9, u10, u11, u12, u13, u14, by rw [← eT]⟩)
    (n := fuel) (m := Rs.length) (s := mdS M [0] [] none none none none none none none none none)
    ⟨[0], [], none, none, none, none, none, none, rfl, rfl, hR.cm, cg0 o, by simp, rfl⟩ (by show _ < 1000000; omega)
  exact hw2
/-! ### the end -/
def enE (Rs : List Nat) (k : Nat) : D := .tuple [eN k, eN (Rs.getD k 0)]
theorem enum_E {Rs : List Nat} : enumD 0 (Rs.map eN) = (List.range Rs.length).map (enE Rs) := by
  apply List.ext_getElem?
  intro i
  rw [enum_at, List.getElem?_map, List.getElem?_map]
  by_cases q : i < Rs.length
  · rw [getD_at (d0 := 0) q, List.getElem?_range q, Nat.zero_add]
    rfl
  · rw [List.getElem?_eq_none (by omega), List.getElem?_eq_none (by rw [List.length_range]; omega)]
    rfl
/-- the state, the things walked -/
def mdV (M : Mach) (Ls : List Nat) (Ts : List (List Stp)) (v8 v9 v10 v11 v12 v13 v14 v15 v16 : Option T) : Sl :=
  [some (.val (strsE M.W)), some (.val (.int 0)), some (.clo 2 (fB M)), some (.clo 1 (fY M)), some (.clo 0 (fS M)), some (.val (.list (Ls.map eN))), some (.dct (kn 0 Ls)), some (.lst (Ts.map lineE)), v8, v9, v10, v11, v12, v13, v14, v15, v16]
theorem g3_ok (hR : CG M Rs) (o : MOk M) (hy : ∀ x ∈ M.Y, x < 100) :
    G3 (mdS M Rs Ts none v9 v10 v11 v12 v13 v14 none none) = .ok (.nx, mdV M Rs Ts (some (.val (.tuple ((numM M Rs).Y.map eN)))) v9 v10 v11 v12 v13 v14 none none) := by
  have hc := comp_map (g := gT [(gN 15), (gN 16)]) (c := some (bVal (kClo 3 (cV (kX 16) cNil)))) (f := kX 15) (own := [15, 16]) (s := mdV M Rs Ts none v9 v10 v11 v12 v13 v14 none none)
    (enE Rs) (fun k => mdV M Rs Ts none v9 v10 v11 v12 v13 v14 (some (.val (eN k))) (some (.val (eN (Rs.getD k 0))))) (fun k => decide (Rs.getD k 0 ∈ M.Y)) eN rfl (xs := List.range Rs.length) (fun k hk => by
      have hk := List.mem_range.mp hk
      have e1 := fY_ok (M := M) (i := Rs.getD k 0) (by have := hR.at hk; have := o.b60; omega) hy
      refine ⟨by simp only [run_mk, List.map_cons, List.map_nil, List.length_cons, List.length_nil, List.cons_append, List.nil_append, List.replicate_succ, List.replicate_zero, Nat.reduceAdd, Nat.reduceSub, List.getElem?_cons_zero, List.getElem?_cons_succ, List.set_cons_zero, List.set_cons_succ, R.bind_ok, sCons, sNil, sIf, sRet, retL, dropL, sSet, setL, sDrop, sUnp, sPar, lNil, lCons, kF, putL, gN, gT, gAll, kC, kX, kD, kG, kS, scl, k1, k2, L.get, L.take, T.toD, aNil, aCons, kTup, kLst, bVal, bAnd, bOr, bNot, kAnd, kOr, kNot, kIf, boolOf, kCall, cNil, cV, cMv, cPass, lend, back, resL, outs, endOf, srcAt, kSGet, kSLen, kInt, SF.get, SF.put, bl, nm, if_true, if_false, Bool.false_eq_true, Bool.not_true, Bool.not_false, mdV, enE, seqOf], rfl, ?_, fun _ => rfl⟩
      simp only [run_mk, List.map_cons, List.map_nil, List.length_cons, List.length_nil, List.cons_append, List.nil_append, List.replicate_succ, List.replicate_zero, Nat.reduceAdd, Nat.reduceSub, List.getElem?_cons_zero, List.getElem?_cons_succ, List.set_cons_zero, List.set_cons_succ, R.bind_ok, sCons, sNil, sIf, sRet, retL, dropL, sSet, setL, sDrop, sUnp, sPar, lNil, lCons, kF, putL, gN, gT, gAll, kC, kX, kD, kG, kS, scl, k1, k2, L.get, L.take, T.toD, aNil, aCons, kTup, kLst, bVal, bAnd, bOr, bNot, kAnd, kOr, kNot, kIf, boolOf, kCall, cNil, cV, cMv, cPass, lend, back, resL, outs, endOf, srcAt, kSGet, kSLen, kInt, SF.get, SF.put, bl, nm, if_true, if_false, Bool.false_eq_true, Bool.not_true, Bool.not_false, bOf, mdV, kClo, valsA, e1])
  have it : iEnum (kX 5) (mdS M Rs Ts none v9 v10 v11 v12 v13 v14 none none) = .ok ((List.range Rs.length).map (enE Rs), mdV M Rs Ts none v9 v10 v11 v12 v13 v14 none none) := by
    rw [← enum_E]
    simp only [run_mk, List.map_cons, List.map_nil, List.length_cons, List.length_nil, List.cons_append, List.nil_append, List.replicate_succ, List.replicate_zero, Nat.reduceAdd, Nat.reduceSub, List.getElem?_cons_zero, List.getElem?_cons_succ, List.set_cons_zero, List.set_cons_succ, R.bind_ok, sCons, sNil, sIf, sRet, retL, dropL, sSet, setL, sDrop, sUnp, sPar, lNil, lCons, kF, putL, gN, gT, gAll, kC, kX, kD, kG, kS, scl, k1, k2, L.get, L.take, T.toD, aNil, aCons, kTup, kLst, bVal, bAnd, bOr, bNot, kAnd, kOr, kNot, kIf, boolOf, kCall, cNil, cV, cMv, cPass, lend, back, resL, outs, endOf, srcAt, kSGet, kSLen, kInt, SF.get, SF.put, bl, nm, if_true, if_false, Bool.false_eq_true, Bool.not_true, Bool.not_false, iEnum, iSeq, mdS, mdV, seqOf]
  have z : szOk (((List.range Rs.length).filter fun k => decide (Rs.getD k 0 ∈ M.Y)).map eN).length = true := szOk_of (by
    rw [List.length_map]
    have := List.length_filter_le (fun k => decide (Rs.getD k 0 ∈ M.Y)) (List.range Rs.length)
    rw [List.length_range] at this
    have := hR.len
    have := o.b60
    omega)
  have kc := kComp_it it hc z
  have p1 : ∀ l : List D, pTuple (.list l) = .ok (.d (.tuple l)) := fun l => rfl
  unfold G3 sSet k1
  rw [kc]
  simp only [run_mk, List.map_cons, List.map_nil, List.length_cons, List.length_nil, List.cons_append, List.nil_append, List.replicate_succ, List.replicate_zero, Nat.reduceAdd, Nat.reduceSub, List.getElem?_cons_zero, List.getElem?_cons_succ, List.set_cons_zero, List.set_cons_succ, R.bind_ok, sCons, sNil, sIf, sRet, retL, dropL, sSet, setL, sDrop, sUnp, sPar, lNil, lCons, kF, putL, gN, gT, gAll, kC, kX, kD, kG, kS, scl, k1, k2, L.get, L.take, T.toD, aNil, aCons, kTup, kLst, bVal, bAnd, bOr, bNot, kAnd, kOr, kNot, kIf, boolOf, kCall, cNil, cV, cMv, cPass, lend, back, resL, outs, endOf, srcAt, kSGet, kSLen, kInt, SF.get, SF.put, bl, nm, if_true, if_false, Bool.false_eq_true, Bool.not_true, Bool.not_false, mdV, p1]
  rfl
theorem g4_ok (hR : CG M Rs) (o : MOk M) : ∃ s', G4 (mdV M Rs (numM M Rs).S (some (.val (.tuple ((numM M Rs).Y.map eN)))) v9 v10 v11 v12 v13 v14 none none) = .ok (.rt (.val (.tuple [(numM M Rs).enc, .tuple (Rs.map eN)])), s') := by
  have hl := hR.len
  have b60 := o.b60
  have hc := comp_map (g := gN 16) (c := none) (f := kClo 2 (cV (kX 16) cNil)) (own := [16]) (s := mdV M Rs (numM M Rs).S (some (.val (.tuple ((numM M Rs).Y.map eN)))) v9 v10 v11 v12 v13 v14 none none)
    eN (fun m => mdV M Rs (numM M Rs).S (some (.val (.tuple ((numM M Rs).Y.map eN)))) v9 v10 v11 v12 v13 v14 none (some (.val (eN m)))) (fun _ => true) (fun m => eN (M.B.getD m 0)) rfl (xs := Rs) (fun m hm => by
      have e1 := fB_ok (M := M) (hR.lt m hm)
      refine ⟨rfl, rfl, rfl, fun _ => ?_⟩
      simp only [run_mk, List.map_cons, List.map_nil, List.length_cons, List.length_nil, List.cons_append, List.nil_append, List.replicate_succ, List.replicate_zero, Nat.reduceAdd, Nat.reduceSub, List.getElem?_cons_zero, List.getElem?_cons_succ, List.set_cons_zero, List.set_cons_succ, R.bind_ok, sCons, sNil, sIf, sRet, retL, dropL, sSet, setL, sDrop, sUnp, sPar, lNil, lCons, kF, putL, gN, gT, gAll, kC, kX, kD, kG, kS, scl, k1, k2, L.get, L.take, T.toD, aNil, aCons, kTup, kLst, bVal, bAnd, bOr, bNot, kAnd, kOr, kNot, kIf, boolOf, kCall, cNil, cV, cMv, cPass, lend, back, resL, outs, endOf, srcAt, kSGet, kSLen, kInt, SF.get, SF.put, bl, nm, if_true, if_false, Bool.false_eq_true, Bool.not_true, Bool.not_false, mdV, kClo, valsA, e1])
  rw [List.filter_eq_self.mpr (fun _ _ => rfl)] at hc
  have it : iSeq (kX 5) (mdV M Rs (numM M Rs).S (some (.val (.tuple ((numM M Rs).Y.map eN)))) v9 v10 v11 v12 v13 v14 none none) = .ok (Rs.map eN, mdV M Rs (numM M Rs).S (some (.val (.tuple ((numM M Rs).Y.map eN)))) v9 v10 v11 v12 v13 v14 none none) := by
    simp only [run_mk, List.map_cons, List.map_nil, List.length_cons, List.length_nil, List.cons_append, List.nil_append, List.replicate_succ, List.replicate_zero, Nat.reduceAdd, Nat.reduceSub, List.getElem?_cons_zero, List.getElem?_cons_succ, List.set_cons_zero, List.set_cons_succ, R.bind_ok, sCons, sNil, sIf, sRet, retL, dropL, sSet, setL, sDrop, sUnp, sPar, lNil, lCons, kF, putL, gN, gT, gAll, kC, kX, kD, kG, kS, scl, k1, k2, L.get, L.take, T.toD, aNil, aCons, kTup, kLst, bVal, bAnd, bOr, bNot, kAnd, kOr, kNot, kIf, boolOf, kCall, cNil, cV, cMv, cPass, lend, back, resL, outs, endOf, srcAt, kSGet, kSLen, kInt, SF.get, SF.put, bl, nm, if_true, if_false, Bool.false_eq_true, Bool.not_true, Bool.not_false, iSeq, mdV, seqOf]
  have z : szOk (Rs.map fun m => eN (M.B.getD m 0)).length = true := szOk_of (by rw [List.length_map]; omega)
  have kc := kComp_it it hc z
  have p1 : ∀ l : List D, pTuple (.list l) = .ok (.d (.tuple l)) := fun l => rfl
  have p2 : pTuple (strsE M.W) = .ok (.d (strsE M.W)) := rfl
  have eB : Rs.map (fun m => eN (M.B.getD m 0)) = (numM M Rs).B.map eN := by
    show _ = (Rs.map (M.B.getD · 0)).map eN
    rw [List.map_map]; rfl
  rw [eB] at kc
  simp only [mdV] at kc
  refine ⟨mdV M Rs (numM M Rs).S (some (.val (.tuple ((numM M Rs).Y.map eN)))) v9 v10 v11 v12 v13 v14 none none, ?_⟩
  simp only [run_mk, List.map_cons, List.map_nil, List.length_cons, List.length_nil, List.cons_append, List.nil_append, List.replicate_succ, List.replicate_zero, Nat.reduceAdd, Nat.reduceSub, List.getElem?_cons_zero, List.getElem?_cons_succ, List.set_cons_zero, List.set_cons_succ, R.bind_ok, sCons, sNil, sIf, sRet, retL, dropL, sSet, setL, sDrop, sUnp, sPar, lNil, lCons, kF, putL, gN, gT, gAll, kC, kX, kD, kG, kS, scl, k1, k2, L.get, L.take, T.toD, aNil, aCons, kTup, kLst, bVal, bAnd, bOr, bNot, kAnd, kOr, kNot, kIf, boolOf, kCall, cNil, cV, cMv, cPass, lend, back, resL, outs, endOf, srcAt, kSGet, kSLen, kInt, SF.get, SF.put, bl, nm, if_true, if_false, Bool.false_eq_true, Bool.not_true, Bool.not_false, G4, mdV, kc, p1, p2, szOk4, szOk2]
  rfl
theorem made_ok (o : MOk M) (hR : Rch M Rs) (hy : ∀ x ∈ M.Y, x < 100) : D_made_machine.run [.val (strsE M.W), .val (.int 0), .clo 2 (fB M), .clo 1 (fY M), .clo 0 (fS M)] = .ok (.val (.tuple [(numM M Rs).enc, .tuple (Rs.map eN)]), []) := by
  obtain ⟨⟨f1, s1⟩, t1, t2, u9, u10, u11, u12, u13, u14, t3⟩ := R.W_get (wh_ok o hR)
  simp only at t2 t3
  subst t2 t3
  obtain ⟨s', t4⟩ := g4_ok (v9 := u9) (v10 := u10) (v11 := u11) (v12 := u12) (v13 := u13) (v14 := u14) hR.cg o
  rw [made_def]
  refine run_rt (s1 := s') ?_ rfl
  show sCons G0 _ [some (.val (strsE M.W)), some (.val (.int 0)), some (.clo 2 (fB M)), some (.clo 1 (fY M)), some (.clo 0 (fS M)), none, none, none, none, none, none, none, none, none, none, none, none] = _
  rw [sCons_nx (g0_ok o), sCons_nx g1_ok, sCons_nx t1, sCons_nx (g3_ok hR.cg o hy)]
  exact sCons_rt t4
theorem num_run_ok (o : MOk M) (hR : Rch M Rs) (hy : ∀ x ∈ M.Y, x < 100) : D_numbered_machine.run [.val M.enc, .tbs] = .ok (.val (.tuple [(numM M Rs).enc, .tuple (Rs.map eN)]), [.tbs]) := by
  have md := made_ok o hR hy
  have c2 : capG 1 [3] D_numbered_machine_2 [some (.val M.enc), some .tbs, some (.val (strsE M.W)), some (.val (.tuple (M.B.map eN))), some (.val (.tuple (M.Y.map eN))), some (.val (.tuple (M.S.map lineE))), some (.clo 0 dmy), some (.clo 1 dmy)] = .ok (fB M) := rfl
  have c1 : capG 1 [4] D_numbered_machine_1 [some (.val M.enc), some .tbs, some (.val (strsE M.W)), some (.val (.tuple (M.B.map eN))), some (.val (.tuple (M.Y.map eN))), some (.val (.tuple (M.S.map lineE))), some (.clo 0 dmy), some (.clo 1 dmy)] = .ok (fY M) := rfl
  have c0 : capG 2 [5] D_numbered_machine_0 [some (.val M.enc), some .tbs, some (.val (strsE M.W)), some (.val (.tuple (M.B.map eN))), some (.val (.tuple (M.Y.map eN))), some (.val (.tuple (M.S.map lineE))), some (.clo 0 dmy), some (.clo 1 dmy)] = .ok (fS M) := rfl
  generalize (numM M Rs).enc = X at md ⊢
  unfold Mach.enc at c0 c1 c2 ⊢
  simp only [run_mk, List.map_cons, List.map_nil, List.length_cons, List.length_nil, List.cons_append, List.nil_append, List.replicate_succ, List.replicate_zero, Nat.reduceAdd, Nat.reduceSub, List.getElem?_cons_zero, List.getElem?_cons_succ, List.set_cons_zero, List.set_cons_succ, R.bind_ok, sCons, sNil, sIf, sRet, retL, dropL, sSet, setL, sDrop, sUnp, sPar, lNil, lCons, kF, putL, gN, gT, gAll, kC, kX, kD, kG, kS, scl, k1, k2, L.get, L.take, T.toD, aNil, aCons, kTup, kLst, bVal, bAnd, bOr, bNot, kAnd, kOr, kNot, kIf, boolOf, kCall, cNil, cV, cMv, cPass, lend, back, resL, outs, endOf, srcAt, kSGet, kSLen, kInt, SF.get, SF.put, bl, nm, if_true, if_false, Bool.false_eq_true, Bool.not_true, Bool.not_false, D_numbered_machine, sGuard, List.all_cons, List.all_nil, noClo, noCloF, Bool.and_self, sNdef, kCallC, cLam, tsOf, caps_numbered_machine, c0, c1, c2, md, resD, clrC]
theorem come_run_ok (o : MOk M) (hR : Rch M Rs) (hy : ∀ x ∈ M.Y, x < 100) : D_modes_come_to.run [.val M.enc, .tbs] = .ok (.val (.tuple (Rs.map eN)), [.tbs]) := by
  have nr := num_run_ok o hR hy
  have x1 : pIx (.tuple [(numM M Rs).enc, .tuple (Rs.map eN)]) (.int 1) = .ok (.d (.tuple (Rs.map eN))) := ix1
  simp only [run_mk, List.map_cons, List.map_nil, List.length_cons, List.length_nil, List.cons_append, List.nil_append, List.replicate_succ, List.replicate_zero, Nat.reduceAdd, Nat.reduceSub, List.getElem?_cons_zero, List.getElem?_cons_succ, List.set_cons_zero, List.set_cons_succ, R.bind_ok, sCons, sNil, sIf, sRet, retL, dropL, sSet, setL, sDrop, sUnp, sPar, lNil, lCons, kF, putL, gN, gT, gAll, kC, kX, kD, kG, kS, scl, k1, k2, L.get, L.take, T.toD, aNil, aCons, kTup, kLst, bVal, bAnd, bOr, bNot, kAnd, kOr, kNot, kIf, boolOf, kCall, cNil, cV, cMv, cPass, lend, back, resL, outs, endOf, srcAt, kSGet, kSLen, kInt, SF.get, SF.put, bl, nm, if_true, if_false, Bool.false_eq_true, Bool.not_true, Bool.not_false, D_modes_come_to, nr, x1]
end
end K11

set_option Elab.async false
set_option linter.all false
set_option maxRecDepth 100000
set_option maxHeartbeats 4000000
set_option pp.maxSteps 600
namespace K11
open PySem KV

/-! ### the law's modes come to -/
def cF : SV := (sCons (sIf (bVal (k2 pNotIn (kX 4) (kX 1))) (sCons (sDrop (kApp 1 (kX 4))) sNil) sNil) sNil)
def cW0 : SV := (sFor (iSeq (k2 pIx (k2 pIx (kX 0) (kC (.int 3))) (k2 pIx (kX 1) (kX 2)))) (gT [(gN 3), (gN 4), (gN 5)]) cF)
def cW1 : SV := (sSet 2 (k2 pAdd (kX 2) (kC (.int 1))))
def cC : BV := (bVal (k2 pLt (kX 2) (k1 pLen (kX 1))))
def cB : SV := (sCons cW0 (sCons cW1 sNil))
def cS0 : SV := (sPar [1, 2] (lCons (kLst (aCons (kC (.int 0)) aNil)) (lCons (kC (.int 0)) lNil)))
def cS2 : SV := (sRet (kX 1))
theorem lcome_def : D_u_law_come_to = ⟨6, [], (sCons cS0 (sCons (sWhile cC cB) (sCons cS2 sNil)))⟩ := rfl
def nS0 : SV := (sUnp (gT [(gN 2), (gN 3), (gN 4), (gN 5)]) (kX 0))
def nS1 : SV := (sSet 6 (kLst aNil))
def nF : SV := (sCons (sDrop (kApp 6 (k1 pTuple (kComp (iSeq (k2 pIx (kX 5) (kX 7))) (gT [(gN 10), (gN 11), (gN 12)]) none (kTup (aCons (kX 10) (aCons (kIndex (kX 1) (kX 11)) (aCons (kX 12) aNil)))) [10, 11, 12])))) sNil)
def nS2 : SV := (sFor (iSeq (kX 1)) (gN 7) nF)
def nS3 : SV := (sSet 8 (k1 pTuple (kComp (iEnum (kX 1)) (gT [(gN 9), (gN 7)]) (some (bVal (k2 pIn (kX 7) (kX 4)))) (kX 9) [9, 7])))
def nS4 : SV := (sRet (kTup (aCons (kX 2) (aCons (k1 pTuple (kComp (iSeq (kX 1)) (gN 7) none (k2 pIx (kX 3) (kX 7)) [7])) (aCons (kX 8) (aCons (k1 pTuple (kX 6)) aNil))))))
theorem lnum_def : D_u_law_numbered = ⟨13, [], (sCons nS0 (sCons nS1 (sCons nS2 (sCons nS3 (sCons nS4 sNil)))))⟩ := rfl
section
variable {M : Mach} {Rs Ls : List Nat} {v1 v2 v3 v4 v5 v6 v7 v8 v9 v10 v11 v12 : Option T} {i k : Nat}
def cmS (M : Mach) (Ls : List Nat) (k : Nat) (v3 v4 v5 : Option T) : Sl := [some (.val M.enc), some (.lst (Ls.map eN)), some (.val (eN k)), v3, v4, v5]
theorem inNs {v : Nat} (hv : v < 100) (h : ∀ x ∈ Ls, x < 100) : pNotIn (eN v) (.list (Ls.map eN)) = bl (!decide (v ∈ Ls)) := by
  have ey : eqOk (.list (Ls.map eN)) = true := (fit_lst (n := 0) (m := 20) (k := Ls.length) (fun d hd => by
    obtain ⟨x, hx, rfl⟩ := List.mem_map.mp hd
    exact fit_int (h x hx)) (by rw [List.length_map]; exact Nat.le_refl _)).eqOk (by decide)
  have e1 : pIn (eN v) (.list (Ls.map eN)) = bl (decide (v ∈ Ls)) := by
    show (if _ then _ else _) = _
    rw [(fit_int hv).eqOk (by decide), ey]
    show bl (inB _ _) = _
    rw [in_yes]
  unfold pNotIn
  rw [e1]
  rfl
theorem cf_turn (h : CG M Ls) (o : MOk M) {s : Stp} (hs : s.2.1 < M.B.length) : (gT [(gN 3), (gN 4), (gN 5)] (stpE s) (cmS M Ls k v3 v4 v5)).bind cF = .ok (.nx, cmS M (addT Ls s) k (some (.val (.tuple (s.1.map eN)))) (some (.val (eN s.2.1))) (some (.val (.tuple (s.2.2.map eN))))) := by
  have b60 := o.b60
  have ll := h.len
  have e0 := inNs (Ls := Ls) (v := s.2.1) (by omega) (fun x hx => by have := h.lt x hx; omega)
  unfold addT
  by_cases q : s.2.1 ∈ Ls
  · rw [decide_eq_true q, Bool.not_true] at e0
    rw [if_pos q]
    simp only [run_mk, List.map_cons, List.map_nil, List.length_cons, List.length_nil, List.cons_append, List.nil_append, List.replicate_succ, List.replicate_zero, Nat.reduceAdd, Nat.reduceSub, List.getElem?_cons_zero, List.getElem?_cons_succ, List.set_cons_zero, List.set_cons_succ, R.bind_ok, sCons, sNil, sIf, sRet, retL, dropL, sSet, setL, sDrop, sUnp, sPar, lNil, lCons, kF, putL, gN, gT, gAll, kC, kX, kD, kG, kS, scl, k1, k2, L.get, L.take, T.toD, aNil, aCons, kTup, kLst, bVal, bAnd, bOr, bNot, kAnd, kOr, kNot, kIf, boolOf, kCall, cNil, cV, cMv, cPass, lend, back, resL, outs, endOf, srcAt, kSGet, kSLen, kInt, SF.get, SF.put, bl, nm, if_true, if_false, Bool.false_eq_true, Bool.not_true, Bool.not_false, cF, cmS, stpE, seqOf, e0]
  · rw [decide_eq_false q, Bool.not_false] at e0
    rw [if_neg q]
    have z2 : szOk ((Ls.map eN).length + 1) = true := szOk_of (by rw [List.length_map]; omega)
    have ap : Ls.map eN ++ [eN s.2.1] = (Ls ++ [s.2.1]).map eN := by rw [List.map_append]; rfl
    simp only [run_mk, List.map_cons, List.map_nil, List.length_cons, List.length_nil, List.cons_append, List.nil_append, List.replicate_succ, List.replicate_zero, Nat.reduceAdd, Nat.reduceSub, List.getElem?_cons_zero, List.getElem?_cons_succ, List.set_cons_zero, List.set_cons_succ, R.bind_ok, sCons, sNil, sIf, sRet, retL, dropL, sSet, setL, sDrop, sUnp, sPar, lNil, lCons, kF, putL, gN, gT, gAll, kC, kX, kD, kG, kS, scl, k1, k2, L.get, L.take, T.toD, aNil, aCons, kTup, kLst, bVal, bAnd, bOr, bNot, kAnd, kOr, kNot, kIf, boolOf, kCall, cNil, cV, cMv, cPass, lend, back, resL, outs, endOf, srcAt, kSGet, kSLen, kInt, SF.get, SF.put, bl, nm, if_true, if_false, Bool.false_eq_true, Bool.not_true, Bool.not_false, cF, cmS, stpE, seqOf, e0, kApp, z2, ap]
theorem cf_loop (o : MOk M) : ∀ {line : List Stp} {Ls : List Nat} {v3 v4 v5 : Option T}, CG M Ls → (∀ s ∈ line, s.2.1 < M.B.length) →
    ∃ u3 u4 u5, forD (gT [(gN 3), (gN 4), (gN 5)]) cF (line.map stpE) (cmS M Ls k v3 v4 v5) = .ok (.nx, cmS M (addL Ls line) k u3 u4 u5)
  | [], Ls, v3, v4, v5, _, _ => ⟨v3, v4, v5, rfl⟩
  | s :: r, Ls, v3, v4, v5, h, hl => by
    have t := cf_turn (k := k) (v3 := v3) (v4 := v4) (v5 := v5) h o (hl s (List.mem_cons_self ..))
    obtain ⟨s1, e1, e2⟩ := R.bind_eq_ok.mp t
    obtain ⟨u3, u4, u5, e3⟩ := cf_loop o (line := r) (Ls := addT Ls s) (addT_cg h (hl s (List.mem_cons_self ..))) fun x hx => hl x (List.mem_cons_of_mem _ hx)
    refine ⟨u3, u4, u5, ?_⟩
    rw [List.map_cons, forD_nx e1 e2 (.inl rfl), e3]
    rfl
theorem lcome_ok (o : MOk M) (hR : Rch M Rs) : D_u_law_come_to.run [.val M.enc] = .ok (.lst (Rs.map eN), []) := by
  have rl := hR.cg.len
  have b60 := o.b60
  have hw2 := while_inv (c := cC) (b := cB)
    (fun m s => ∃ Ls k u3 u4 u5, s = cmS M Ls k u3 u4 u5 ∧ Come M k Ls Rs ∧ CG M Ls ∧ m = Rs.length - k)
    (fun s => ∃ k u3 u4 u5, s = cmS M Rs k u3 u4 u5)
    (fun m s ⟨Ls, k, u3, u4, u5, e, h2, h3, h5⟩ => by
      subst e
      have pl2 : pLen (.list (Ls.map eN)) = .ok (.d (.int (Ls.length : Nat))) := pLenL
      have ll := h3.len
      have hpre := h2.pre
      have lr : Ls.length ≤ Rs.length := hpre.length_le
      by_cases q : k < Ls.length
      · have e0 : pLt (eN k) (.int (Ls.length : Nat)) = bl true := by
          show bl (decide _) = _
          rw [decide_eq_true (by omega)]
        refine R.W_of (a := (true, cmS M Ls k u3 u4 u5)) (by simp only [run_mk, List.map_cons, List.map_nil, List.length_cons, List.length_nil, List.cons_append, List.nil_append, List.replicate_succ, List.replicate_zero, Nat.reduceAdd, Nat.reduceSub, List.getElem?_cons_zero, List.getElem?_cons_succ, List.set_cons_zero, List.set_cons_succ, R.bind_ok, sCons, sNil, sIf, sRet, retL, dropL, sSet, setL, sDrop, sUnp, sPar, lNil, lCons, kF, putL, gN, gT, gAll, kC, kX, kD, kG, kS, scl, k1, k2, L.get, L.take, T.toD, aNil, aCons, kTup, kLst, bVal, bAnd, bOr, bNot, kAnd, kOr, kNot, kIf, boolOf, kCall, cNil, cV, cMv, cPass, lend, back, resL, outs, endOf, srcAt, kSGet, kSLen, kInt, SF.get, SF.put, bl, nm, if_true, if_false, Bool.false_eq_true, Bool.not_true, Bool.not_false, cC, cmS, pl2, e0]) ?_
        rw [if_pos rfl]
        have hi := h3.at q
        have hc : Come M (k + 1) (addL Ls (M.S.getD (Ls.getD k 0) [])) Rs := by
          cases h2 with
          | done h => exact absurd h (by omega)
          | more _ c => exact c
        have x0 : pIx M.enc (.int 3) = .ok (.d (.tuple (M.S.map lineE))) := ix3
        have x1 : pIx (.list (Ls.map eN)) (eN k) = .ok (.d (eN (Ls.getD k 0))) := nodict_pIxL (by rw [List.getElem?_map, getD_at (d0 := 0) q]; rfl)
        have x2 : pIx (.tuple (M.S.map lineE)) (eN (Ls.getD k 0)) = .ok (.d (lineE (M.S.getD (Ls.getD k 0) []))) := nodict_pIxT (by rw [List.getElem?_map, getD_at (d0 := []) (by rw [o.sl]; exact hi)]; rfl)
        have it : iSeq (k2 pIx (k2 pIx (kX 0) (kC (.int 3))) (k2 pIx (kX 1) (kX 2))) (cmS M Ls k u3 u4 u5) = .ok ((M.S.getD (Ls.getD k 0) []).map stpE, cmS M Ls k u3 u4 u5) := by
          simp only [run_mk, List.map_cons, List.map_nil, List.length_cons, List.length_nil, List.cons_append, List.nil_append, List.replicate_succ, List.replicate_zero, Nat.reduceAdd, Nat.reduceSub, List.getElem?_cons_zero, List.getElem?_cons_succ, List.set_cons_zero, List.set_cons_succ, R.bind_ok, sCons, sNil, sIf, sRet, retL, dropL, sSet, setL, sDrop, sUnp, sPar, lNil, lCons, kF, putL, gN, gT, gAll, kC, kX, kD, kG, kS, scl, k1, k2, L.get, L.take, T.toD, aNil, aCons, kTup, kLst, bVal, bAnd, bOr, bNot, kAnd, kOr, kNot, kIf, boolOf, kCall, cNil, cV, cMv, cPass, lend, back, resL, outs, endOf, srcAt, kSGet, kSLen, kInt, SF.get, SF.put, bl, nm, if_true, if_false, Bool.false_eq_true, Bool.not_true, Bool.not_false, iSeq, cmS, x0, x1, x2]
          rfl
        obtain ⟨w3, w4, w5, e3⟩ := cf_loop o (k := k) (v3 := u3) (v4 := u4) (v5 := u5) h3 (line_lt o hi)
        have s1 : cW0 (cmS M Ls k u3 u4 u5) = .ok (.nx, cmS M (addL Ls (M.S.getD (Ls.getD k 0) [])) k w3 w4 w5) := (sFor_it it).trans e3
        have a1 : pAdd (eN k) (.int 1) = .ok (.d (eN (k + 1))) := rfl
        have s2 : cW1 (cmS M (addL Ls (M.S.getD (Ls.getD k 0) [])) k w3 w4 w5) = .ok (.nx, cmS M (addL Ls (M.S.getD (Ls.getD k 0) [])) (k + 1) w3 w4 w5) := by
          simp only [run_mk, List.map_cons, List.map_nil, List.length_cons, List.length_nil, List.cons_append, List.nil_append, List.replicate_succ, List.replicate_zero, Nat.reduceAdd, Nat.reduceSub, List.getElem?_cons_zero, List.getElem?_cons_succ, List.set_cons_zero, List.set_cons_succ, R.bind_ok, sCons, sNil, sIf, sRet, retL, dropL, sSet, setL, sDrop, sUnp, sPar, lNil, lCons, kF, putL, gN, gT, gAll, kC, kX, kD, kG, kS, scl, k1, k2, L.get, L.take, T.toD, aNil, aCons, kTup, kLst, bVal, bAnd, bOr, bNot, kAnd, kOr, kNot, kIf, boolOf, kCall, cNil, cV, cMv, cPass, lend, back, resL, outs, endOf, srcAt, kSGet, kSLen, kInt, SF.get, SF.put, bl, nm, if_true, if_false, Bool.false_eq_true, Bool.not_true, Bool.not_false, cW1, cmS, a1]
        have ev : cB (cmS M Ls k u3 u4 u5) = .ok (.nx, cmS M (addL Ls (M.S.getD (Ls.getD k 0) [])) (k + 1) w3 w4 w5) := by
          unfold cB
          rw [sCons_nx s1, sCons_nx s2]
          rfl
        exact R.W_of ev ⟨.inl rfl, Rs.length - (k + 1), by omega, _, k + 1, _, _, _, rfl, hc, addL_cg h3 (line_lt o hi), rfl⟩
      · have e0 : pLt (eN k) (.int (Ls.length : Nat)) = bl false := by
          show bl (decide _) = _
          rw [decide_eq_false (by omega)]
        refine R.W_of (a := (false, cmS M Ls k u3 u4 u5)) (by simp only [run_mk, List.map_cons, List.map_nil, List.length_cons, List.length_nil, List.cons_append, List.nil_append, List.replicate_succ, List.replicate_zero, Nat.reduceAdd, Nat.reduceSub, List.getElem?_cons_zero, List.getElem?_cons_succ, List.set_cons_zero, List.set_cons_succ, R.bind_ok, sCons, sNil, sIf, sRet, retL, dropL, sSet, setL, sDrop, sUnp, sPar, lNil, lCons, kF, putL, gN, gT, gAll, kC, kX, kD, kG, kS, scl, k1, k2, L.get, L.take, T.toD, aNil, aCons, kTup, kLst, bVal, bAnd, bOr, bNot, kAnd, kOr, kNot, kIf, boolOf, kCall, cNil, cV, cMv, cPass, lend, back, resL, outs, endOf, srcAt, kSGet, kSLen, kInt, SF.get, SF.put, bl, nm, if_true, if_false, Bool.false_eq_true, Bool.not_true, Bool.not_false, cC, cmS, pl2, e0]) ?_
        rw [if_neg (by simp)]
        have eL : Ls = Rs := by
          cases h2 with
          | done h => rfl
          | more h _ => exact absurd h q
        subst eL
        exact ⟨k, u3, u4, u5, rfl⟩)
    (n := fuel) (m := Rs.length) (s := cmS M [0] 0 none none none) ⟨[0], 0, none, none, none, rfl, hR.cm, cg0 o, rfl⟩ (by show _ < 1000000; omega)
  obtain ⟨⟨f1, s1⟩, t1, t2, k, u3, u4, u5, t3⟩ := R.W_get hw2
  simp only at t2 t3
  subst t2 t3
  rw [lcome_def]
  have t1 : sWhile cC cB (cmS M [0] 0 none none none) = .ok (.nx, cmS M Rs k u3 u4 u5) := t1
  have a0 : cS0 [some (.val M.enc), none, none, none, none, none] = .ok (.nx, cmS M [0] 0 none none none) := by
    simp only [run_mk, List.map_cons, List.map_nil, List.length_cons, List.length_nil, List.cons_append, List.nil_append, List.replicate_succ, List.replicate_zero, Nat.reduceAdd, Nat.reduceSub, List.getElem?_cons_zero, List.getElem?_cons_succ, List.set_cons_zero, List.set_cons_succ, R.bind_ok, sCons, sNil, sIf, sRet, retL, dropL, sSet, setL, sDrop, sUnp, sPar, lNil, lCons, kF, putL, gN, gT, gAll, kC, kX, kD, kG, kS, scl, k1, k2, L.get, L.take, T.toD, aNil, aCons, kTup, kLst, bVal, bAnd, bOr, bNot, kAnd, kOr, kNot, kIf, boolOf, kCall, cNil, cV, cMv, cPass, lend, back, resL, outs, endOf, srcAt, kSGet, kSLen, kInt, SF.get, SF.put, bl, nm, if_true, if_false, Bool.false_eq_true, Bool.not_true, Bool.not_false, cS0, cmS, szOk1]
    rfl
  refine run_rt (s1 := [some (.val M.enc), none, some (.val (eN k)), u3, u4, u5]) ?_ rfl
  show sCons cS0 _ [some (.val M.enc), none, none, none, none, none] = _
  rw [sCons_nx a0, sCons_nx t1]
  refine sCons_rt ?_
  simp only [run_mk, List.map_cons, List.map_nil, List.length_cons, List.length_nil, List.cons_append, List.nil_append, List.replicate_succ, List.replicate_zero, Nat.reduceAdd, Nat.reduceSub, List.getElem?_cons_zero, List.getElem?_cons_succ, List.set_cons_zero, List.set_cons_succ, R.bind_ok, sCons, sNil, sIf, sRet, retL, dropL, sSet, setL, sDrop, sUnp, sPar, lNil, lCons, kF, putL, gN, gT, gAll, kC, kX, kD, kG, kS, scl, k1, k2, L.get, L.take, T.toD, aNil, aCons, kTup, kLst, bVal, bAnd, bOr, bNot, kAnd, kOr, kNot, kIf, boolOf, kCall, cNil, cV, cMv, cPass, lend, back, resL, outs, endOf, srcAt, kSGet, kSLen, kInt, SF.get, SF.put, bl, nm, if_true, if_false, Bool.false_eq_true, Bool.not_true, Bool.not_false, cS2, cmS]
/-! ### the law's machine, numbered -/
def nmS (M : Mach) (Rs : List Nat) (v1 v6 v7 v8 v9 v10 v11 v12 : Option T) : Sl := [some (.val M.enc), v1, some (.val (strsE M.W)), some (.val (.tuple (M.B.map eN))), some (.val (.tuple (M.Y.map eN))), some (.val (.tuple (M.S.map lineE))), v6, v7, v8, v9, v10, v11, v12]
theorem firstAt_ns {v : Nat} : ∀ {l : List Nat}, v ∈ l → firstAt (eN v) (l.map eN) = some (idxN v l)
  | [], h => by cases h
  | w :: r, h => by
    rw [List.map_cons, firstAt, eqv_N]
    unfold idxN
    by_cases q : w = v
    · rw [decide_eq_true q, if_pos q]; rfl
    · rw [decide_eq_false q, if_neg q, firstAt_ns (l := r) ((List.mem_cons.mp h).resolve_left (fun e => q e.symm))]
      rfl
theorem idx_ns {v : Nat} (hv : v < 100) (h : ∀ x ∈ Ls, x < 100) (hm : v ∈ Ls) : pIndex (.list (Ls.map eN)) (eN v) = .ok (.d (eN (idxN v Ls))) := by
  have ey : eqOk (.list (Ls.map eN)) = true := (fit_lst (n := 0) (m := 20) (k := Ls.length) (fun d hd => by
    obtain ⟨x, hx, rfl⟩ := List.mem_map.mp hd
    exact fit_int (h x hx)) (by rw [List.length_map]; exact Nat.le_refl _)).eqOk (by decide)
  show (if _ then _ else _) = _
  rw [(fit_int hv).eqOk (by decide), ey, firstAt_ns hm]
  rfl
theorem nf_turn (o : MOk M) (hR : Rch M Rs) {m i : Nat} (hi : i < Rs.length) (hm : m = Rs.getD i 0) {acc : List (List Stp)} (ha : acc.length ≤ 100) :
    nF (nmS M Rs (some (.val (.list (Rs.map eN)))) (some (.lst (acc.map lineE))) (some (.val (eN m))) none none none none none) =
      .ok (.nx, nmS M Rs (some (.val (.list (Rs.map eN)))) (some (.lst ((acc ++ [(M.S.getD m []).map (numS Rs)]).map lineE))) (some (.val (eN m))) none none none none none) := by
  have b60 := o.b60
  have rl := hR.cg.len
  have hmB : m < M.B.length := hm ▸ hR.cg.at hi
  have x2 : pIx (.tuple (M.S.map lineE)) (eN m) = .ok (.d (lineE (M.S.getD m []))) := nodict_pIxT (by rw [List.getElem?_map, getD_at (d0 := []) (by rw [o.sl]; exact hmB)]; rfl)
  have hc := comp_map (g := gT [(gN 10), (gN 11), (gN 12)]) (c := none) (f := kTup (aCons (kX 10) (aCons (kIndex (kX 1) (kX 11)) (aCons (kX 12) aNil)))) (own := [10, 11, 12])
    (s := nmS M Rs (some (.val (.list (Rs.map eN)))) (some (.lst (acc.map lineE))) (some (.val (eN m))) none none none none none)
    stpE (fun s => nmS M Rs (some (.val (.list (Rs.map eN)))) (some (.lst (acc.map lineE))) (some (.val (eN m))) none none (some (.val (.tuple (s.1.map eN)))) (some (.val (eN s.2.1))) (some (.val (.tuple (s.2.2.map eN))))) (fun _ => true) (fun s => stpE (numS Rs s)) rfl (xs := M.S.getD m []) (fun s hs => by
      have hl := line_lt o hmB s hs
      have hin : s.2.1 ∈ Rs := hR.cl i hi s (hm ▸ hs)
      have ix := idx_ns (Ls := Rs) (v := s.2.1) (by omega) (fun x hx => by have := hR.cg.lt x hx; omega) hin
      refine ⟨by simp only [run_mk, List.map_cons, List.map_nil, List.length_cons, List.length_nil, List.cons_append, List.nil_append, List.replicate_succ, List.replicate_zero, Nat.reduceAdd, Nat.reduceSub, List.getElem?_cons_zero, List.getElem?_cons_succ, List.set_cons_zero, List.set_cons_succ, R.bind_ok, sCons, sNil, sIf, sRet, retL, dropL, sSet, setL, sDrop, sUnp, sPar, lNil, lCons, kF, putL, gN, gT, gAll, kC, kX, kD, kG, kS, scl, k1, k2, L.get, L.take, T.toD, aNil, aCons, kTup, kLst, bVal, bAnd, bOr, bNot, kAnd, kOr, kNot, kIf, boolOf, kCall, cNil, cV, cMv, cPass, lend, back, resL, outs, endOf, srcAt, kSGet, kSLen, kInt, SF.get, SF.put, bl, nm, if_true, if_false, Bool.false_eq_true, Bool.not_true, Bool.not_false, nmS, stpE, seqOf], rfl, rfl, fun _ => ?_⟩
      simp only [run_mk, List.map_cons, List.map_nil, List.length_cons, List.length_nil, List.cons_append, List.nil_append, List.replicate_succ, List.replicate_zero, Nat.reduceAdd, Nat.reduceSub, List.getElem?_cons_zero, List.getElem?_cons_succ, List.set_cons_zero, List.set_cons_succ, R.bind_ok, sCons, sNil, sIf, sRet, retL, dropL, sSet, setL, sDrop, sUnp, sPar, lNil, lCons, kF, putL, gN, gT, gAll, kC, kX, kD, kG, kS, scl, k1, k2, L.get, L.take, T.toD, aNil, aCons, kTup, kLst, bVal, bAnd, bOr, bNot, kAnd, kOr, kNot, kIf, boolOf, kCall, cNil, cV, cMv, cPass, lend, back, resL, outs, endOf, srcAt, kSGet, kSLen, kInt, SF.get, SF.put, bl, nm, if_true, if_false, Bool.false_eq_true, Bool.not_true, Bool.not_false, nmS, kIndex, ix, szOk3]
      rfl)
  rw [List.filter_eq_self.mpr (fun _ _ => rfl)] at hc
  have it : iSeq (k2 pIx (kX 5) (kX 7)) (nmS M Rs (some (.val (.list (Rs.map eN)))) (some (.lst (acc.map lineE))) (some (.val (eN m))) none none none none none) = .ok ((M.S.getD m []).map stpE, nmS M Rs (some (.val (.list (Rs.map eN)))) (some (.lst (acc.map lineE))) (some (.val (eN m))) none none none none none) := by
    simp only [run_mk, List.map_cons, List.map_nil, List.length_cons, List.length_nil, List.cons_append, List.nil_append, List.replicate_succ, List.replicate_zero, Nat.reduceAdd, Nat.reduceSub, List.getElem?_cons_zero, List.getElem?_cons_succ, List.set_cons_zero, List.set_cons_succ, R.bind_ok, sCons, sNil, sIf, sRet, retL, dropL, sSet, setL, sDrop, sUnp, sPar, lNil, lCons, kF, putL, gN, gT, gAll, kC, kX, kD, kG, kS, scl, k1, k2, L.get, L.take, T.toD, aNil, aCons, kTup, kLst, bVal, bAnd, bOr, bNot, kAnd, kOr, kNot, kIf, boolOf, kCall, cNil, cV, cMv, cPass, lend, back, resL, outs, endOf, srcAt, kSGet, kSLen, kInt, SF.get, SF.put, bl, nm, if_true, if_false, Bool.false_eq_true, Bool.not_true, Bool.not_false, iSeq, nmS, x2]
    rfl
  have z : szOk ((M.S.getD m []).map fun s => stpE (numS Rs s)).length = true := szOk_of (by
    rw [List.length_map, o.ll _ hmB]
    have := o.ws
    have := o.b5 _ (List.mem_of_getElem? (getD_at (d0 := 0) hmB))
    omega)
  have kc := kComp_it it hc z
  have eL : (M.S.getD m []).map (fun s => stpE (numS Rs s)) = ((M.S.getD m []).map (numS Rs)).map stpE := by rw [List.map_map]; rfl
  rw [eL] at kc
  have p1 : ∀ l : List Stp, pTuple (.list (l.map stpE)) = .ok (.d (lineE l)) := fun l => rfl
  have z2 : szOk ((acc.map lineE).length + 1) = true := szOk_of (by rw [List.length_map]; omega)
  have ap : ∀ l : List Stp, acc.map lineE ++ [lineE l] = (acc ++ [l]).map lineE := fun l => by rw [List.map_append]; rfl
  simp only [nmS] at kc
  simp only [run_mk, List.map_cons, List.map_nil, List.length_cons, List.length_nil, List.cons_append, List.nil_append, List.replicate_succ, List.replicate_zero, Nat.reduceAdd, Nat.reduceSub, List.getElem?_cons_zero, List.getElem?_cons_succ, List.set_cons_zero, List.set_cons_succ, R.bind_ok, sCons, sNil, sIf, sRet, retL, dropL, sSet, setL, sDrop, sUnp, sPar, lNil, lCons, kF, putL, gN, gT, gAll, kC, kX, kD, kG, kS, scl, k1, k2, L.get, L.take, T.toD, aNil, aCons, kTup, kLst, bVal, bAnd, bOr, bNot, kAnd, kOr, kNot, kIf, boolOf, kCall, cNil, cV, cMv, cPass, lend, back, resL, outs, endOf, srcAt, kSGet, kSLen, kInt, SF.get, SF.put, bl, nm, if_true, if_false, Bool.false_eq_true, Bool.not_true, Bool.not_false, nF, nmS, kApp, kc, p1, z2, ap]
theorem n2_ok (o : MOk M) (hR : Rch M Rs) : ∃ u7, nS2 (nmS M Rs (some (.val (.list (Rs.map eN)))) (some (.lst [])) none none none none none none) =
    .ok (.nx, nmS M Rs (some (.val (.list (Rs.map eN)))) (some (.lst ((numM M Rs).S.map lineE))) u7 none none none none none) := by
  have b60 := o.b60
  have rl := hR.cg.len
  have w := for_inv (g := gN 7) (b := nF) (ds := Rs.map eN) (s := nmS M Rs (some (.val (.list (Rs.map eN)))) (some (.lst [])) none none none none none none)
    (fun i s => ∃ u7, s = nmS M Rs (some (.val (.list (Rs.map eN)))) (some (.lst ((lns M Rs i).map lineE))) u7 none none none none none)
    ⟨none, rfl⟩ (fun i x s hx ⟨u7, e⟩ => by
      subst e
      have hi : i < Rs.length := by
        have := (List.getElem?_eq_some_iff.mp hx).1
        rw [List.length_map] at this
        exact this
      have hx2 : x = eN (Rs.getD i 0) := by
        rw [List.getElem?_map, getD_at (d0 := 0) hi] at hx
        exact (Option.some.inj hx).symm
      subst hx2
      refine R.W_of (a := nmS M Rs (some (.val (.list (Rs.map eN)))) (some (.lst ((lns M Rs i).map lineE))) (some (.val (eN (Rs.getD i 0)))) none none none none none) rfl ?_
      refine R.W_of (nf_turn o hR hi rfl (by unfold lns; rw [List.length_map, List.length_take]; omega)) ⟨.inl rfl, some (.val (eN (Rs.getD i 0))), ?_⟩
      have e : lns M Rs i ++ [(M.S.getD (Rs.getD i 0) []).map (numS Rs)] = lns M Rs (i + 1) := by
        unfold lns
        rw [List.take_succ, getD_at (d0 := 0) hi, List.map_append]
        rfl
      rw [e])
  obtain ⟨⟨f1, s1⟩, t1, t2, u7, t3⟩ := R.W_get w
  simp only at t2 t3
  subst t2 t3
  have eT : lns M Rs Rs.length = (numM M Rs).S := by
    unfold lns
    rw [List.take_of_length_le (Nat.le_refl _)]
    rfl
  rw [List.length_map, eT] at t1
  refine ⟨u7, (sFor_it ?_).trans t1⟩
  simp only [run_mk, List.map_cons, List.map_nil, List.length_cons, List.length_nil, List.cons_append, List.nil_append, List.replicate_succ, List.replicate_zero, Nat.reduceAdd, Nat.reduceSub, List.getElem?_cons_zero, List.getElem?_cons_succ, List.set_cons_zero, List.set_cons_succ, R.bind_ok, sCons, sNil, sIf, sRet, retL, dropL, sSet, setL, sDrop, sUnp, sPar, lNil, lCons, kF, putL, gN, gT, gAll, kC, kX, kD, kG, kS, scl, k1, k2, L.get, L.take, T.toD, aNil, aCons, kTup, kLst, bVal, bAnd, bOr, bNot, kAnd, kOr, kNot, kIf, boolOf, kCall, cNil, cV, cMv, cPass, lend, back, resL, outs, endOf, srcAt, kSGet, kSLen, kInt, SF.get, SF.put, bl, nm, if_true, if_false, Bool.false_eq_true, Bool.not_true, Bool.not_false, iSeq, nmS, seqOf]
theorem n3_ok (hR : CG M Rs) (o : MOk M) (hy : ∀ x ∈ M.Y, x < 100) {v6 : Option T} :
    ∃ u7, nS3 (nmS M Rs (some (.val (.list (Rs.map eN)))) v6 v7 none none none none none) = .ok (.nx, nmS M Rs (some (.val (.list (Rs.map eN)))) v6 u7 (some (.val (.tuple ((numM M Rs).Y.map eN)))) none none none none) := by
  obtain ⟨s', hc, he⟩ := comp_map2 (g := gT [(gN 9), (gN 7)]) (c := some (bVal (k2 pIn (kX 7) (kX 4)))) (f := kX 9) (own := [9, 7]) (s := nmS M Rs (some (.val (.list (Rs.map eN)))) v6 v7 none none none none none)
    (enE Rs) (fun k => nmS M Rs (some (.val (.list (Rs.map eN)))) v6 (some (.val (eN (Rs.getD k 0)))) none (some (.val (eN k))) none none none) (fun k => decide (Rs.getD k 0 ∈ M.Y)) eN rfl (xs := List.range Rs.length) (fun k hk => by
      have hk := List.mem_range.mp hk
      have e1 := inYes (M := M) (i := Rs.getD k 0) (by have := hR.at hk; have := o.b60; omega) hy
      refine ⟨by simp only [run_mk, List.map_cons, List.map_nil, List.length_cons, List.length_nil, List.cons_append, List.nil_append, List.replicate_succ, List.replicate_zero, Nat.reduceAdd, Nat.reduceSub, List.getElem?_cons_zero, List.getElem?_cons_succ, List.set_cons_zero, List.set_cons_succ, R.bind_ok, sCons, sNil, sIf, sRet, retL, dropL, sSet, setL, sDrop, sUnp, sPar, lNil, lCons, kF, putL, gN, gT, gAll, kC, kX, kD, kG, kS, scl, k1, k2, L.get, L.take, T.toD, aNil, aCons, kTup, kLst, bVal, bAnd, bOr, bNot, kAnd, kOr, kNot, kIf, boolOf, kCall, cNil, cV, cMv, cPass, lend, back, resL, outs, endOf, srcAt, kSGet, kSLen, kInt, SF.get, SF.put, bl, nm, if_true, if_false, Bool.false_eq_true, Bool.not_true, Bool.not_false, nmS, wipeD, enE, seqOf], rfl, ?_, fun _ => rfl⟩
      simp only [run_mk, List.map_cons, List.map_nil, List.length_cons, List.length_nil, List.cons_append, List.nil_append, List.replicate_succ, List.replicate_zero, Nat.reduceAdd, Nat.reduceSub, List.getElem?_cons_zero, List.getElem?_cons_succ, List.set_cons_zero, List.set_cons_succ, R.bind_ok, sCons, sNil, sIf, sRet, retL, dropL, sSet, setL, sDrop, sUnp, sPar, lNil, lCons, kF, putL, gN, gT, gAll, kC, kX, kD, kG, kS, scl, k1, k2, L.get, L.take, T.toD, aNil, aCons, kTup, kLst, bVal, bAnd, bOr, bNot, kAnd, kOr, kNot, kIf, boolOf, kCall, cNil, cV, cMv, cPass, lend, back, resL, outs, endOf, srcAt, kSGet, kSLen, kInt, SF.get, SF.put, bl, nm, if_true, if_false, Bool.false_eq_true, Bool.not_true, Bool.not_false, bOf, nmS, e1])
  have it : iEnum (kX 1) (nmS M Rs (some (.val (.list (Rs.map eN)))) v6 v7 none none none none none) = .ok ((List.range Rs.length).map (enE Rs), nmS M Rs (some (.val (.list (Rs.map eN)))) v6 v7 none none none none none) := by
    rw [← enum_E]
    simp only [run_mk, List.map_cons, List.map_nil, List.length_cons, List.length_nil, List.cons_append, List.nil_append, List.replicate_succ, List.replicate_zero, Nat.reduceAdd, Nat.reduceSub, List.getElem?_cons_zero, List.getElem?_cons_succ, List.set_cons_zero, List.set_cons_succ, R.bind_ok, sCons, sNil, sIf, sRet, retL, dropL, sSet, setL, sDrop, sUnp, sPar, lNil, lCons, kF, putL, gN, gT, gAll, kC, kX, kD, kG, kS, scl, k1, k2, L.get, L.take, T.toD, aNil, aCons, kTup, kLst, bVal, bAnd, bOr, bNot, kAnd, kOr, kNot, kIf, boolOf, kCall, cNil, cV, cMv, cPass, lend, back, resL, outs, endOf, srcAt, kSGet, kSLen, kInt, SF.get, SF.put, bl, nm, if_true, if_false, Bool.false_eq_true, Bool.not_true, Bool.not_false, iEnum, iSeq, nmS, seqOf]
  have z : szOk (((List.range Rs.length).filter fun k => decide (Rs.getD k 0 ∈ M.Y)).map eN).length = true := szOk_of (by
    rw [List.length_map]
    have := List.length_filter_le (fun k => decide (Rs.getD k 0 ∈ M.Y)) (List.range Rs.length)
    rw [List.length_range] at this
    have := hR.len
    have := o.b60
    omega)
  have kc := kComp_it it hc z
  have p1 : ∀ l : List D, pTuple (.list l) = .ok (.d (.tuple l)) := fun l => rfl
  rcases he with he | he
  · subst he
    refine ⟨v7, ?_⟩
    unfold nS3 sSet k1
    rw [kc]
    simp only [run_mk, List.map_cons, List.map_nil, List.length_cons, List.length_nil, List.cons_append, List.nil_append, List.replicate_succ, List.replicate_zero, Nat.reduceAdd, Nat.reduceSub, List.getElem?_cons_zero, List.getElem?_cons_succ, List.set_cons_zero, List.set_cons_succ, R.bind_ok, sCons, sNil, sIf, sRet, retL, dropL, sSet, setL, sDrop, sUnp, sPar, lNil, lCons, kF, putL, gN, gT, gAll, kC, kX, kD, kG, kS, scl, k1, k2, L.get, L.take, T.toD, aNil, aCons, kTup, kLst, bVal, bAnd, bOr, bNot, kAnd, kOr, kNot, kIf, boolOf, kCall, cNil, cV, cMv, cPass, lend, back, resL, outs, endOf, srcAt, kSGet, kSLen, kInt, SF.get, SF.put, bl, nm, if_true, if_false, Bool.false_eq_true, Bool.not_true, Bool.not_false, nmS, p1]
    rfl
  · have he : s' = nmS M Rs (some (.val (.list (Rs.map eN)))) v6 none none none none none none := he
    subst he
    refine ⟨none, ?_⟩
    unfold nS3 sSet k1
    rw [kc]
    simp only [run_mk, List.map_cons, List.map_nil, List.length_cons, List.length_nil, List.cons_append, List.nil_append, List.replicate_succ, List.replicate_zero, Nat.reduceAdd, Nat.reduceSub, List.getElem?_cons_zero, List.getElem?_cons_succ, List.set_cons_zero, List.set_cons_succ, R.bind_ok, sCons, sNil, sIf, sRet, retL, dropL, sSet, setL, sDrop, sUnp, sPar, lNil, lCons, kF, putL, gN, gT, gAll, kC, kX, kD, kG, kS, scl, k1, k2, L.get, L.take, T.toD, aNil, aCons, kTup, kLst, bVal, bAnd, bOr, bNot, kAnd, kOr, kNot, kIf, boolOf, kCall, cNil, cV, cMv, cPass, lend, back, resL, outs, endOf, srcAt, kSGet, kSLen, kInt, SF.get, SF.put, bl, nm, if_true, if_false, Bool.false_eq_true, Bool.not_true, Bool.not_false, nmS, p1]
    rfl
theorem n4_ok (hR : CG M Rs) (o : MOk M) : ∃ s', nS4 (nmS M Rs (some (.val (.list (Rs.map eN)))) (some (.lst ((numM M Rs).S.map lineE))) v7 (some (.val (.tuple ((numM M Rs).Y.map eN)))) none none none none) = .ok (.rt (.val (numM M Rs).enc), s') := by
  have hl := hR.len
  have b60 := o.b60
  obtain ⟨s', hc, he⟩ := comp_map2 (g := gN 7) (c := none) (f := k2 pIx (kX 3) (kX 7)) (own := [7]) (s := nmS M Rs (some (.val (.list (Rs.map eN)))) (some (.lst ((numM M Rs).S.map lineE))) v7 (some (.val (.tuple ((numM M Rs).Y.map eN)))) none none none none)
    eN (fun m => nmS M Rs (some (.val (.list (Rs.map eN)))) (some (.lst ((numM M Rs).S.map lineE))) (some (.val (eN m))) (some (.val (.tuple ((numM M Rs).Y.map eN)))) none none none none) (fun _ => true) (fun m => eN (M.B.getD m 0)) rfl (xs := Rs) (fun m hm => by
      have xk : pIx (.tuple (M.B.map eN)) (eN m) = .ok (.d (eN (M.B.getD m 0))) := nodict_pIxT (by rw [List.getElem?_map, getD_at (d0 := 0) (hR.lt m hm)]; rfl)
      refine ⟨rfl, rfl, rfl, fun _ => ?_⟩
      simp only [run_mk, List.map_cons, List.map_nil, List.length_cons, List.length_nil, List.cons_append, List.nil_append, List.replicate_succ, List.replicate_zero, Nat.reduceAdd, Nat.reduceSub, List.getElem?_cons_zero, List.getElem?_cons_succ, List.set_cons_zero, List.set_cons_succ, R.bind_ok, sCons, sNil, sIf, sRet, retL, dropL, sSet, setL, sDrop, sUnp, sPar, lNil, lCons, kF, putL, gN, gT, gAll, kC, kX, kD, kG, kS, scl, k1, k2, L.get, L.take, T.toD, aNil, aCons, kTup, kLst, bVal, bAnd, bOr, bNot, kAnd, kOr, kNot, kIf, boolOf, kCall, cNil, cV, cMv, cPass, lend, back, resL, outs, endOf, srcAt, kSGet, kSLen, kInt, SF.get, SF.put, bl, nm, if_true, if_false, Bool.false_eq_true, Bool.not_true, Bool.not_false, nmS, xk])
  rw [List.filter_eq_self.mpr (fun _ _ => rfl)] at hc
  have it : iSeq (kX 1) (nmS M Rs (some (.val (.list (Rs.map eN)))) (some (.lst ((numM M Rs).S.map lineE))) v7 (some (.val (.tuple ((numM M Rs).Y.map eN)))) none none none none) = .ok (Rs.map eN, nmS M Rs (some (.val (.list (Rs.map eN)))) (some (.lst ((numM M Rs).S.map lineE))) v7 (some (.val (.tuple ((numM M Rs).Y.map eN)))) none none none none) := by
    simp only [run_mk, List.map_cons, List.map_nil, List.length_cons, List.length_nil, List.cons_append, List.nil_append, List.replicate_succ, List.replicate_zero, Nat.reduceAdd, Nat.reduceSub, List.getElem?_cons_zero, List.getElem?_cons_succ, List.set_cons_zero, List.set_cons_succ, R.bind_ok, sCons, sNil, sIf, sRet, retL, dropL, sSet, setL, sDrop, sUnp, sPar, lNil, lCons, kF, putL, gN, gT, gAll, kC, kX, kD, kG, kS, scl, k1, k2, L.get, L.take, T.toD, aNil, aCons, kTup, kLst, bVal, bAnd, bOr, bNot, kAnd, kOr, kNot, kIf, boolOf, kCall, cNil, cV, cMv, cPass, lend, back, resL, outs, endOf, srcAt, kSGet, kSLen, kInt, SF.get, SF.put, bl, nm, if_true, if_false, Bool.false_eq_true, Bool.not_true, Bool.not_false, iSeq, nmS, seqOf]
  have z : szOk (Rs.map fun m => eN (M.B.getD m 0)).length = true := szOk_of (by rw [List.length_map]; omega)
  have kc := kComp_it it hc z
  have p1 : ∀ l : List D, pTuple (.list l) = .ok (.d (.tuple l)) := fun l => rfl
  have eB : Rs.map (fun m => eN (M.B.getD m 0)) = (numM M Rs).B.map eN := by
    show _ = (Rs.map (M.B.getD · 0)).map eN
    rw [List.map_map]; rfl
  rw [eB] at kc
  have : ∃ u7, s' = nmS M Rs (some (.val (.list (Rs.map eN)))) (some (.lst ((numM M Rs).S.map lineE))) u7 (some (.val (.tuple ((numM M Rs).Y.map eN)))) none none none none := by
    rcases he with he | he
    · exact ⟨v7, he⟩
    · exact ⟨none, he⟩
  obtain ⟨u7, he⟩ := this
  subst he
  simp only [nmS] at kc
  refine ⟨nmS M Rs (some (.val (.list (Rs.map eN)))) (some (.lst ((numM M Rs).S.map lineE))) u7 (some (.val (.tuple ((numM M Rs).Y.map eN)))) none none none none, ?_⟩
  simp only [run_mk, List.map_cons, List.map_nil, List.length_cons, List.length_nil, List.cons_append, List.nil_append, List.replicate_succ, List.replicate_zero, Nat.reduceAdd, Nat.reduceSub, List.getElem?_cons_zero, List.getElem?_cons_succ, List.set_cons_zero, List.set_cons_succ, R.bind_ok, sCons, sNil, sIf, sRet, retL, dropL, sSet, setL, sDrop, sUnp, sPar, lNil, lCons, kF, putL, gN, gT, gAll, kC, kX, kD, kG, kS, scl, k1, k2, L.get, L.take, T.toD, aNil, aCons, kTup, kLst, bVal, bAnd, bOr, bNot, kAnd, kOr, kNot, kIf, boolOf, kCall, cNil, cV, cMv, cPass, lend, back, resL, outs, endOf, srcAt, kSGet, kSLen, kInt, SF.get, SF.put, bl, nm, if_true, if_false, Bool.false_eq_true, Bool.not_true, Bool.not_false, nS4, nmS, kc, p1, szOk4]
  rfl
theorem lnum_ok (o : MOk M) (hR : Rch M Rs) (hy : ∀ x ∈ M.Y, x < 100) : D_u_law_numbered.run [.val M.enc, .val (.list (Rs.map eN))] = .ok (.val (numM M Rs).enc, []) := by
  obtain ⟨u7, t2⟩ := n2_ok o hR
  obtain ⟨w7, t3⟩ := n3_ok (v6 := some (.lst ((numM M Rs).S.map lineE))) (v7 := u7) hR.cg o hy
  obtain ⟨s', t4⟩ := n4_ok (v7 := w7) hR.cg o
  have t0 : nS0 [some (.val M.enc), some (.val (.list (Rs.map eN))), none, none, none, none, none, none, none, none, none, none, none] = .ok (.nx, nmS M Rs (some (.val (.list (Rs.map eN)))) none none none none none none none) := by
    have e : M.enc = .tuple [strsE M.W, .tuple (M.B.map eN), .tuple (M.Y.map eN), .tuple (M.S.map lineE)] := rfl
    simp only [run_mk, List.map_cons, List.map_nil, List.length_cons, List.length_nil, List.cons_append, List.nil_append, List.replicate_succ, List.replicate_zero, Nat.reduceAdd, Nat.reduceSub, List.getElem?_cons_zero, List.getElem?_cons_succ, List.set_cons_zero, List.set_cons_succ, R.bind_ok, sCons, sNil, sIf, sRet, retL, dropL, sSet, setL, sDrop, sUnp, sPar, lNil, lCons, kF, putL, gN, gT, gAll, kC, kX, kD, kG, kS, scl, k1, k2, L.get, L.take, T.toD, aNil, aCons, kTup, kLst, bVal, bAnd, bOr, bNot, kAnd, kOr, kNot, kIf, boolOf, kCall, cNil, cV, cMv, cPass, lend, back, resL, outs, endOf, srcAt, kSGet, kSLen, kInt, SF.get, SF.put, bl, nm, if_true, if_false, Bool.false_eq_true, Bool.not_true, Bool.not_false, nS0, nmS, e]
  have t1 : nS1 (nmS M Rs (some (.val (.list (Rs.map eN)))) none none none none none none none) = .ok (.nx, nmS M Rs (some (.val (.list (Rs.map eN)))) (some (.lst [])) none none none none none none) := by
    simp only [run_mk, List.map_cons, List.map_nil, List.length_cons, List.length_nil, List.cons_append, List.nil_append, List.replicate_succ, List.replicate_zero, Nat.reduceAdd, Nat.reduceSub, List.getElem?_cons_zero, List.getElem?_cons_succ, List.set_cons_zero, List.set_cons_succ, R.bind_ok, sCons, sNil, sIf, sRet, retL, dropL, sSet, setL, sDrop, sUnp, sPar, lNil, lCons, kF, putL, gN, gT, gAll, kC, kX, kD, kG, kS, scl, k1, k2, L.get, L.take, T.toD, aNil, aCons, kTup, kLst, bVal, bAnd, bOr, bNot, kAnd, kOr, kNot, kIf, boolOf, kCall, cNil, cV, cMv, cPass, lend, back, resL, outs, endOf, srcAt, kSGet, kSLen, kInt, SF.get, SF.put, bl, nm, if_true, if_false, Bool.false_eq_true, Bool.not_true, Bool.not_false, nS1, nmS, szOk0]
  rw [lnum_def]
  refine run_rt (s1 := s') ?_ rfl
  show sCons nS0 _ [some (.val M.enc), some (.val (.list (Rs.map eN))), none, none, none, none, none, none, none, none, none, none, none] = _
  rw [sCons_nx t0, sCons_nx t1, sCons_nx t2, sCons_nx t3]
  exact sCons_rt t4
end
end K11

set_option Elab.async false
set_option linter.all false
set_option maxRecDepth 100000
set_option maxHeartbeats 4000000
set_option pp.maxSteps 600
namespace K11
open PySem KV
/-! ### drawn machines -/
def P0 : SV := (sSet 10 (k2 pAdd (k2 pAdd (kX 5) (kX 6)) (k1 pInt (k2 pEq (kX 9) (k2 pAdd (kX 5) (kX 6))))))
def P1 : SV := (sSet 11 (kComp (iRg1 (k1 pLen (kX 3))) (gN 15) (some (bVal (k2 pLe (k2 pIx (kX 3) (kX 15)) (k2 pSub (kX 10) (kX 5))))) (kX 15) [15]))
def P2 : SV := (sSet 12 (kCall (D_u_law_of).run (cMv 0 (cV (kX 11) cNil))))
def P3 : SV := (sSet 13 (kSl (kCall (D_u_law_mixed).run (cMv 0 (cV (kLR (iRg2 (kX 5) (kX 10))) cNil))) none (some (k2 pIx (kX 3) (kX 12)))))
def P4 : SV := (sSet 14 (kComp (iRg1 (kIf (bVal (k2 pGt (kX 10) (kC (.int 0)))) (kCall (D_u_law_of).run (cMv 0 (cV (kLst (aCons (kC (.int 0)) (aCons (kC (.int 0)) (aCons (kC (.int 1)) (aCons (kC (.int 1)) (aCons (kC (.int 2)) aNil)))))) cNil))) (kC (.int 0)))) (gN 16) none (kCall (D_u_law_pick).run (cMv 0 (cV (kX 10) cNil))) [16]))
def P5 : SV := (sDrop (kApp 8 (kTup (aCons (k1 pTuple (kX 14)) (aCons (kX 12) (aCons (k1 pTuple (kX 13)) aNil))))))
def lnB : SV := (sCons P0 (sCons P1 (sCons P2 (sCons P3 (sCons P4 (sCons P5 sNil))))))
def O0 : SV := (sSet 8 (kLst aNil))
def O1 : SV := (sFor (iRg1 (k2 pAdd (k2 pAdd (kX 5) (kX 6)) (kC (.int 1)))) (gN 9) lnB)
def O2 : SV := (sDrop (kApp 4 (k1 pTuple (kX 8))))
def outB : SV := (sCons O0 (sCons O1 (sCons O2 sNil)))
def B0 : SV := (sSet 3 (k2 pAdd (kTup (aCons (kC (.int 0)) aNil)) (k1 pTuple (kComp (iRg1 (kCall (D_u_law_pick).run (cMv 0 (cV (kX 2) cNil)))) (gN 16) none (kCall (D_u_law_of).run (cMv 0 (cV (kLst (aCons (kC (.int 0)) (aCons (kC (.int 1)) (aCons (kC (.int 1)) (aCons (kC (.int 2)) (aCons (kC (.int 2)) (aCons (kC (.int 3)) aNil))))))) cNil))) [16]))))
def B1 : SV := (sPar [4, 5] (lCons (kLst aNil) (lCons (k1 pLen (kX 1)) lNil)))
def B2 : SV := (sFor (iSeq (kX 3)) (gN 6) outB)
def B3 : SV := (sSet 7 (k1 pTuple (kComp (iRg1 (k1 pLen (kX 3))) (gN 15) (some (bVal (k2 pEq (kCall (D_u_law_pick).run (cMv 0 (cV (kC (.int 3)) cNil))) (kC (.int 0))))) (kX 15) [15])))
def B4 : SV := (sRet (kTup (aCons (kX 1) (aCons (kX 3) (aCons (kX 7) (aCons (k1 pTuple (kX 4)) aNil))))))
theorem lmach_def : D_u_law_machine = ⟨17, [0], (sCons B0 (sCons B1 (sCons B2 (sCons B3 (sCons B4 sNil)))))⟩ := rfl
theorem comp_invC {g : GV} {c : Option BV} {f : EV} {own : List Nat} {ds : List D} (I : Nat → List D → Sl → Prop)
    (h : ∀ i x acc s, ds[i]? = some x → I i acc s → (g x (wipeD s own)).W fun s1 => (bOf c s1).W fun r => if r.1 = true then (kD f r.2).W fun q => I (i + 1) (acc ++ [q.1]) (wipeD q.2 own) else I (i + 1) acc (wipeD r.2 own)) :
    ∀ {k : Nat} {acc : List D} {s : Sl}, I k acc s → k ≤ ds.length → (compD g c f own (ds.drop k) s).W fun r => I ds.length (acc ++ r.1) r.2 := by
  intro k acc s hi hk
  generalize hn : ds.length - k = n
  induction n generalizing k s acc with
  | zero =>
    have : k = ds.length := by omega
    subst this
    rw [List.drop_length]
    show I _ (acc ++ []) s
    rw [List.append_nil]
    exact hi
  | succ n ih =>
    have hlt : k < ds.length := by omega
    rw [List.drop_eq_getElem_cons hlt, compD_cons]
    obtain ⟨s1, e1, h1⟩ := R.W_get (h k ds[k] acc s (List.getElem?_eq_getElem hlt) hi)
    obtain ⟨⟨t, s2⟩, e2, h2⟩ := R.W_get h1
    rw [e1, R.bind_ok, e2, R.bind_ok]
    cases t with
    | false =>
      simp only [Bool.false_eq_true, if_false] at h2 ⊢
      exact ih (k := k + 1) h2 hlt (by omega)
    | true =>
      simp only [if_true] at h2 ⊢
      obtain ⟨q, e3, h3⟩ := R.W_get h2
      obtain ⟨r, e4, h4⟩ := R.W_get (ih (k := k + 1) h3 hlt (by omega))
      rw [e3, R.bind_ok, e4, R.bind_ok]
      show I _ (acc ++ q.1 :: r.1) r.2
      have : acc ++ q.1 :: r.1 = acc ++ [q.1] ++ r.1 := by simp
      rw [this]
      exact h4
theorem comp_invC0 {g : GV} {c : Option BV} {f : EV} {own : List Nat} {ds : List D} {s : Sl} (I : Nat → List D → Sl → Prop) (h0 : I 0 [] s)
    (h : ∀ i x acc s, ds[i]? = some x → I i acc s → (g x (wipeD s own)).W fun s1 => (bOf c s1).W fun r => if r.1 = true then (kD f r.2).W fun q => I (i + 1) (acc ++ [q.1]) (wipeD q.2 own) else I (i + 1) acc (wipeD r.2 own)) :
    (compD g c f own ds s).W fun r => I ds.length r.1 r.2 := by
  have := comp_invC I h (k := 0) h0 (Nat.zero_le _)
  simpa using this
theorem of_ns (S : Src) (l : List Nat) (hS : Sok S) (h : 0 < l.length) (hl : l.length ≤ 1000) : ∃ (x : Nat) (S' : Src), D_u_law_of.run [.src S, .val (.list (l.map eN))] = .ok (.val (eN x), [.src S']) ∧ x ∈ l ∧ Sok S' := by
  obtain ⟨d, S', h1, ⟨x, rfl, hx⟩, h3⟩ := of2 S (l.map eN) (P := fun d => ∃ x : Nat, d = eN x ∧ x ∈ l) hS (by rw [List.length_map]; exact h) (by rw [List.length_map]; omega) (fun d hd => by
    obtain ⟨x, hx, rfl⟩ := List.mem_map.mp hd
    exact ⟨x, rfl, hx⟩)
  exact ⟨x, S', h1, hx, h3⟩
theorem words_ok (S : Src) (hS : Sok S) : ∃ (W : List Str) (S' : Src), D_u_law_words.run [.src S] = .ok (.val (strsE W), [.src S']) ∧ (W = [] ∨ W = (["go"] : List Str) ∨ W = (["go", "stop"] : List Str)) ∧ Sok S' := by
  obtain ⟨d, S', h1, h2, h3⟩ := of2 S [.tuple [], .tuple [], .tuple [.str "go"], .tuple [.str "go", .str "stop"]] (P := fun d => ∃ W : List Str, d = strsE W ∧ (W = [] ∨ W = (["go"] : List Str) ∨ W = (["go", "stop"] : List Str))) hS (by simp) (by simp) (fun d hd => by
    simp only [List.mem_cons, List.not_mem_nil, or_false] at hd
    rcases hd with rfl | rfl | rfl | rfl
    · exact ⟨[], rfl, .inl rfl⟩
    · exact ⟨[], rfl, .inl rfl⟩
    · exact ⟨["go"], rfl, .inr (.inl rfl)⟩
    · exact ⟨["go", "stop"], rfl, .inr (.inr rfl)⟩)
  obtain ⟨W, rfl, hW⟩ := h2
  exact ⟨W, S', by simp only [run_mk, List.map_cons, List.map_nil, List.length_cons, List.length_nil, List.cons_append, List.nil_append, List.replicate_succ, List.replicate_zero, Nat.reduceAdd, Nat.reduceSub, List.getElem?_cons_zero, List.getElem?_cons_succ, List.set_cons_zero, List.set_cons_succ, R.bind_ok, sCons, sNil, sIf, sRet, retL, dropL, sSet, setL, sDrop, sUnp, sPar, lNil, lCons, kF, putL, gN, gT, gAll, kC, kX, kD, kG, kS, scl, k1, k2, L.get, L.take, T.toD, aNil, aCons, kTup, kLst, bVal, bAnd, bOr, bNot, kAnd, kOr, kNot, kIf, boolOf, kCall, cNil, cV, cMv, cPass, lend, back, resL, outs, endOf, srcAt, kSGet, kSLen, kInt, SF.get, SF.put, bl, nm, if_true, if_false, Bool.false_eq_true, Bool.not_true, Bool.not_false, D_u_law_words, szOk0, szOk1, szOk2, szOk4, h1], hW, h3⟩
def kpt (w n : Nat) : List Nat := (List.range n).map fun k => w + k
theorem kpt_len {w n : Nat} : (kpt w n).length = n := by simp [kpt]
theorem kpt_mem {w n x : Nat} : x ∈ kpt w n ↔ w ≤ x ∧ x < w + n := by
  unfold kpt
  rw [List.mem_map]
  constructor
  · rintro ⟨k, hk, rfl⟩
    have := List.mem_range.mp hk
    omega
  · rintro ⟨h1, h2⟩
    exact ⟨x - w, List.mem_range.mpr (by omega), by omega⟩
theorem kpt_nodup {w n : Nat} : (kpt w n).Nodup := by
  unfold kpt
  exact List.Pairwise.map _ (fun a b h e => h (by omega)) List.nodup_range
theorem kpt_intR {w n : Nat} : intR (w : Nat) n = (kpt w n).map eN := by
  unfold kpt intR
  rw [List.map_map]
  rfl
theorem of_012 (S : Src) (hS : Sok S) : ∃ (x : Nat) (S' : Src), D_u_law_of.run [.src S, .val (.list [.int 0, .int 0, .int 1, .int 1, .int 2])] = .ok (.val (eN x), [.src S']) ∧ x ≤ 2 ∧ Sok S' := by
  obtain ⟨x, S', h1, h2, h3⟩ := of_ns S [0, 0, 1, 1, 2] hS (by decide) (by decide)
  refine ⟨x, S', h1, ?_, h3⟩
  simp only [List.mem_cons, List.not_mem_nil, or_false] at h2
  omega
theorem of_0123 (S : Src) (hS : Sok S) : ∃ (x : Nat) (S' : Src), D_u_law_of.run [.src S, .val (.list [.int 0, .int 1, .int 1, .int 2, .int 2, .int 3])] = .ok (.val (eN x), [.src S']) ∧ x ≤ 3 ∧ Sok S' := by
  obtain ⟨x, S', h1, h2, h3⟩ := of_ns S [0, 1, 1, 2, 2, 3] hS (by decide) (by decide)
  refine ⟨x, S', h1, ?_, h3⟩
  simp only [List.mem_cons, List.not_mem_nil, or_false] at h2
  omega
section
variable {W : List Str} {B : List Nat} {S : Src} {most : Int} {i j b : Nat}
/-- so many things -/
def mny (w b j : Nat) : Nat := w + b + if j = w + b then 1 else 0
theorem mny_le {w b j : Nat} : mny w b j ≤ w + b + 1 := by
  unfold mny
  split <;> omega
theorem mny_ge {w b j : Nat} : w + b ≤ mny w b j := by
  unfold mny
  omega
/-- the state, the boxes told -/
def dS (S : Src) (W : List Str) (most : Int) (B : List Nat) (v4 v6 v7 v8 v9 v10 v11 v12 v13 v14 v15 v16 : Option T) : Sl :=
  [some (.src S), some (.val (strsE W)), some (.val (.int most)), some (.val (.tuple (B.map eN))), v4, some (.val (eN W.length)), v6, v7, v8, v9, v10, v11, v12, v13, v14, v15, v16]
/-- what a step keeps to -/
structure StP (W : List Str) (B : List Nat) (b j : Nat) (s : Stp) : Prop where
  an : ∀ x ∈ s.1, x < mny W.length b j
  al : s.1.length ≤ 2
  lt : s.2.1 < B.length
  fn : ∀ x ∈ s.2.2, W.length ≤ x ∧ x < mny W.length b j
  fl : s.2.2.length = B.getD s.2.1 0
  fu : s.2.2.Nodup
variable {v4 v6 v7 v8 v9 v10 v11 v12 v13 v14 v15 v16 : Option T}
theorem p0_ok (hw : W.length ≤ 4) (hb : b ≤ 4) :
    P0 (dS S W most B v4 (some (.val (eN b))) v7 v8 (some (.val (eN j))) v10 v11 v12 v13 v14 v15 v16) = .ok (.nx, dS S W most B v4 (some (.val (eN b))) v7 v8 (some (.val (eN j))) (some (.val (eN (mny W.length b j)))) v11 v12 v13 v14 v15 v16) := by
  have e0 : pAdd (eN W.length) (eN b) = .ok (.d (eN (W.length + b))) := rfl
  have e1 : pEq (eN j) (eN (W.length + b)) = bl (decide (j = W.length + b)) := by rw [pEq_int, cast_eq]
  have e2 : pInt (.bool (decide (j = W.length + b))) = .ok (.d (.int ((if j = W.length + b then 1 else 0 : Nat) : Int))) := by
    by_cases q : j = W.length + b
    · rw [decide_eq_true q, if_pos q]; rfl
    · rw [decide_eq_false q, if_neg q]; rfl
  have e4 : pAdd (eN (W.length + b)) (.int ((if j = W.length + b then 1 else 0 : Nat) : Int)) = .ok (.d (eN (mny W.length b j))) := rfl
  simp only [run_mk, List.map_cons, List.map_nil, List.length_cons, List.length_nil, List.cons_append, List.nil_append, List.replicate_succ, List.replicate_zero, Nat.reduceAdd, Nat.reduceSub, List.getElem?_cons_zero, List.getElem?_cons_succ, List.set_cons_zero, List.set_cons_succ, R.bind_ok, sCons, sNil, sIf, sRet, retL, dropL, sSet, setL, sDrop, sUnp, sPar, lNil, lCons, kF, putL, gN, gT, gAll, kC, kX, kD, kG, kS, scl, k1, k2, L.get, L.take, T.toD, aNil, aCons, kTup, kLst, bVal, bAnd, bOr, bNot, kAnd, kOr, kNot, kIf, boolOf, kCall, cNil, cV, cMv, cPass, lend, back, resL, outs, endOf, srcAt, kSGet, kSLen, kInt, SF.get, SF.put, bl, nm, if_true, if_false, Bool.false_eq_true, Bool.not_true, Bool.not_false, P0, dS, e0, e1, e2, e4]
theorem p1_ok {n : Nat} (hn : W.length ≤ n) (hbl : B.length ≤ 60) :
    P1 (dS S W most B v4 v6 v7 v8 v9 (some (.val (eN n))) v11 v12 v13 v14 none v16) = .ok (.nx, dS S W most B v4 v6 v7 v8 v9 (some (.val (eN n))) (some (.lst (((List.range B.length).filter fun k => decide (B.getD k 0 ≤ n - W.length)).map eN))) v12 v13 v14 none v16) := by
  have sb : pSub (eN n) (eN W.length) = .ok (.d (eN (n - W.length))) := by
    show nm _ = _
    rw [show ((n : Nat) : Int) - ((W.length : Nat) : Int) = ((n - W.length : Nat) : Int) by omega]
    rfl
  have hc := comp_map (g := gN 15) (c := some (bVal (k2 pLe (k2 pIx (kX 3) (kX 15)) (k2 pSub (kX 10) (kX 5))))) (f := kX 15) (own := [15]) (s := dS S W most B v4 v6 v7 v8 v9 (some (.val (eN n))) v11 v12 v13 v14 none v16)
    eN (fun k => dS S W most B v4 v6 v7 v8 v9 (some (.val (eN n))) v11 v12 v13 v14 (some (.val (eN k))) v16) (fun k => decide (B.getD k 0 ≤ n - W.length)) eN rfl (xs := List.range B.length) (fun k hk => by
      have hk := List.mem_range.mp hk
      have xk : pIx (.tuple (B.map eN)) (eN k) = .ok (.d (eN (B.getD k 0))) := nodict_pIxT (by rw [List.getElem?_map, getD_at (d0 := 0) hk]; rfl)
      have dl : pLe (eN (B.getD k 0)) (eN (n - W.length)) = bl (decide (B.getD k 0 ≤ n - W.length)) := by
        show bl (decide _) = _
        by_cases q : B.getD k 0 ≤ n - W.length
        · rw [decide_eq_true q, decide_eq_true (by omega)]
        · rw [decide_eq_false q, decide_eq_false (by omega)]
      exact ⟨rfl, rfl, by simp only [bOf, run_mk, List.map_cons, List.map_nil, List.length_cons, List.length_nil, List.cons_append, List.nil_append, List.replicate_succ, List.replicate_zero, Nat.reduceAdd, Nat.reduceSub, List.getElem?_cons_zero, List.getElem?_cons_succ, List.set_cons_zero, List.set_cons_succ, R.bind_ok, sCons, sNil, sIf, sRet, retL, dropL, sSet, setL, sDrop, sUnp, sPar, lNil, lCons, kF, putL, gN, gT, gAll, kC, kX, kD, kG, kS, scl, k1, k2, L.get, L.take, T.toD, aNil, aCons, kTup, kLst, bVal, bAnd, bOr, bNot, kAnd, kOr, kNot, kIf, boolOf, kCall, cNil, cV, cMv, cPass, lend, back, resL, outs, endOf, srcAt, kSGet, kSLen, kInt, SF.get, SF.put, bl, nm, if_true, if_false, Bool.false_eq_true, Bool.not_true, Bool.not_false, dS, xk, sb, dl], fun _ => by simp only [run_mk, List.map_cons, List.map_nil, List.length_cons, List.length_nil, List.cons_append, List.nil_append, List.replicate_succ, List.replicate_zero, Nat.reduceAdd, Nat.reduceSub, List.getElem?_cons_zero, List.getElem?_cons_succ, List.set_cons_zero, List.set_cons_succ, R.bind_ok, sCons, sNil, sIf, sRet, retL, dropL, sSet, setL, sDrop, sUnp, sPar, lNil, lCons, kF, putL, gN, gT, gAll, kC, kX, kD, kG, kS, scl, k1, k2, L.get, L.take, T.toD, aNil, aCons, kTup, kLst, bVal, bAnd, bOr, bNot, kAnd, kOr, kNot, kIf, boolOf, kCall, cNil, cV, cMv, cPass, lend, back, resL, outs, endOf, srcAt, kSGet, kSLen, kInt, SF.get, SF.put, bl, nm, if_true, if_false, Bool.false_eq_true, Bool.not_true, Bool.not_false, dS]⟩)
  have hfl := List.length_filter_le (fun k => decide (B.getD k 0 ≤ n - W.length)) (List.range B.length)
  rw [List.length_range] at hfl
  have pl : pLen (.tuple (B.map eN)) = .ok (.d (.int (B.length : Nat))) := pLenM
  have it : iRg1 (k1 pLen (kX 3)) (dS S W most B v4 v6 v7 v8 v9 (some (.val (eN n))) v11 v12 v13 v14 none v16) = .ok ((List.range B.length).map eN, dS S W most B v4 v6 v7 v8 v9 (some (.val (eN n))) v11 v12 v13 v14 none v16) := by
    rw [← intR0]
    exact iRg1_it (by simp only [run_mk, List.map_cons, List.map_nil, List.length_cons, List.length_nil, List.cons_append, List.nil_append, List.replicate_succ, List.replicate_zero, Nat.reduceAdd, Nat.reduceSub, List.getElem?_cons_zero, List.getElem?_cons_succ, List.set_cons_zero, List.set_cons_succ, R.bind_ok, sCons, sNil, sIf, sRet, retL, dropL, sSet, setL, sDrop, sUnp, sPar, lNil, lCons, kF, putL, gN, gT, gAll, kC, kX, kD, kG, kS, scl, k1, k2, L.get, L.take, T.toD, aNil, aCons, kTup, kLst, bVal, bAnd, bOr, bNot, kAnd, kOr, kNot, kIf, boolOf, kCall, cNil, cV, cMv, cPass, lend, back, resL, outs, endOf, srcAt, kSGet, kSLen, kInt, SF.get, SF.put, bl, nm, if_true, if_false, Bool.false_eq_true, Bool.not_true, Bool.not_false, dS, pl]) (by omega)
  have kc := kComp_it it hc (szOk_of (by rw [List.length_map]; omega))
  unfold P1 sSet
  rw [kc]
  simp only [run_mk, List.map_cons, List.map_nil, List.length_cons, List.length_nil, List.cons_append, List.nil_append, List.replicate_succ, List.replicate_zero, Nat.reduceAdd, Nat.reduceSub, List.getElem?_cons_zero, List.getElem?_cons_succ, List.set_cons_zero, List.set_cons_succ, R.bind_ok, sCons, sNil, sIf, sRet, retL, dropL, sSet, setL, sDrop, sUnp, sPar, lNil, lCons, kF, putL, gN, gT, gAll, kC, kX, kD, kG, kS, scl, k1, k2, L.get, L.take, T.toD, aNil, aCons, kTup, kLst, bVal, bAnd, bOr, bNot, kAnd, kOr, kNot, kIf, boolOf, kCall, cNil, cV, cMv, cPass, lend, back, resL, outs, endOf, srcAt, kSGet, kSLen, kInt, SF.get, SF.put, bl, nm, if_true, if_false, Bool.false_eq_true, Bool.not_true, Bool.not_false, dS]
theorem p2_ok {n : Nat} (hS : Sok S) (hb0 : B.getD 0 0 = 0) (hbl : 1 ≤ B.length) (hb60 : B.length ≤ 60) :
    (P2 (dS S W most B v4 v6 v7 v8 v9 v10 (some (.lst (((List.range B.length).filter fun k => decide (B.getD k 0 ≤ n)).map eN))) v12 v13 v14 v15 v16)).W fun r => r.1 = .nx ∧ ∃ (l : Nat) (S' : Src) (u11 : Option T),
      r.2 = dS S' W most B v4 v6 v7 v8 v9 v10 u11 (some (.val (eN l))) v13 v14 v15 v16 ∧ l < B.length ∧ B.getD l 0 ≤ n ∧ Sok S' := by
  have hfl := List.length_filter_le (fun k => decide (B.getD k 0 ≤ n)) (List.range B.length)
  rw [List.length_range] at hfl
  obtain ⟨l, S', h1, h2, h3⟩ := of_ns S ((List.range B.length).filter fun k => decide (B.getD k 0 ≤ n)) hS (by
    refine List.length_pos_of_mem (a := 0) (List.mem_filter.mpr ⟨List.mem_range.mpr hbl, decide_eq_true ?_⟩)
    rw [hb0]; omega) (by omega)
  obtain ⟨h4, h5⟩ := List.mem_filter.mp h2
  have h4 := List.mem_range.mp h4
  have h5 := of_decide_eq_true h5
  refine R.W_of (a := (.nx, dS S' W most B v4 v6 v7 v8 v9 v10 (some (.val (.list (((List.range B.length).filter fun k => decide (B.getD k 0 ≤ n)).map eN)))) (some (.val (eN l))) v13 v14 v15 v16)) ?_ ⟨rfl, l, S', _, rfl, h4, h5, h3⟩
  simp only [run_mk, List.map_cons, List.map_nil, List.length_cons, List.length_nil, List.cons_append, List.nil_append, List.replicate_succ, List.replicate_zero, Nat.reduceAdd, Nat.reduceSub, List.getElem?_cons_zero, List.getElem?_cons_succ, List.set_cons_zero, List.set_cons_succ, R.bind_ok, sCons, sNil, sIf, sRet, retL, dropL, sSet, setL, sDrop, sUnp, sPar, lNil, lCons, kF, putL, gN, gT, gAll, kC, kX, kD, kG, kS, scl, k1, k2, L.get, L.take, T.toD, aNil, aCons, kTup, kLst, bVal, bAnd, bOr, bNot, kAnd, kOr, kNot, kIf, boolOf, kCall, cNil, cV, cMv, cPass, lend, back, resL, outs, endOf, srcAt, kSGet, kSLen, kInt, SF.get, SF.put, bl, nm, if_true, if_false, Bool.false_eq_true, Bool.not_true, Bool.not_false, P2, dS, h1]
theorem p3_ok {n l : Nat} (hn : W.length ≤ n) (hn2 : n ≤ 20) (hl : l < B.length) (hS : Sok S) :
    (P3 (dS S W most B v4 v6 v7 v8 v9 (some (.val (eN n))) v11 (some (.val (eN l))) v13 v14 v15 v16)).W fun r => r.1 = .nx ∧ ∃ (K' : List Nat) (S' : Src),
      r.2 = dS S' W most B v4 v6 v7 v8 v9 (some (.val (eN n))) v11 (some (.val (eN l))) (some (.lst ((K'.take (B.getD l 0)).map eN))) v14 v15 v16 ∧ K'.Perm (kpt W.length (n - W.length)) ∧ Sok S' := by
  obtain ⟨K', S', h1, h2, h3⟩ := lmixed_ok (f := eN) (l := kpt W.length (n - W.length)) (by rw [kpt_len]; omega) S hS
  have xk : pIx (.tuple (B.map eN)) (eN l) = .ok (.d (eN (B.getD l 0))) := nodict_pIxT (by rw [List.getElem?_map, getD_at (d0 := 0) hl]; rfl)
  have e3 : (-16000000 ≤ ((W.length : Nat) : Int) ∧ ((W.length : Nat) : Int) ≤ 16000000) ∧ (-16000000 ≤ ((n : Nat) : Int) ∧ ((n : Nat) : Int) ≤ 16000000) := ⟨⟨by omega, by omega⟩, by omega, by omega⟩
  have e4 : (((n : Nat) : Int) - ((W.length : Nat) : Int)).toNat = n - W.length := by omega
  have e5 : szOk ((kpt W.length (n - W.length)).map eN).length = true := szOk_of (by rw [List.length_map, kpt_len]; omega)
  have sl : pSl none (some ((B.getD l 0 : Nat) : Int)) (.list (K'.map eN)) = .ok (.t (.lst ((K'.take (B.getD l 0)).map eN))) := by
    unfold pSl
    simp only [cut_to, List.map_take]
  refine R.W_of (a := (.nx, dS S' W most B v4 v6 v7 v8 v9 (some (.val (eN n))) v11 (some (.val (eN l))) (some (.lst ((K'.take (B.getD l 0)).map eN))) v14 v15 v16)) ?_ ⟨rfl, K', S', rfl, h2, h3⟩
  simp only [run_mk, List.map_cons, List.map_nil, List.length_cons, List.length_nil, List.cons_append, List.nil_append, List.replicate_succ, List.replicate_zero, Nat.reduceAdd, Nat.reduceSub, List.getElem?_cons_zero, List.getElem?_cons_succ, List.set_cons_zero, List.set_cons_succ, R.bind_ok, sCons, sNil, sIf, sRet, retL, dropL, sSet, setL, sDrop, sUnp, sPar, lNil, lCons, kF, putL, gN, gT, gAll, kC, kX, kD, kG, kS, scl, k1, k2, L.get, L.take, T.toD, aNil, aCons, kTup, kLst, bVal, bAnd, bOr, bNot, kAnd, kOr, kNot, kIf, boolOf, kCall, cNil, cV, cMv, cPass, lend, back, resL, outs, endOf, srcAt, kSGet, kSLen, kInt, SF.get, SF.put, bl, nm, if_true, if_false, Bool.false_eq_true, Bool.not_true, Bool.not_false, P3, dS, kLR, iRg2, e3, and_self, e4, kpt_intR, e5, h1, kSl, partOf, xk, sl]
theorem p4_main {n : Nat} (hn2 : n ≤ 20) : ∀ (c : Nat) (S1 : Src), c ≤ 2 → (c = 0 ∨ 0 < n) → Sok S1 → (compD (gN 16) none (kCall (D_u_law_pick).run (cMv 0 (cV (kX 10) cNil))) [16] (intR 0 c) (dS S1 W most B v4 v6 v7 v8 v9 (some (.val (eN n))) v11 v12 v13 v14 v15 none)).W fun r =>
      ∃ (a : List Nat) (S' : Src), r.1 = a.map eN ∧ r.2 = dS S' W most B v4 v6 v7 v8 v9 (some (.val (eN n))) v11 v12 v13 v14 v15 none ∧ a.length = c ∧ (∀ x ∈ a, x < n) ∧ Sok S' := fun c S1 hc h0 hS1 => by
    have := comp_inv0 (g := gN 16) (f := kCall (D_u_law_pick).run (cMv 0 (cV (kX 10) cNil))) (own := [16]) (ds := intR 0 c) (s := dS S1 W most B v4 v6 v7 v8 v9 (some (.val (eN n))) v11 v12 v13 v14 v15 none)
      (fun i acc s => ∃ (a : List Nat) (S' : Src), acc = a.map eN ∧ s = dS S' W most B v4 v6 v7 v8 v9 (some (.val (eN n))) v11 v12 v13 v14 v15 none ∧ a.length = i ∧ (∀ x ∈ a, x < n) ∧ Sok S')
      ⟨[], S1, rfl, rfl, rfl, (fun _ q => (nomatch q)), hS1⟩ (fun i x acc s hx ⟨a, S2, a1, a2, a3, a4, a6⟩ => by
        have hi := (intR_in hx).1
        obtain ⟨y, S3, h1, h2, h3⟩ := pick S2 n a6 (by omega) (by omega)
        subst a1 a2
        simp only [run_mk, List.map_cons, List.map_nil, List.length_cons, List.length_nil, List.cons_append, List.nil_append, List.replicate_succ, List.replicate_zero, Nat.reduceAdd, Nat.reduceSub, List.getElem?_cons_zero, List.getElem?_cons_succ, List.set_cons_zero, List.set_cons_succ, R.bind_ok, sCons, sNil, sIf, sRet, retL, dropL, sSet, setL, sDrop, sUnp, sPar, lNil, lCons, kF, putL, gN, gT, gAll, kC, kX, kD, kG, kS, scl, k1, k2, L.get, L.take, T.toD, aNil, aCons, kTup, kLst, bVal, bAnd, bOr, bNot, kAnd, kOr, kNot, kIf, boolOf, kCall, cNil, cV, cMv, cPass, lend, back, resL, outs, endOf, srcAt, kSGet, kSLen, kInt, SF.get, SF.put, bl, nm, if_true, if_false, Bool.false_eq_true, Bool.not_true, Bool.not_false, dS, wipeD, h1, R.W_ok]
        exact ⟨a ++ [y], S3, by rw [List.map_append]; rfl, rfl, by rw [List.length_append, List.length_singleton, a3], fun z hz => by
            rcases List.mem_append.mp hz with q | q
            · exact a4 z q
            · rw [List.mem_singleton.mp q]; exact h2, h3⟩)
    rw [intR_len] at this
    exact this
theorem p4_ok {n : Nat} (hn2 : n ≤ 20) (hS : Sok S) :
    (P4 (dS S W most B v4 v6 v7 v8 v9 (some (.val (eN n))) v11 v12 v13 v14 v15 none)).W fun r => r.1 = .nx ∧ ∃ (a : List Nat) (S' : Src), r.2 = dS S' W most B v4 v6 v7 v8 v9 (some (.val (eN n))) v11 v12 v13 (some (.lst (a.map eN))) v15 none ∧ a.length ≤ 2 ∧ (∀ x ∈ a, x < n) ∧ Sok S' := by
  by_cases q : 0 < n
  · have e0 : pGt (eN n) (.int 0) = bl true := by rw [pGt_int, decide_eq_true (by omega)]
    obtain ⟨c, S1, h1, h2, h3⟩ := of_012 S hS
    obtain ⟨⟨acc, s2⟩, e1, a, S', e2, e3, e4, e5, e6⟩ := R.W_get (p4_main (W := W) (B := B) (most := most) (v4 := v4) (v6 := v6) (v7 := v7) (v8 := v8) (v9 := v9) (v11 := v11) (v12 := v12) (v13 := v13) (v14 := v14) (v15 := v15) hn2 c S1 h2 (.inr q) h3)
    simp only at e2 e3
    subst e2 e3
    have z : szOk (a.map eN).length = true := szOk_of (by rw [List.length_map]; omega)
    have it : iRg1 (kIf (bVal (k2 pGt (kX 10) (kC (.int 0)))) (kCall (D_u_law_of).run (cMv 0 (cV (kLst (aCons (kC (.int 0)) (aCons (kC (.int 0)) (aCons (kC (.int 1)) (aCons (kC (.int 1)) (aCons (kC (.int 2)) aNil)))))) cNil))) (kC (.int 0))) (dS S W most B v4 v6 v7 v8 v9 (some (.val (eN n))) v11 v12 v13 v14 v15 none) = .ok (intR 0 c, dS S1 W most B v4 v6 v7 v8 v9 (some (.val (eN n))) v11 v12 v13 v14 v15 none) :=
      iRg1_it (by simp only [run_mk, List.map_cons, List.map_nil, List.length_cons, List.length_nil, List.cons_append, List.nil_append, List.replicate_succ, List.replicate_zero, Nat.reduceAdd, Nat.reduceSub, List.getElem?_cons_zero, List.getElem?_cons_succ, List.set_cons_zero, List.set_cons_succ, R.bind_ok, sCons, sNil, sIf, sRet, retL, dropL, sSet, setL, sDrop, sUnp, sPar, lNil, lCons, kF, putL, gN, gT, gAll, kC, kX, kD, kG, kS, scl, k1, k2, L.get, L.take, T.toD, aNil, aCons, kTup, kLst, bVal, bAnd, bOr, bNot, kAnd, kOr, kNot, kIf, boolOf, kCall, cNil, cV, cMv, cPass, lend, back, resL, outs, endOf, srcAt, kSGet, kSLen, kInt, SF.get, SF.put, bl, nm, if_true, if_false, Bool.false_eq_true, Bool.not_true, Bool.not_false, dS, e0, szOk5, h1]) (by omega)
    have kc := kComp_it it e1 z
    refine R.W_of (a := (.nx, dS S' W most B v4 v6 v7 v8 v9 (some (.val (eN n))) v11 v12 v13 (some (.lst (a.map eN))) v15 none)) ?_ ⟨rfl, a, S', rfl, by omega, e5, e6⟩
    unfold P4 sSet
    rw [kc]
    simp only [run_mk, List.map_cons, List.map_nil, List.length_cons, List.length_nil, List.cons_append, List.nil_append, List.replicate_succ, List.replicate_zero, Nat.reduceAdd, Nat.reduceSub, List.getElem?_cons_zero, List.getElem?_cons_succ, List.set_cons_zero, List.set_cons_succ, R.bind_ok, sCons, sNil, sIf, sRet, retL, dropL, sSet, setL, sDrop, sUnp, sPar, lNil, lCons, kF, putL, gN, gT, gAll, kC, kX, kD, kG, kS, scl, k1, k2, L.get, L.take, T.toD, aNil, aCons, kTup, kLst, bVal, bAnd, bOr, bNot, kAnd, kOr, kNot, kIf, boolOf, kCall, cNil, cV, cMv, cPass, lend, back, resL, outs, endOf, srcAt, kSGet, kSLen, kInt, SF.get, SF.put, bl, nm, if_true, if_false, Bool.false_eq_true, Bool.not_true, Bool.not_false, dS]
  · have e0 : pGt (eN n) (.int 0) = bl false := by rw [pGt_int, decide_eq_false (by omega)]
    obtain ⟨⟨acc, s2⟩, e1, a, S', e2, e3, e4, e5, e6⟩ := R.W_get (p4_main (W := W) (B := B) (most := most) (v4 := v4) (v6 := v6) (v7 := v7) (v8 := v8) (v9 := v9) (v11 := v11) (v12 := v12) (v13 := v13) (v14 := v14) (v15 := v15) hn2 0 S (by omega) (.inl rfl) hS)
    simp only at e2 e3
    subst e2 e3
    have z : szOk (a.map eN).length = true := szOk_of (by rw [List.length_map]; omega)
    have it : iRg1 (kIf (bVal (k2 pGt (kX 10) (kC (.int 0)))) (kCall (D_u_law_of).run (cMv 0 (cV (kLst (aCons (kC (.int 0)) (aCons (kC (.int 0)) (aCons (kC (.int 1)) (aCons (kC (.int 1)) (aCons (kC (.int 2)) aNil)))))) cNil))) (kC (.int 0))) (dS S W most B v4 v6 v7 v8 v9 (some (.val (eN n))) v11 v12 v13 v14 v15 none) = .ok (intR 0 0, dS S W most B v4 v6 v7 v8 v9 (some (.val (eN n))) v11 v12 v13 v14 v15 none) :=
      iRg1_it (m := 0) (by simp only [run_mk, List.map_cons, List.map_nil, List.length_cons, List.length_nil, List.cons_append, List.nil_append, List.replicate_succ, List.replicate_zero, Nat.reduceAdd, Nat.reduceSub, List.getElem?_cons_zero, List.getElem?_cons_succ, List.set_cons_zero, List.set_cons_succ, R.bind_ok, sCons, sNil, sIf, sRet, retL, dropL, sSet, setL, sDrop, sUnp, sPar, lNil, lCons, kF, putL, gN, gT, gAll, kC, kX, kD, kG, kS, scl, k1, k2, L.get, L.take, T.toD, aNil, aCons, kTup, kLst, bVal, bAnd, bOr, bNot, kAnd, kOr, kNot, kIf, boolOf, kCall, cNil, cV, cMv, cPass, lend, back, resL, outs, endOf, srcAt, kSGet, kSLen, kInt, SF.get, SF.put, bl, nm, if_true, if_false, Bool.false_eq_true, Bool.not_true, Bool.not_false, dS, e0]; rfl) (by omega)
    have kc := kComp_it it e1 z
    refine R.W_of (a := (.nx, dS S' W most B v4 v6 v7 v8 v9 (some (.val (eN n))) v11 v12 v13 (some (.lst (a.map eN))) v15 none)) ?_ ⟨rfl, a, S', rfl, by omega, e5, e6⟩
    unfold P4 sSet
    rw [kc]
    simp only [run_mk, List.map_cons, List.map_nil, List.length_cons, List.length_nil, List.cons_append, List.nil_append, List.replicate_succ, List.replicate_zero, Nat.reduceAdd, Nat.reduceSub, List.getElem?_cons_zero, List.getElem?_cons_succ, List.set_cons_zero, List.set_cons_succ, R.bind_ok, sCons, sNil, sIf, sRet, retL, dropL, sSet, setL, sDrop, sUnp, sPar, lNil, lCons, kF, putL, gN, gT, gAll, kC, kX, kD, kG, kS, scl, k1, k2, L.get, L.take, T.toD, aNil, aCons, kTup, kLst, bVal, bAnd, bOr, bNot, kAnd, kOr, kNot, kIf, boolOf, kCall, cNil, cV, cMv, cPass, lend, back, resL, outs, endOf, srcAt, kSGet, kSLen, kInt, SF.get, SF.put, bl, nm, if_true, if_false, Bool.false_eq_true, Bool.not_true, Bool.not_false, dS]
theorem p5_ok {a f : List Nat} {l : Nat} {acc : List Stp} (hacc : acc.length ≤ 100) :
    P5 (dS S W most B v4 v6 v7 (some (.lst (acc.map stpE))) v9 v10 v11 (some (.val (eN l))) (some (.lst (f.map eN))) (some (.lst (a.map eN))) v15 v16) = .ok (.nx, dS S W most B v4 v6 v7 (some (.lst ((acc ++ [(a, l, f)]).map stpE))) v9 v10 v11 (some (.val (eN l))) (some (.lst (f.map eN))) (some (.lst (a.map eN))) v15 v16) := by
  have p1 : ∀ l : List Nat, pTuple (.list (l.map eN)) = .ok (.d (.tuple (l.map eN))) := fun l => rfl
  have z2 : szOk ((acc.map stpE).length + 1) = true := szOk_of (by rw [List.length_map]; omega)
  have ap : acc.map stpE ++ [.tuple [.tuple (a.map eN), eN l, .tuple (f.map eN)]] = (acc ++ [(a, l, f)]).map stpE := by rw [List.map_append]; rfl
  simp only [run_mk, List.map_cons, List.map_nil, List.length_cons, List.length_nil, List.cons_append, List.nil_append, List.replicate_succ, List.replicate_zero, Nat.reduceAdd, Nat.reduceSub, List.getElem?_cons_zero, List.getElem?_cons_succ, List.set_cons_zero, List.set_cons_succ, R.bind_ok, sCons, sNil, sIf, sRet, retL, dropL, sSet, setL, sDrop, sUnp, sPar, lNil, lCons, kF, putL, gN, gT, gAll, kC, kX, kD, kG, kS, scl, k1, k2, L.get, L.take, T.toD, aNil, aCons, kTup, kLst, bVal, bAnd, bOr, bNot, kAnd, kOr, kNot, kIf, boolOf, kCall, cNil, cV, cMv, cPass, lend, back, resL, outs, endOf, srcAt, kSGet, kSLen, kInt, SF.get, SF.put, bl, nm, if_true, if_false, Bool.false_eq_true, Bool.not_true, Bool.not_false, P5, dS, kApp, p1, z2, ap, szOk3]
theorem stp_of {a K' : List Nat} {l : Nat} (a2 : a.length ≤ 2) (a3 : ∀ x ∈ a, x < mny W.length b j)
    (hl : l < B.length) (h4 : B.getD l 0 ≤ mny W.length b j - W.length) (hp : K'.Perm (kpt W.length (mny W.length b j - W.length))) : StP W B b j (a, l, K'.take (B.getD l 0)) := by
  have hg := mny_ge (w := W.length) (b := b) (j := j)
  refine ⟨a3, a2, hl, fun x hx => ?_, ?_, ?_⟩
  · have := kpt_mem.mp (hp.mem_iff.mp (List.mem_of_mem_take hx))
    omega
  · show (K'.take (B.getD l 0)).length = B.getD l 0
    rw [List.length_take, hp.length_eq, kpt_len]
    omega
  · exact (hp.nodup_iff.mpr kpt_nodup).sublist (List.take_sublist _ _)
theorem inner_turn {lz : List Stp} (hw : W.length ≤ 2) (hb : b ≤ 3) (hb0 : B.getD 0 0 = 0) (hbl : 1 ≤ B.length) (hb60 : B.length ≤ 60) (hlz : lz.length ≤ 100) (hS : Sok S) :
    (lnB (dS S W most B v4 (some (.val (eN b))) v7 (some (.lst (lz.map stpE))) (some (.val (eN j))) v10 v11 v12 v13 v14 none none)).W fun r => (r.1 = .nx ∨ r.1 = .ct) ∧
      ∃ (s : Stp) (S' : Src) (u10 u11 u12 u13 u14 : Option T), r.2 = dS S' W most B v4 (some (.val (eN b))) v7 (some (.lst ((lz ++ [s]).map stpE))) (some (.val (eN j))) u10 u11 u12 u13 u14 none none ∧ StP W B b j s ∧ Sok S' := by
  have hg := mny_ge (w := W.length) (b := b) (j := j)
  have hg2 := mny_le (w := W.length) (b := b) (j := j)
  unfold lnB
  rw [sCons_nx (p0_ok (by omega) (by omega)), sCons_nx (p1_ok (by omega) hb60)]
  obtain ⟨⟨f1, s1⟩, e1, q1, l, S1, u11, q2, q3, q4, q5⟩ := R.W_get (p2_ok (W := W) (most := most) (v4 := v4) (v6 := some (.val (eN b))) (v7 := v7) (v8 := some (.lst (lz.map stpE))) (v9 := some (.val (eN j))) (v10 := some (.val (eN (mny W.length b j)))) (v12 := v12) (v13 := v13) (v14 := v14) (v15 := none) (v16 := none) (n := mny W.length b j - W.length) hS hb0 hbl hb60)
  simp only at q1 q2
  subst q1 q2
  rw [sCons_nx e1]
  obtain ⟨⟨f3, s3⟩, e3, r1, K', S3, r2, r3, r4⟩ := R.W_get (p3_ok (W := W) (B := B) (most := most) (v4 := v4) (v6 := some (.val (eN b))) (v7 := v7) (v8 := some (.lst (lz.map stpE))) (v9 := some (.val (eN j))) (v11 := u11) (v13 := v13) (v14 := v14) (v15 := none) (v16 := none) (n := mny W.length b j) (by omega) (by omega) q3 q5)
  simp only at r1 r2
  subst r1 r2
  rw [sCons_nx e3]
  obtain ⟨⟨f4, s4⟩, e4, t1, a, S4, t2, t3, t4, t5⟩ := R.W_get (p4_ok (W := W) (B := B) (most := most) (v4 := v4) (v6 := some (.val (eN b))) (v7 := v7) (v8 := some (.lst (lz.map stpE))) (v9 := some (.val (eN j))) (v11 := u11) (v12 := some (.val (eN l))) (v13 := some (.lst ((K'.take (B.getD l 0)).map eN))) (v14 := v14) (v15 := none) (n := mny W.length b j) (by omega) r4)
  simp only at t1 t2
  subst t1 t2
  rw [sCons_nx e4, sCons_nx (p5_ok hlz)]
  exact ⟨.inl rfl, (a, l, K'.take (B.getD l 0)), S4, _, _, _, _, _, rfl, stp_of t3 t4 q3 q4 r3, t5⟩
abbrev st00 : Stp := ([], 0, [])
/-- a line that is told -/
def LnP (W : List Str) (B : List Nat) (b : Nat) (lz : List Stp) : Prop := lz.length = W.length + b + 1 ∧ ∀ j, j < lz.length → StP W B b j (lz.getD j st00)
theorem line_ok (hw : W.length ≤ 2) (hb : b ≤ 3) (hb0 : B.getD 0 0 = 0) (hbl : 1 ≤ B.length) (hb60 : B.length ≤ 60) (hS : Sok S) :
    ∃ (lz : List Stp) (S' : Src) (u9 u10 u11 u12 u13 u14 : Option T), O1 (dS S W most B v4 (some (.val (eN b))) v7 (some (.lst [])) v9 v10 v11 v12 v13 v14 none none) =
      .ok (.nx, dS S' W most B v4 (some (.val (eN b))) v7 (some (.lst (lz.map stpE))) u9 u10 u11 u12 u13 u14 none none) ∧ LnP W B b lz ∧ Sok S' := by
  have e0 : pAdd (eN W.length) (eN b) = .ok (.d (eN (W.length + b))) := rfl
  have e7 : pAdd (eN (W.length + b)) (.int 1) = .ok (.d (eN (W.length + b + 1))) := rfl
  have it : iRg1 (k2 pAdd (k2 pAdd (kX 5) (kX 6)) (kC (.int 1))) (dS S W most B v4 (some (.val (eN b))) v7 (some (.lst [])) v9 v10 v11 v12 v13 v14 none none) = .ok (intR 0 (W.length + b + 1), dS S W most B v4 (some (.val (eN b))) v7 (some (.lst [])) v9 v10 v11 v12 v13 v14 none none) :=
    iRg1_it (by simp only [run_mk, List.map_cons, List.map_nil, List.length_cons, List.length_nil, List.cons_append, List.nil_append, List.replicate_succ, List.replicate_zero, Nat.reduceAdd, Nat.reduceSub, List.getElem?_cons_zero, List.getElem?_cons_succ, List.set_cons_zero, List.set_cons_succ, R.bind_ok, sCons, sNil, sIf, sRet, retL, dropL, sSet, setL, sDrop, sUnp, sPar, lNil, lCons, kF, putL, gN, gT, gAll, kC, kX, kD, kG, kS, scl, k1, k2, L.get, L.take, T.toD, aNil, aCons, kTup, kLst, bVal, bAnd, bOr, bNot, kAnd, kOr, kNot, kIf, boolOf, kCall, cNil, cV, cMv, cPass, lend, back, resL, outs, endOf, srcAt, kSGet, kSLen, kInt, SF.get, SF.put, bl, nm, if_true, if_false, Bool.false_eq_true, Bool.not_true, Bool.not_false, dS, e0, e7]) (by omega)
  unfold O1
  rw [sFor_it it]
  have := for_inv (g := gN 9) (b := lnB) (ds := intR 0 (W.length + b + 1)) (s := dS S W most B v4 (some (.val (eN b))) v7 (some (.lst [])) v9 v10 v11 v12 v13 v14 none none)
    (fun k s => ∃ (lz : List Stp) (S' : Src) (u9 u10 u11 u12 u13 u14 : Option T), s = dS S' W most B v4 (some (.val (eN b))) v7 (some (.lst (lz.map stpE))) u9 u10 u11 u12 u13 u14 none none ∧
        lz.length = k ∧ (∀ j, j < lz.length → StP W B b j (lz.getD j st00)) ∧ Sok S')
    ⟨[], S, v9, v10, v11, v12, v13, v14, rfl, rfl, fun j hj => absurd hj (Nat.not_lt_zero j), hS⟩ (fun k x s hx ⟨lz, S1, u9, u10, u11, u12, u13, u14, h1, h2, h3, h4⟩ => by
      obtain ⟨hk, rfl⟩ := intR_in hx
      subst h1
      refine R.W_of (a := dS S1 W most B v4 (some (.val (eN b))) v7 (some (.lst (lz.map stpE))) (some (.val (eN k))) u10 u11 u12 u13 u14 none none) rfl ?_
      refine R.W_mono (inner_turn hw hb hb0 hbl hb60 (by omega) h4) fun r ⟨q1, s, S', u10, u11, u12, u13, u14, q2, q3, q4⟩ => ⟨q1, lz ++ [s], S', _, u10, u11, u12, u13, u14, q2, by rw [List.length_append, List.length_singleton, h2], fun j hj => ?_, q4⟩
      rw [List.length_append, List.length_singleton] at hj
      rw [List.getD_eq_getElem?_getD]
      by_cases q : j < lz.length
      · rw [List.getElem?_append_left q, ← List.getD_eq_getElem?_getD]
        exact h3 j q
      · have : j = lz.length := by omega
        subst this
        rw [List.getElem?_append_right (Nat.le_refl _), Nat.sub_self, h2]
        exact q3)
  rw [intR_len] at this
  obtain ⟨⟨f1, s1⟩, q0, q1, lz, S', u9, u10, u11, u12, u13, u14, q2, q3, q4, q5⟩ := R.W_get this
  simp only at q1 q2
  subst q1 q2
  exact ⟨lz, S', u9, u10, u11, u12, u13, u14, q0, ⟨q3, q4⟩, q5⟩
end
end K11

set_option Elab.async false
set_option linter.all false
set_option maxRecDepth 100000
set_option maxHeartbeats 4000000
set_option pp.maxSteps 600
namespace K11
open PySem KV
/-! ### drawn machines -/
def used (x : Str) : Prop := x ∈ (["a", "b", "c", "go", "stop"] : List Str)
theorem sk_used {x : Str} (h : used x) : Sk x := by
  unfold used at h
  simp only [List.mem_cons, List.not_mem_nil, or_false] at h
  rcases h with rfl | rfl | rfl | rfl | rfl <;> exact ⟨by kernel_rfl, Nat.le_of_ble_eq_true (by kernel_rfl)⟩
section
variable {W : List Str} {B : List Nat} {S : Src} {most : Int} {i j b : Nat} {v4 v6 v7 v8 v9 v10 v11 v12 v13 v14 v15 v16 : Option T}
theorem o2_ok {sz : List (List Stp)} {lz : List Stp} (hsz : sz.length ≤ 100) :
    O2 (dS S W most B (some (.lst (sz.map lineE))) v6 v7 (some (.lst (lz.map stpE))) v9 v10 v11 v12 v13 v14 v15 v16) = .ok (.nx, dS S W most B (some (.lst ((sz ++ [lz]).map lineE))) v6 v7 (some (.lst (lz.map stpE))) v9 v10 v11 v12 v13 v14 v15 v16) := by
  have z : szOk ((sz.map lineE).length + 1) = true := szOk_of (by rw [List.length_map]; omega)
  have p1 : pTuple (.list (lz.map stpE)) = .ok (.d (lineE lz)) := rfl
  have ap : sz.map lineE ++ [lineE lz] = (sz ++ [lz]).map lineE := by rw [List.map_append]; rfl
  simp only [run_mk, List.map_cons, List.map_nil, List.length_cons, List.length_nil, List.cons_append, List.nil_append, List.replicate_succ, List.replicate_zero, Nat.reduceAdd, Nat.reduceSub, List.getElem?_cons_zero, List.getElem?_cons_succ, List.set_cons_zero, List.set_cons_succ, R.bind_ok, sCons, sNil, sIf, sRet, retL, dropL, sSet, setL, sDrop, sUnp, sPar, lNil, lCons, kF, putL, gN, gT, gAll, kC, kX, kD, kG, kS, scl, k1, k2, L.get, L.take, T.toD, aNil, aCons, kTup, kLst, bVal, bAnd, bOr, bNot, kAnd, kOr, kNot, kIf, boolOf, kCall, cNil, cV, cMv, cPass, lend, back, resL, outs, endOf, srcAt, kSGet, kSLen, kInt, SF.get, SF.put, bl, nm, if_true, if_false, Bool.false_eq_true, Bool.not_true, Bool.not_false, O2, dS, kApp, p1, z, ap]
theorem out_turn {sz : List (List Stp)} (hw : W.length ≤ 2) (hb : b ≤ 3) (hb0 : B.getD 0 0 = 0) (hbl : 1 ≤ B.length) (hb60 : B.length ≤ 60) (hS : Sok S) (hsz : sz.length ≤ 100) :
    ∃ (lz : List Stp) (S' : Src) (u8 u9 u10 u11 u12 u13 u14 : Option T), outB (dS S W most B (some (.lst (sz.map lineE))) (some (.val (eN b))) v7 v8 v9 v10 v11 v12 v13 v14 none none) =
      .ok (.nx, dS S' W most B (some (.lst ((sz ++ [lz]).map lineE))) (some (.val (eN b))) v7 u8 u9 u10 u11 u12 u13 u14 none none) ∧ LnP W B b lz ∧ Sok S' := by
  obtain ⟨lz, S', u9, u10, u11, u12, u13, u14, g1, g4, g6⟩ := line_ok (b := b) (W := W) (B := B) (S := S) (most := most) (v4 := some (.lst (sz.map lineE))) (v7 := v7) (v9 := v9) (v10 := v10) (v11 := v11) (v12 := v12) (v13 := v13) (v14 := v14) hw hb hb0 hbl hb60 hS
  refine ⟨lz, S', some (.lst (lz.map stpE)), u9, u10, u11, u12, u13, u14, ?_, g4, g6⟩
  have o0 : O0 (dS S W most B (some (.lst (sz.map lineE))) (some (.val (eN b))) v7 v8 v9 v10 v11 v12 v13 v14 none none) = .ok (.nx, dS S W most B (some (.lst (sz.map lineE))) (some (.val (eN b))) v7 (some (.lst [])) v9 v10 v11 v12 v13 v14 none none) := by
    simp only [run_mk, List.map_cons, List.map_nil, List.length_cons, List.length_nil, List.cons_append, List.nil_append, List.replicate_succ, List.replicate_zero, Nat.reduceAdd, Nat.reduceSub, List.getElem?_cons_zero, List.getElem?_cons_succ, List.set_cons_zero, List.set_cons_succ, R.bind_ok, sCons, sNil, sIf, sRet, retL, dropL, sSet, setL, sDrop, sUnp, sPar, lNil, lCons, kF, putL, gN, gT, gAll, kC, kX, kD, kG, kS, scl, k1, k2, L.get, L.take, T.toD, aNil, aCons, kTup, kLst, bVal, bAnd, bOr, bNot, kAnd, kOr, kNot, kIf, boolOf, kCall, cNil, cV, cMv, cPass, lend, back, resL, outs, endOf, srcAt, kSGet, kSLen, kInt, SF.get, SF.put, bl, nm, if_true, if_false, Bool.false_eq_true, Bool.not_true, Bool.not_false, O0, dS, szOk0]
  unfold outB
  rw [sCons_nx o0, sCons_nx g1, sCons_nx (o2_ok hsz)]
  rfl
theorem lines_loop (hw : W.length ≤ 2) (hb0 : B.getD 0 0 = 0) (hbl : 1 ≤ B.length) (hb60 : B.length ≤ 60) : ∀ {r : List Nat} {sz : List (List Stp)} {S : Src} {v6 v8 v9 v10 v11 v12 v13 v14 : Option T}, (∀ x ∈ r, x ≤ 3) → sz.length + r.length ≤ 100 → Sok S →
    ∃ (tz : List (List Stp)) (S' : Src) (u6 u8 u9 u10 u11 u12 u13 u14 : Option T), forD (gN 6) outB (r.map eN) (dS S W most B (some (.lst (sz.map lineE))) v6 v7 v8 v9 v10 v11 v12 v13 v14 none none) =
      .ok (.nx, dS S' W most B (some (.lst ((sz ++ tz).map lineE))) u6 v7 u8 u9 u10 u11 u12 u13 u14 none none) ∧ tz.length = r.length ∧ (∀ i, i < r.length → LnP W B (r.getD i 0) (tz.getD i [])) ∧ Sok S'
  | [], sz, S, v6, v8, v9, v10, v11, v12, v13, v14, _, _, hS => ⟨[], S, v6, v8, v9, v10, v11, v12, v13, v14, by rw [List.append_nil]; rfl, rfl, fun i hi => absurd hi (Nat.not_lt_zero i), hS⟩
  | x :: r, sz, S, v6, v8, v9, v10, v11, v12, v13, v14, h3, hl, hS => by
    rw [List.length_cons] at hl
    obtain ⟨lz, S1, w8, w9, w10, w11, w12, w13, w14, q2, q3, q4⟩ := out_turn (most := most) (v7 := v7) (v8 := v8) (v9 := v9) (v10 := v10) (v11 := v11) (v12 := v12) (v13 := v13) (v14 := v14) (S := S) hw (h3 x (List.mem_cons_self ..)) hb0 hbl hb60 hS (sz := sz) (by omega)
    obtain ⟨tz, S', u6, u8, u9, u10, u11, u12, u13, u14, t1, t2, t3, t4⟩ := lines_loop hw hb0 hbl hb60 (r := r) (sz := sz ++ [lz]) (S := S1) (v6 := some (.val (eN x))) (v8 := w8) (v9 := w9) (v10 := w10) (v11 := w11) (v12 := w12) (v13 := w13) (v14 := w14) (fun y hy => h3 y (List.mem_cons_of_mem _ hy)) (by rw [List.length_append, List.length_singleton]; omega) q4
    refine ⟨lz :: tz, S', u6, u8, u9, u10, u11, u12, u13, u14, ?_, by rw [List.length_cons, List.length_cons, t2], fun i hi => ?_, t4⟩
    · have g0 : gN 6 (eN x) (dS S W most B (some (.lst (sz.map lineE))) v6 v7 v8 v9 v10 v11 v12 v13 v14 none none) = .ok (dS S W most B (some (.lst (sz.map lineE))) (some (.val (eN x))) v7 v8 v9 v10 v11 v12 v13 v14 none none) := rfl
      rw [List.map_cons, forD_nx g0 q2 (.inl rfl), t1, List.append_assoc]
      rfl
    · cases i with
      | zero => exact q3
      | succ i => exact t3 i (by rw [List.length_cons] at hi; omega)
theorem lines_ok (hw : W.length ≤ 2) (hb3 : ∀ x ∈ B, x ≤ 3) (hb0 : B.getD 0 0 = 0) (hbl : 1 ≤ B.length) (hb60 : B.length ≤ 60) (hS : Sok S) :
    ∃ (sz : List (List Stp)) (S' : Src) (u6 u8 u9 u10 u11 u12 u13 u14 : Option T), B2 (dS S W most B (some (.lst [])) v6 v7 v8 v9 v10 v11 v12 v13 v14 none none) =
      .ok (.nx, dS S' W most B (some (.lst (sz.map lineE))) u6 v7 u8 u9 u10 u11 u12 u13 u14 none none) ∧ sz.length = B.length ∧ (∀ i, i < B.length → LnP W B (B.getD i 0) (sz.getD i [])) ∧ Sok S' := by
  have it : iSeq (kX 3) (dS S W most B (some (.lst [])) v6 v7 v8 v9 v10 v11 v12 v13 v14 none none) = .ok (B.map eN, dS S W most B (some (.lst [])) v6 v7 v8 v9 v10 v11 v12 v13 v14 none none) := by
    simp only [run_mk, List.map_cons, List.map_nil, List.length_cons, List.length_nil, List.cons_append, List.nil_append, List.replicate_succ, List.replicate_zero, Nat.reduceAdd, Nat.reduceSub, List.getElem?_cons_zero, List.getElem?_cons_succ, List.set_cons_zero, List.set_cons_succ, R.bind_ok, sCons, sNil, sIf, sRet, retL, dropL, sSet, setL, sDrop, sUnp, sPar, lNil, lCons, kF, putL, gN, gT, gAll, kC, kX, kD, kG, kS, scl, k1, k2, L.get, L.take, T.toD, aNil, aCons, kTup, kLst, bVal, bAnd, bOr, bNot, kAnd, kOr, kNot, kIf, boolOf, kCall, cNil, cV, cMv, cPass, lend, back, resL, outs, endOf, srcAt, kSGet, kSLen, kInt, SF.get, SF.put, bl, nm, if_true, if_false, Bool.false_eq_true, Bool.not_true, Bool.not_false, iSeq, dS, seqOf]
  obtain ⟨tz, S', u6, u8, u9, u10, u11, u12, u13, u14, t1, t2, t3, t4⟩ := lines_loop (most := most) (v7 := v7) hw hb0 hbl hb60 (r := B) (sz := []) (S := S) (v6 := v6) (v8 := v8) (v9 := v9) (v10 := v10) (v11 := v11) (v12 := v12) (v13 := v13) (v14 := v14) hb3 (by rw [List.length_nil]; omega) hS
  refine ⟨tz, S', u6, u8, u9, u10, u11, u12, u13, u14, ?_, t2, t3, t4⟩
  unfold B2
  rw [sFor_it it]
  exact t1
theorem yes_ok (hb60 : B.length ≤ 60) (hS : Sok S) :
    (B3 (dS S W most B v4 v6 none v8 v9 v10 v11 v12 v13 v14 none none)).W fun r => r.1 = .nx ∧
      ∃ (Y : List Nat) (S' : Src), r.2 = dS S' W most B v4 v6 (some (.val (.tuple (Y.map eN)))) v8 v9 v10 v11 v12 v13 v14 none none ∧
        Y.length ≤ 60 ∧ (∀ x ∈ Y, x < B.length) ∧ Sok S' := by
  have h := comp_invC0 (g := gN 15) (c := some (bVal (k2 pEq (kCall (D_u_law_pick).run (cMv 0 (cV (kC (.int 3)) cNil))) (kC (.int 0))))) (f := kX 15) (own := [15]) (ds := intR 0 B.length) (s := dS S W most B v4 v6 none v8 v9 v10 v11 v12 v13 v14 none none)
    (fun i acc s => ∃ (Y : List Nat) (S' : Src), acc = Y.map eN ∧ s = dS S' W most B v4 v6 none v8 v9 v10 v11 v12 v13 v14 none none ∧ Y.length ≤ i ∧ (∀ x ∈ Y, x < i) ∧ Sok S')
    ⟨[], S, rfl, rfl, Nat.le_refl _, fun _ q => (nomatch q), hS⟩ (fun i x acc s hx ⟨Y, S1, h1, h2, h3, h4, h6⟩ => by
      obtain ⟨hi, rfl⟩ := intR_in hx
      subst h1 h2
      obtain ⟨r2, S2, p1, p2, p3⟩ := pick S1 3 h6 (by decide) (by decide)
      have p1 : D_u_law_pick.run [.src S1, .val (.int 3)] = .ok (.val (.int r2), [.src S2]) := p1
      by_cases q : r2 = 0
      · subst q
        have e0 : pEq (.int ((0 : Nat) : Int)) (.int 0) = bl true := rfl
        simp only [run_mk, List.map_cons, List.map_nil, List.length_cons, List.length_nil, List.cons_append, List.nil_append, List.replicate_succ, List.replicate_zero, Nat.reduceAdd, Nat.reduceSub, List.getElem?_cons_zero, List.getElem?_cons_succ, List.set_cons_zero, List.set_cons_succ, R.bind_ok, sCons, sNil, sIf, sRet, retL, dropL, sSet, setL, sDrop, sUnp, sPar, lNil, lCons, kF, putL, gN, gT, gAll, kC, kX, kD, kG, kS, scl, k1, k2, L.get, L.take, T.toD, aNil, aCons, kTup, kLst, bVal, bAnd, bOr, bNot, kAnd, kOr, kNot, kIf, boolOf, kCall, cNil, cV, cMv, cPass, lend, back, resL, outs, endOf, srcAt, kSGet, kSLen, kInt, SF.get, SF.put, bl, nm, if_true, if_false, Bool.false_eq_true, Bool.not_true, Bool.not_false, bOf, dS, wipeD, p1, e0, R.W_ok]
        exact ⟨Y ++ [i], S2, by rw [List.map_append]; rfl, rfl, by rw [List.length_append, List.length_singleton]; omega, fun z hz => by
          rcases List.mem_append.mp hz with q | q
          · have := h4 z q; omega
          · rw [List.mem_singleton.mp q]; omega, p3⟩
      · have e0 : pEq (.int (r2 : Nat)) (.int 0) = bl false := by rw [pEq_int, decide_eq_false (by omega)]
        simp only [run_mk, List.map_cons, List.map_nil, List.length_cons, List.length_nil, List.cons_append, List.nil_append, List.replicate_succ, List.replicate_zero, Nat.reduceAdd, Nat.reduceSub, List.getElem?_cons_zero, List.getElem?_cons_succ, List.set_cons_zero, List.set_cons_succ, R.bind_ok, sCons, sNil, sIf, sRet, retL, dropL, sSet, setL, sDrop, sUnp, sPar, lNil, lCons, kF, putL, gN, gT, gAll, kC, kX, kD, kG, kS, scl, k1, k2, L.get, L.take, T.toD, aNil, aCons, kTup, kLst, bVal, bAnd, bOr, bNot, kAnd, kOr, kNot, kIf, boolOf, kCall, cNil, cV, cMv, cPass, lend, back, resL, outs, endOf, srcAt, kSGet, kSLen, kInt, SF.get, SF.put, bl, nm, if_true, if_false, Bool.false_eq_true, Bool.not_true, Bool.not_false, bOf, dS, wipeD, p1, e0, R.W_ok]
        exact ⟨Y, S2, rfl, rfl, by omega, fun z hz => by have := h4 z hz; omega, p3⟩)
  rw [intR_len] at h
  obtain ⟨⟨acc, s2⟩, e1, Y, S', e2, e3, e4, e5, e7⟩ := R.W_get h
  simp only at e2 e3
  subst e2 e3
  have z : szOk (Y.map eN).length = true := szOk_of (by rw [List.length_map]; omega)
  have pl : pLen (.tuple (B.map eN)) = .ok (.d (.int (B.length : Nat))) := pLenM
  have it : iRg1 (k1 pLen (kX 3)) (dS S W most B v4 v6 none v8 v9 v10 v11 v12 v13 v14 none none) = .ok (intR 0 B.length, dS S W most B v4 v6 none v8 v9 v10 v11 v12 v13 v14 none none) :=
    iRg1_it (by simp only [run_mk, List.map_cons, List.map_nil, List.length_cons, List.length_nil, List.cons_append, List.nil_append, List.replicate_succ, List.replicate_zero, Nat.reduceAdd, Nat.reduceSub, List.getElem?_cons_zero, List.getElem?_cons_succ, List.set_cons_zero, List.set_cons_succ, R.bind_ok, sCons, sNil, sIf, sRet, retL, dropL, sSet, setL, sDrop, sUnp, sPar, lNil, lCons, kF, putL, gN, gT, gAll, kC, kX, kD, kG, kS, scl, k1, k2, L.get, L.take, T.toD, aNil, aCons, kTup, kLst, bVal, bAnd, bOr, bNot, kAnd, kOr, kNot, kIf, boolOf, kCall, cNil, cV, cMv, cPass, lend, back, resL, outs, endOf, srcAt, kSGet, kSLen, kInt, SF.get, SF.put, bl, nm, if_true, if_false, Bool.false_eq_true, Bool.not_true, Bool.not_false, dS, pl]) (by omega)
  have kc := kComp_it it e1 z
  have p1 : ∀ l : List D, pTuple (.list l) = .ok (.d (.tuple l)) := fun l => rfl
  refine R.W_of (a := (.nx, dS S' W most B v4 v6 (some (.val (.tuple (Y.map eN)))) v8 v9 v10 v11 v12 v13 v14 none none)) ?_ ⟨rfl, Y, S', rfl, by omega, e5, e7⟩
  unfold B3 sSet k1
  unfold k1 at kc
  rw [kc]
  simp only [run_mk, List.map_cons, List.map_nil, List.length_cons, List.length_nil, List.cons_append, List.nil_append, List.replicate_succ, List.replicate_zero, Nat.reduceAdd, Nat.reduceSub, List.getElem?_cons_zero, List.getElem?_cons_succ, List.set_cons_zero, List.set_cons_succ, R.bind_ok, sCons, sNil, sIf, sRet, retL, dropL, sSet, setL, sDrop, sUnp, sPar, lNil, lCons, kF, putL, gN, gT, gAll, kC, kX, kD, kG, kS, scl, k1, k2, L.get, L.take, T.toD, aNil, aCons, kTup, kLst, bVal, bAnd, bOr, bNot, kAnd, kOr, kNot, kIf, boolOf, kCall, cNil, cV, cMv, cPass, lend, back, resL, outs, endOf, srcAt, kSGet, kSLen, kInt, SF.get, SF.put, bl, nm, if_true, if_false, Bool.false_eq_true, Bool.not_true, Bool.not_false, dS, p1]
end
/-! ### boxes -/
def bS0 (S : Src) (W : List Str) (most : Int) : Sl :=
  [some (.src S), some (.val (strsE W)), some (.val (.int most)), none, none, none, none, none, none, none, none, none, none, none, none, none, none]
theorem boxes_ok {S : Src} {W : List Str} {mo : Nat} (h0 : 0 < mo) (h60 : mo ≤ 50) (hS : Sok S) :
    (B0 (bS0 S W (mo : Nat))).W fun q => q.1 = .nx ∧ ∃ (B : List Nat) (S' : Src), q.2 = (bS0 S' W (mo : Nat)).set 3 (some (.val (.tuple (B.map eN)))) ∧ 1 ≤ B.length ∧ B.length ≤ mo ∧ (∀ x ∈ B, x ≤ 3) ∧ B.getD 0 0 = 0 ∧ Sok S' := by
  obtain ⟨r, S1, p1, p2, p3⟩ := pick S mo hS h0 (by omega)
  have h := comp_inv0 (g := gN 16) (f := kCall (D_u_law_of).run (cMv 0 (cV (kLst (aCons (kC (.int 0)) (aCons (kC (.int 1)) (aCons (kC (.int 1)) (aCons (kC (.int 2)) (aCons (kC (.int 2)) (aCons (kC (.int 3)) aNil))))))) cNil))) (own := [16]) (ds := intR 0 r) (s := bS0 S1 W (mo : Nat))
    (fun i acc s => ∃ (X : List Nat) (S' : Src), acc = X.map eN ∧ s = bS0 S' W (mo : Nat) ∧ X.length = i ∧ (∀ x ∈ X, x ≤ 3) ∧ Sok S')
    ⟨[], S1, rfl, rfl, rfl, fun _ q => (nomatch q), p3⟩ (fun i x acc s hx ⟨X, S1, h1, h2, h3, h4, h5⟩ => by
      subst h1 h2
      obtain ⟨y, S2, p1, p2, p3⟩ := of_0123 S1 h5
      simp only [run_mk, List.map_cons, List.map_nil, List.length_cons, List.length_nil, List.cons_append, List.nil_append, List.replicate_succ, List.replicate_zero, Nat.reduceAdd, Nat.reduceSub, List.getElem?_cons_zero, List.getElem?_cons_succ, List.set_cons_zero, List.set_cons_succ, R.bind_ok, sCons, sNil, sIf, sRet, retL, dropL, sSet, setL, sDrop, sUnp, sPar, lNil, lCons, kF, putL, gN, gT, gAll, kC, kX, kD, kG, kS, scl, k1, k2, L.get, L.take, T.toD, aNil, aCons, kTup, kLst, bVal, bAnd, bOr, bNot, kAnd, kOr, kNot, kIf, boolOf, kCall, cNil, cV, cMv, cPass, lend, back, resL, outs, endOf, srcAt, kSGet, kSLen, kInt, SF.get, SF.put, bl, nm, if_true, if_false, Bool.false_eq_true, Bool.not_true, Bool.not_false, bS0, wipeD, szOk6, p1, R.W_ok]
      exact ⟨X ++ [y], S2, by rw [List.map_append]; rfl, rfl, by rw [List.length_append, List.length_singleton, h3], fun z hz => by
        rcases List.mem_append.mp hz with q | q
        · exact h4 z q
        · rw [List.mem_singleton.mp q]; exact p2, p3⟩)
  rw [intR_len] at h
  obtain ⟨⟨acc, s2⟩, e1, X, S', e2, e3, e4, e5, e6⟩ := R.W_get h
  simp only at e2 e3
  subst e2 e3
  have z : szOk (X.map eN).length = true := szOk_of (by rw [List.length_map]; omega)
  have it : iRg1 (kCall (D_u_law_pick).run (cMv 0 (cV (kX 2) cNil))) (bS0 S W (mo : Nat)) = .ok (intR 0 r, bS0 S1 W (mo : Nat)) :=
    iRg1_it (by simp only [run_mk, List.map_cons, List.map_nil, List.length_cons, List.length_nil, List.cons_append, List.nil_append, List.replicate_succ, List.replicate_zero, Nat.reduceAdd, Nat.reduceSub, List.getElem?_cons_zero, List.getElem?_cons_succ, List.set_cons_zero, List.set_cons_succ, R.bind_ok, sCons, sNil, sIf, sRet, retL, dropL, sSet, setL, sDrop, sUnp, sPar, lNil, lCons, kF, putL, gN, gT, gAll, kC, kX, kD, kG, kS, scl, k1, k2, L.get, L.take, T.toD, aNil, aCons, kTup, kLst, bVal, bAnd, bOr, bNot, kAnd, kOr, kNot, kIf, boolOf, kCall, cNil, cV, cMv, cPass, lend, back, resL, outs, endOf, srcAt, kSGet, kSLen, kInt, SF.get, SF.put, bl, nm, if_true, if_false, Bool.false_eq_true, Bool.not_true, Bool.not_false, bS0, p1]) (by omega)
  have kc := kComp_it it e1 z
  have pt : pTuple (.list (X.map eN)) = .ok (.d (.tuple (X.map eN))) := rfl
  have ad : pAdd (.tuple [.int 0]) (.tuple (X.map eN)) = .ok (.d (.tuple (.int 0 :: X.map eN))) := pAdd_tt (by rw [List.length_map, List.length_singleton]; omega)
  refine R.W_of (a := (.nx, (bS0 S' W (mo : Nat)).set 3 (some (.val (.tuple ((0 :: X : List Nat).map eN)))))) ?_ ⟨rfl, 0 :: X, S', rfl, by rw [List.length_cons]; omega, by rw [List.length_cons]; omega, fun x hx => ?_, rfl, e6⟩
  · simp only [bS0] at kc
    simp only [run_mk, List.map_cons, List.map_nil, List.length_cons, List.length_nil, List.cons_append, List.nil_append, List.replicate_succ, List.replicate_zero, Nat.reduceAdd, Nat.reduceSub, List.getElem?_cons_zero, List.getElem?_cons_succ, List.set_cons_zero, List.set_cons_succ, R.bind_ok, sCons, sNil, sIf, sRet, retL, dropL, sSet, setL, sDrop, sUnp, sPar, lNil, lCons, kF, putL, gN, gT, gAll, kC, kX, kD, kG, kS, scl, k1, k2, L.get, L.take, T.toD, aNil, aCons, kTup, kLst, bVal, bAnd, bOr, bNot, kAnd, kOr, kNot, kIf, boolOf, kCall, cNil, cV, cMv, cPass, lend, back, resL, outs, endOf, srcAt, kSGet, kSLen, kInt, SF.get, SF.put, bl, nm, if_true, if_false, Bool.false_eq_true, Bool.not_true, Bool.not_false, B0, bS0, szOk1, kc, pt, ad]
    rfl
  · rcases List.mem_cons.mp hx with q | q
    · rw [q]; omega
    · exact e5 x q
/-- what a drawn machine keeps to -/
structure MD (M : Mach) : Prop where
  ok : MOk M
  w : M.W = [] ∨ M.W = (["go"] : List Str) ∨ M.W = (["go", "stop"] : List Str)
  b3 : ∀ x ∈ M.B, x ≤ 3
  a2 : ∀ i j, i < M.B.length → j ≤ M.W.length + M.B.getD i 0 → (M.stp i j).1.length ≤ 2
  yl : M.Y.length ≤ 60
  yb : ∀ x ∈ M.Y, x < M.B.length
theorem MD.wl {M : Mach} (h : MD M) : M.W.length ≤ 2 := by
  rcases h.w with e | e | e <;> rw [e] <;> simp
theorem MD.y100 {M : Mach} (h : MD M) : ∀ x ∈ M.Y, x < 100 := fun x hx => by
  have := h.yb x hx
  have := h.ok.b60
  omega
theorem machine_ok {W : List Str} (hW : W = [] ∨ W = (["go"] : List Str) ∨ W = (["go", "stop"] : List Str)) {mo : Nat} (h0 : 0 < mo) (h60 : mo ≤ 50) (S : Src) (hS : Sok S) :
    ∃ (M : Mach) (S' : Src), D_u_law_machine.run [.src S, .val (strsE W), .val (.int (mo : Nat))] = .ok (.val M.enc, [.src S']) ∧ MD M ∧ M.W = W ∧ Sok S' := by
  have hw : W.length ≤ 2 := by rcases hW with e | e | e <;> rw [e] <;> simp
  have wk : ∀ x ∈ W, Sk x := fun x hx => by
    rcases hW with e | e | e <;> rw [e] at hx
    · cases hx
    · exact sk_used (by simp only [List.mem_singleton] at hx; subst hx; simp [used])
    · refine sk_used ?_
      simp only [List.mem_cons, List.not_mem_nil, or_false] at hx
      rcases hx with rfl | rfl <;> simp [used]
  have lw : pLen (strsE W) = .ok (.d (.int (W.length : Nat))) := pLenM
  obtain ⟨⟨f1, s1⟩, g1, g2, B, S2, g3, g4, g4b, g5, g6, g7⟩ := R.W_get (boxes_ok (S := S) (W := W) (mo := mo) h0 h60 hS)
  simp only at g2 g3
  subst g2 g3
  obtain ⟨sz, S3, u6, u8, u9, u10, u11, u12, u13, u14, k1', k4', k5', k6'⟩ := lines_ok (S := S2) (W := W) (B := B) (most := (mo : Nat)) (v6 := none) (v7 := none) (v8 := none) (v9 := none) (v10 := none) (v11 := none) (v12 := none) (v13 := none) (v14 := none) hw g5 g6 g4 (by omega) g7
  obtain ⟨⟨f4, s4⟩, y1, y2, Y, S4, y3, y4, y5, y7⟩ := R.W_get (yes_ok (S := S3) (W := W) (B := B) (most := (mo : Nat)) (v4 := some (.lst (sz.map lineE))) (v6 := u6) (v8 := u8) (v9 := u9) (v10 := u10) (v11 := u11) (v12 := u12) (v13 := u13) (v14 := u14) (by omega) k6')
  simp only at y2 y3
  subst y2 y3
  have b1 : B1 ((bS0 S2 W (mo : Nat)).set 3 (some (.val (.tuple (B.map eN))))) = .ok (.nx, dS S2 W (mo : Nat) B (some (.lst [])) none none none none none none none none none none none) := by
    simp only [run_mk, List.map_cons, List.map_nil, List.length_cons, List.length_nil, List.cons_append, List.nil_append, List.replicate_succ, List.replicate_zero, Nat.reduceAdd, Nat.reduceSub, List.getElem?_cons_zero, List.getElem?_cons_succ, List.set_cons_zero, List.set_cons_succ, R.bind_ok, sCons, sNil, sIf, sRet, retL, dropL, sSet, setL, sDrop, sUnp, sPar, lNil, lCons, kF, putL, gN, gT, gAll, kC, kX, kD, kG, kS, scl, k1, k2, L.get, L.take, T.toD, aNil, aCons, kTup, kLst, bVal, bAnd, bOr, bNot, kAnd, kOr, kNot, kIf, boolOf, kCall, cNil, cV, cMv, cPass, lend, back, resL, outs, endOf, srcAt, kSGet, kSLen, kInt, SF.get, SF.put, bl, nm, if_true, if_false, Bool.false_eq_true, Bool.not_true, Bool.not_false, B1, bS0, dS, lw, szOk0]
  refine ⟨⟨W, B, Y, sz⟩, S4, ?_, ?_, rfl, y7⟩
  · rw [lmach_def]
    refine run_rt (s1 := dS S4 W (mo : Nat) B (some (.lst (sz.map lineE))) u6 (some (.val (.tuple (Y.map eN)))) u8 u9 u10 u11 u12 u13 u14 none none) ?_ rfl
    show sCons B0 _ (bS0 S W (mo : Nat)) = _
    rw [sCons_nx g1, sCons_nx b1, sCons_nx k1', sCons_nx y1]
    have ptl : ∀ xs : List D, pTuple (.list xs) = .ok (.d (.tuple xs)) := fun _ => rfl
    refine sCons_rt ?_
    simp only [run_mk, List.map_cons, List.map_nil, List.length_cons, List.length_nil, List.cons_append, List.nil_append, List.replicate_succ, List.replicate_zero, Nat.reduceAdd, Nat.reduceSub, List.getElem?_cons_zero, List.getElem?_cons_succ, List.set_cons_zero, List.set_cons_succ, R.bind_ok, sCons, sNil, sIf, sRet, retL, dropL, sSet, setL, sDrop, sUnp, sPar, lNil, lCons, kF, putL, gN, gT, gAll, kC, kX, kD, kG, kS, scl, k1, k2, L.get, L.take, T.toD, aNil, aCons, kTup, kLst, bVal, bAnd, bOr, bNot, kAnd, kOr, kNot, kIf, boolOf, kCall, cNil, cV, cMv, cPass, lend, back, resL, outs, endOf, srcAt, kSGet, kSLen, kInt, SF.get, SF.put, bl, nm, if_true, if_false, Bool.false_eq_true, Bool.not_true, Bool.not_false, B4, dS, ptl, szOk4]
    rfl
  · have hln : ∀ i, i < B.length → LnP W B (B.getD i 0) (sz.getD i []) := k5'
    have hstp : ∀ i j, i < B.length → j ≤ W.length + B.getD i 0 → StP W B (B.getD i 0) j ((sz.getD i []).getD j st00) := fun i j hi hj => (hln i hi).2 j (by rw [(hln i hi).1]; omega)
    exact ⟨⟨wk, (by show W.length ≤ 4; omega), g4, (by show B.length ≤ 60; omega), g6, fun x hx => by have := g5 x hx; omega, k4', fun i hi => (hln i hi).1, fun i j hi hj => (hstp i j hi hj).an, fun i j hi hj => Nat.le_trans (hstp i j hi hj).al (by decide), fun i j hi hj => (hstp i j hi hj).lt, fun i j hi hj => (hstp i j hi hj).fn, fun i j hi hj => (hstp i j hi hj).fl, fun i j hi hj => (hstp i j hi hj).fu⟩, hW, g5, fun i j hi hj => (hstp i j hi hj).al, y4, y5⟩
/-! ### how much is shown -/
theorem fit_ns {l : List Nat} {k : Nat} (h : ∀ x ∈ l, x < 100) (hk : l.length ≤ k) : fit 1 (k * 21) (.tuple (l.map eN)) := fit_tup (n := 0) (m := 20) (fun d hd => by
  obtain ⟨x, hx, rfl⟩ := List.mem_map.mp hd
  exact fit_int (h x hx)) (by rw [List.length_map]; exact hk)
theorem fit_ss {l : List Str} {k : Nat} (h : ∀ x ∈ l, Sk x) (hk : l.length ≤ k) : fit 1 (k * 21) (strsE l) := fit_tup (n := 0) (m := 20) (fit_strs h) (by rw [List.length_map]; exact hk)
section
variable {M : Mach}
theorem getD_le3 (h : ∀ x ∈ M.B, x ≤ 3) {i : Nat} : M.B.getD i 0 ≤ 3 := by
  by_cases q : i < M.B.length
  · exact h _ (List.mem_of_getElem? (getD_at (d0 := 0) q))
  · rw [List.getD_eq_getElem?_getD, List.getElem?_eq_none (by omega)]; simp
/-- so little -/
structure ML (M : Mach) : Prop where
  ok : MOk M
  wl : M.W.length ≤ 2
  b3 : ∀ x ∈ M.B, x ≤ 3
  a2 : ∀ i j, i < M.B.length → j ≤ M.W.length + M.B.getD i 0 → (M.stp i j).1.length ≤ 2
  yl : M.Y.length ≤ 60
  yb : ∀ x ∈ M.Y, x < M.B.length
theorem enc_fit (h : ML M) : fit 5 300000 M.enc := by
  have o := h.ok
  have wl := h.wl
  have f1 : fit 1 42 (strsE M.W) := fit_ss (k := 2) o.wk wl
  have f2 : fit 1 1260 (.tuple (M.B.map eN)) := fit_ns (k := 60) (fun x hx => by have := o.b5 x hx; omega) o.b60
  have f3 : fit 1 1260 (.tuple (M.Y.map eN)) := fit_ns (k := 60) (fun x hx => by have := h.yb x hx; have := o.b60; omega) h.yl
  have f4 : fit 4 (60 * (6 * (3 * 64 + 1) + 1)) (.tuple (M.S.map lineE)) := fit_tup (n := 3) (m := 6 * (3 * 64 + 1)) (k := 60) (fun d hd => by
    obtain ⟨l, hl, rfl⟩ := List.mem_map.mp hd
    obtain ⟨i, hi, rfl⟩ := List.getElem_of_mem hl
    have hiB : i < M.B.length := by rw [← o.sl]; exact hi
    have e1 : M.S[i] = M.S.getD i [] := by rw [List.getD_eq_getElem?_getD, List.getElem?_eq_getElem hi]; rfl
    rw [e1]
    refine fit_tup (n := 2) (m := 3 * 64) (k := 6) (fun d hd => ?_) (by rw [List.length_map, o.ll i hiB]; have := getD_le3 h.b3 (i := i); omega)
    obtain ⟨s, hs, rfl⟩ := List.mem_map.mp hd
    obtain ⟨j, hj, rfl⟩ := List.getElem_of_mem hs
    have e2 : (M.S.getD i [])[j] = M.stp i j := by unfold Mach.stp; rw [List.getD_eq_getElem?_getD (l := M.S.getD i []), List.getElem?_eq_getElem hj]; rfl
    rw [e2]
    rw [o.ll i hiB] at hj
    have hj2 : j ≤ M.W.length + M.B.getD i 0 := by omega
    have mm := many_le (M := M) (i := i) (j := j)
    have gb := getD_le3 h.b3 (i := i)
    have g1 : fit 1 63 (.tuple ((M.stp i j).1.map eN)) := (fit_ns (k := 2) (fun x hx => by have := o.an i j hiB hj2 x hx; omega) (h.a2 i j hiB hj2)).mono (by decide) (by decide)
    have g2 : fit 1 63 (eN (M.stp i j).2.1) := (fit_int (by have := o.lt i j hiB hj2; have := o.b60; omega)).mono (by decide) (by decide)
    have g3 : fit 1 63 (.tuple ((M.stp i j).2.2.map eN)) := fit_ns (k := 3) (fun x hx => by have := (o.fn i j hiB hj2 x hx).2; omega) (by rw [o.fl i j hiB hj2]; exact getD_le3 h.b3)
    exact fit_tup (n := 1) (m := 63) (k := 3) (fun d hd => by
      simp only [List.mem_cons, List.not_mem_nil, or_false] at hd
      rcases hd with rfl | rfl | rfl
      · exact g1
      · exact g2
      · exact g3) (by simp)) (by rw [List.length_map, o.sl]; exact o.b60)
  exact (fit_tup (n := 4) (m := 60 * (6 * (3 * 64 + 1) + 1)) (k := 4) (fun d hd => by
    simp only [List.mem_cons, List.not_mem_nil, or_false] at hd
    rcases hd with rfl | rfl | rfl | rfl
    · exact f1.mono (by decide) (by decide)
    · exact f2.mono (by decide) (by decide)
    · exact f3.mono (by decide) (by decide)
    · exact f4) (by simp)).mono (by decide) (by decide)
theorem MD.ml (h : MD M) : ML M := ⟨h.ok, h.wl, h.b3, h.a2, h.yl, h.yb⟩
theorem num_ml (h : MD M) {Rs : List Nat} (hR : Rch M Rs) : ML (numM M Rs) where
  ok := num_ok h.ok hR
  wl := h.wl
  b3 := fun x hx => by
    obtain ⟨m, hm, rfl⟩ := List.mem_map.mp hx
    exact h.b3 _ (List.mem_of_getElem? (getD_at (d0 := 0) (hR.cg.lt m hm)))
  a2 := fun i j hi hj => by
    obtain ⟨h1, h2, h3, h4, h5⟩ := num_at h.ok hR hi hj
    rw [h3]
    exact h.a2 _ j h1 h2
  yl := by
    have := List.length_filter_le (fun k => decide (Rs.getD k 0 ∈ M.Y)) (List.range Rs.length)
    rw [List.length_range] at this
    have := hR.cg.len
    have := h.ok.b60
    show ((List.range Rs.length).filter fun k => decide (Rs.getD k 0 ∈ M.Y)).length ≤ 60
    omega
  yb := fun x hx => by
    have := List.mem_range.mp (List.mem_filter.mp hx).1
    rw [num_Bl]
    exact this
end
end K11

set_option Elab.async false
set_option linter.all false
set_option maxRecDepth 100000
set_option maxHeartbeats 4000000
set_option pp.maxSteps 600
namespace K11
open PySem KV
/-! ### the law, a lap -/
def Q0 : SV := (sSet 5 (kCall (D_u_law_words).run (cMv 2 cNil)))
def Q1 : SV := (sSet 6 (kCall (D_u_law_machine).run (cMv 2 (cV (kX 5) (cV (kC (.int 6)) cNil)))))
def Q2 : SV := (sPar [7, 8] (lCons (kCall (D_u_law_come_to).run (cV (kX 6) cNil)) (lCons (k1 pRepr (kX 6)) lNil)))
def Q3 : SV := (sSet 9 (kCall (D_u_law_numbered).run (cV (kX 6) (cV (kX 7) cNil))))
def Q4 : SV := (sIf (bVal (k2 pNeS (k1 pRepr (kCall (D_modes_come_to).run (cV (kX 6) (cMv 1 cNil)))) (k1 pRepr (k1 pTuple (kX 7))))) (sCons (sRet (kC (.bool false))) sNil) sNil)
def Q5 : SV := (sIf (bVal (k2 pNeS (k1 pRepr (kCall (D_numbered_machine).run (cV (kX 6) (cMv 1 cNil)))) (k1 pRepr (kTup (aCons (kX 9) (aCons (k1 pTuple (kX 7)) aNil)))))) (sCons (sRet (kC (.bool false))) sNil) sNil)
def Q6 : SV := (sIf (bVal (k2 pNeS (k1 pRepr (kX 6)) (kX 8))) (sCons (sRet (kC (.bool false))) sNil) sNil)
def R0 : SV := (sSet 11 (k1 pTuple (kComp (iRg1 (kCall (D_u_law_pick).run (cMv 2 (cV (kC (.int 7)) cNil)))) (gN 12) none (kCall (D_u_law_of).run (cMv 2 (cV (k2 pAdd (kLst (aCons (kC (.str "a")) (aCons (kC (.str "b")) (aCons (kC (.str "c")) (aCons (kC (.str "a")) aNil))))) (k1 pList (kX 5))) cNil))) [12])))
def R1 : SV := (sIf (bVal (k2 pNeS (k1 pRepr (kCall (D_answers_of).run (cV (kX 6) (cV (kX 11) cNil)))) (k1 pRepr (kCall (D_answers_of).run (cV (kX 9) (cV (kX 11) cNil)))))) (sCons (sRet (kC (.bool false))) sNil) sNil)
def trB : SV := (sCons R0 (sCons R1 sNil))
def Q7 : SV := (sFor (iRg1 (kC (.int 3))) (gN 10) trB)
def lapB : SV := (sCons Q0 (sCons Q1 (sCons Q2 (sCons Q3 (sCons Q4 (sCons Q5 (sCons Q6 (sCons Q7 sNil))))))))
def E0 : SV := (sSet 2 (kCall (D_u_law_source).run (cPass 0 cNil)))
def E1 : SV := (sFor (iRg1 (kC (.int 4))) (gN 3) lapB)
def E2 : SV := (sSet 4 (kTup (aCons (kTup aNil) (aCons (k2 pMul (kTup (aCons (kC (.int 0)) aNil)) (kC (.int 60))) (aCons (kTup (aCons (kC (.int 1)) (aCons (kC (.int 59)) aNil))) (aCons (k1 pTuple (kComp (iRg1 (kC (.int 60))) (gN 12) none (kTup (aCons (kTup (aCons (kTup aNil) (aCons (k2 pMod (k1 pInt (k2 pAdd (kX 12) (kC (.int 1)))) (kC (.int 60))) (aCons (kTup aNil) aNil)))) aNil)) [12])) aNil))))))
def E3 : SV := (sRet (kAnd (k2 pEq (kCall (D_numbered_machine).run (cV (kX 4) (cMv 1 cNil))) (kTup (aCons (kX 4) (aCons (kTR (iRg1 (kC (.int 60)))) aNil)))) (k2 pEq (kCall (D_modes_come_to).run (cV (kX 4) (cMv 1 cNil))) (kTR (iRg1 (kC (.int 60)))))))
theorem law_def : D_law = ⟨13, [1], (sCons E0 (sCons E1 (sCons E2 (sCons E3 sNil))))⟩ := rfl
theorem sh {n m : Nat} {d : D} (h : fit n m d) (hn : n ≤ 64) (hm : m ≤ 1048576) : pRepr d = .ok (.d (.str d.shown)) := pRepr_of (h.show hn hm)
theorem st0_ok (o : MOk M) : StOk M st0 := ⟨o.b1, o.b0.symm, fun x hx => by cases hx⟩
section
variable {S : Src} {ns : List Int} {W : List Str} {M : Mach} {Rs : List Nat} {X : D} {v3 v4 v5 v6 v7 v8 v9 v10 v11 v12 : Option T}
def lwS (ns : List Int) (S : Src) (v3 v5 v6 v7 v8 v9 v10 v11 v12 : Option T) : Sl := [some (.scr ns), some .tbs, some (.src S), v3, none, v5, v6, v7, v8, v9, v10, v11, v12]
theorem q0_ok (hS : Sok S) : ∃ (W : List Str) (S' : Src), Q0 (lwS ns S v3 v5 v6 v7 v8 v9 v10 v11 v12) = .ok (.nx, lwS ns S' v3 (some (.val (strsE W))) v6 v7 v8 v9 v10 v11 v12) ∧ (W = [] ∨ W = (["go"] : List Str) ∨ W = (["go", "stop"] : List Str)) ∧ Sok S' := by
  obtain ⟨W, S', h1, h2, h3⟩ := words_ok S hS
  exact ⟨W, S', by simp only [run_mk, List.map_cons, List.map_nil, List.length_cons, List.length_nil, List.cons_append, List.nil_append, List.replicate_succ, List.replicate_zero, Nat.reduceAdd, Nat.reduceSub, List.getElem?_cons_zero, List.getElem?_cons_succ, List.set_cons_zero, List.set_cons_succ, R.bind_ok, sCons, sNil, sIf, sRet, retL, dropL, sSet, setL, sDrop, sUnp, sPar, lNil, lCons, kF, putL, gN, gT, gAll, kC, kX, kD, kG, kS, scl, k1, k2, L.get, L.take, T.toD, aNil, aCons, kTup, kLst, bVal, bAnd, bOr, bNot, kAnd, kOr, kNot, kIf, boolOf, kCall, cNil, cV, cMv, cPass, lend, back, resL, outs, endOf, srcAt, kSGet, kSLen, kInt, SF.get, SF.put, bl, nm, if_true, if_false, Bool.false_eq_true, Bool.not_true, Bool.not_false, Q0, lwS, h1], h2, h3⟩
theorem q1_ok (hS : Sok S) (hW : W = [] ∨ W = (["go"] : List Str) ∨ W = (["go", "stop"] : List Str)) : ∃ (M : Mach) (S' : Src), Q1 (lwS ns S v3 (some (.val (strsE W))) v6 v7 v8 v9 v10 v11 v12) = .ok (.nx, lwS ns S' v3 (some (.val (strsE W))) (some (.val M.enc)) v7 v8 v9 v10 v11 v12) ∧ MD M ∧ M.W = W ∧ Sok S' := by
  obtain ⟨M, S', h1, h2, h3, h4⟩ := machine_ok hW (mo := 6) (by decide) (by decide) S hS
  have h1 : D_u_law_machine.run [.src S, .val (strsE W), .val (.int 6)] = .ok (.val M.enc, [.src S']) := h1
  exact ⟨M, S', by simp only [run_mk, List.map_cons, List.map_nil, List.length_cons, List.length_nil, List.cons_append, List.nil_append, List.replicate_succ, List.replicate_zero, Nat.reduceAdd, Nat.reduceSub, List.getElem?_cons_zero, List.getElem?_cons_succ, List.set_cons_zero, List.set_cons_succ, R.bind_ok, sCons, sNil, sIf, sRet, retL, dropL, sSet, setL, sDrop, sUnp, sPar, lNil, lCons, kF, putL, gN, gT, gAll, kC, kX, kD, kG, kS, scl, k1, k2, L.get, L.take, T.toD, aNil, aCons, kTup, kLst, bVal, bAnd, bOr, bNot, kAnd, kOr, kNot, kIf, boolOf, kCall, cNil, cV, cMv, cPass, lend, back, resL, outs, endOf, srcAt, kSGet, kSLen, kInt, SF.get, SF.put, bl, nm, if_true, if_false, Bool.false_eq_true, Bool.not_true, Bool.not_false, Q1, lwS, h1], h2, h3, h4⟩
theorem enc_sh (h : ML M) : pRepr M.enc = .ok (.d (.str M.enc.shown)) := sh (enc_fit h) (by decide) (by decide)
theorem q2_ok (h : MD M) (hR : Rch M Rs) : Q2 (lwS ns S v3 v5 (some (.val M.enc)) v7 v8 v9 v10 v11 v12) = .ok (.nx, lwS ns S v3 v5 (some (.val M.enc)) (some (.lst (Rs.map eN))) (some (.val (.str M.enc.shown))) v9 v10 v11 v12) := by
  have h1 := lcome_ok h.ok hR
  have h2 := enc_sh h.ml
  generalize M.enc = X at h1 h2 ⊢
  simp only [run_mk, List.map_cons, List.map_nil, List.length_cons, List.length_nil, List.cons_append, List.nil_append, List.replicate_succ, List.replicate_zero, Nat.reduceAdd, Nat.reduceSub, List.getElem?_cons_zero, List.getElem?_cons_succ, List.set_cons_zero, List.set_cons_succ, R.bind_ok, sCons, sNil, sIf, sRet, retL, dropL, sSet, setL, sDrop, sUnp, sPar, lNil, lCons, kF, putL, gN, gT, gAll, kC, kX, kD, kG, kS, scl, k1, k2, L.get, L.take, T.toD, aNil, aCons, kTup, kLst, bVal, bAnd, bOr, bNot, kAnd, kOr, kNot, kIf, boolOf, kCall, cNil, cV, cMv, cPass, lend, back, resL, outs, endOf, srcAt, kSGet, kSLen, kInt, SF.get, SF.put, bl, nm, if_true, if_false, Bool.false_eq_true, Bool.not_true, Bool.not_false, Q2, lwS, h1, h2]
theorem q3_ok (h : MD M) (hR : Rch M Rs) : Q3 (lwS ns S v3 v5 (some (.val M.enc)) (some (.lst (Rs.map eN))) v8 v9 v10 v11 v12) = .ok (.nx, lwS ns S v3 v5 (some (.val M.enc)) (some (.val (.list (Rs.map eN)))) v8 (some (.val (numM M Rs).enc)) v10 v11 v12) := by
  have h1 := lnum_ok h.ok hR h.y100
  generalize (numM M Rs).enc = Z at h1 ⊢
  generalize M.enc = X at h1 ⊢
  simp only [run_mk, List.map_cons, List.map_nil, List.length_cons, List.length_nil, List.cons_append, List.nil_append, List.replicate_succ, List.replicate_zero, Nat.reduceAdd, Nat.reduceSub, List.getElem?_cons_zero, List.getElem?_cons_succ, List.set_cons_zero, List.set_cons_succ, R.bind_ok, sCons, sNil, sIf, sRet, retL, dropL, sSet, setL, sDrop, sUnp, sPar, lNil, lCons, kF, putL, gN, gT, gAll, kC, kX, kD, kG, kS, scl, k1, k2, L.get, L.take, T.toD, aNil, aCons, kTup, kLst, bVal, bAnd, bOr, bNot, kAnd, kOr, kNot, kIf, boolOf, kCall, cNil, cV, cMv, cPass, lend, back, resL, outs, endOf, srcAt, kSGet, kSLen, kInt, SF.get, SF.put, bl, nm, if_true, if_false, Bool.false_eq_true, Bool.not_true, Bool.not_false, Q3, lwS, h1]
theorem Rs_fit (h : MD M) (hR : Rch M Rs) : fit 1 (60 * 21) (.tuple (Rs.map eN)) := fit_ns (k := 60) (fun x hx => by have := hR.cg.lt x hx; have := h.ok.b60; omega) (by have := hR.cg.len; have := h.ok.b60; omega)
theorem q4_ok (h : MD M) (hR : Rch M Rs) : Q4 (lwS ns S v3 v5 (some (.val M.enc)) (some (.val (.list (Rs.map eN)))) v8 v9 v10 v11 v12) = .ok (.nx, lwS ns S v3 v5 (some (.val M.enc)) (some (.val (.list (Rs.map eN)))) v8 v9 v10 v11 v12) := by
  have h1 := come_run_ok h.ok hR h.y100
  have h2 : pRepr (.tuple (Rs.map eN)) = .ok (.d (.str (PyData.tuple (Rs.map eN)).shown)) := sh (Rs_fit h hR) (by decide) (by decide)
  have p1 : pTuple (.list (Rs.map eN)) = .ok (.d (.tuple (Rs.map eN))) := rfl
  generalize M.enc = X at h1 ⊢
  simp only [run_mk, List.map_cons, List.map_nil, List.length_cons, List.length_nil, List.cons_append, List.nil_append, List.replicate_succ, List.replicate_zero, Nat.reduceAdd, Nat.reduceSub, List.getElem?_cons_zero, List.getElem?_cons_succ, List.set_cons_zero, List.set_cons_succ, R.bind_ok, sCons, sNil, sIf, sRet, retL, dropL, sSet, setL, sDrop, sUnp, sPar, lNil, lCons, kF, putL, gN, gT, gAll, kC, kX, kD, kG, kS, scl, k1, k2, L.get, L.take, T.toD, aNil, aCons, kTup, kLst, bVal, bAnd, bOr, bNot, kAnd, kOr, kNot, kIf, boolOf, kCall, cNil, cV, cMv, cPass, lend, back, resL, outs, endOf, srcAt, kSGet, kSLen, kInt, SF.get, SF.put, bl, nm, if_true, if_false, Bool.false_eq_true, Bool.not_true, Bool.not_false, Q4, lwS, h1, p1, h2, neS]
theorem q5_ok (h : MD M) (hR : Rch M Rs) : Q5 (lwS ns S v3 v5 (some (.val M.enc)) (some (.val (.list (Rs.map eN)))) v8 (some (.val (numM M Rs).enc)) v10 v11 v12) = .ok (.nx, lwS ns S v3 v5 (some (.val M.enc)) (some (.val (.list (Rs.map eN)))) v8 (some (.val (numM M Rs).enc)) v10 v11 v12) := by
  have h1 := num_run_ok h.ok hR h.y100
  have h2 : pRepr (.tuple [(numM M Rs).enc, .tuple (Rs.map eN)]) = .ok (.d (.str (PyData.tuple [(numM M Rs).enc, .tuple (Rs.map eN)]).shown)) := sh (n := 6) (m := 2 * (300000 + 1)) (fit_tup (n := 5) (m := 300000) (k := 2) (fun d hd => by
    simp only [List.mem_cons, List.not_mem_nil, or_false] at hd
    rcases hd with rfl | rfl
    · exact enc_fit (num_ml h hR)
    · exact (Rs_fit h hR).mono (by decide) (by decide)) (by simp)) (by decide) (by decide)
  have p1 : pTuple (.list (Rs.map eN)) = .ok (.d (.tuple (Rs.map eN))) := rfl
  generalize (numM M Rs).enc = Z at h1 h2 ⊢
  generalize M.enc = X at h1 ⊢
  simp only [run_mk, List.map_cons, List.map_nil, List.length_cons, List.length_nil, List.cons_append, List.nil_append, List.replicate_succ, List.replicate_zero, Nat.reduceAdd, Nat.reduceSub, List.getElem?_cons_zero, List.getElem?_cons_succ, List.set_cons_zero, List.set_cons_succ, R.bind_ok, sCons, sNil, sIf, sRet, retL, dropL, sSet, setL, sDrop, sUnp, sPar, lNil, lCons, kF, putL, gN, gT, gAll, kC, kX, kD, kG, kS, scl, k1, k2, L.get, L.take, T.toD, aNil, aCons, kTup, kLst, bVal, bAnd, bOr, bNot, kAnd, kOr, kNot, kIf, boolOf, kCall, cNil, cV, cMv, cPass, lend, back, resL, outs, endOf, srcAt, kSGet, kSLen, kInt, SF.get, SF.put, bl, nm, if_true, if_false, Bool.false_eq_true, Bool.not_true, Bool.not_false, Q5, lwS, h1, p1, h2, szOk2, neS]
theorem q6_ok (h : MD M) : Q6 (lwS ns S v3 v5 (some (.val M.enc)) v7 (some (.val (.str M.enc.shown))) v9 v10 v11 v12) = .ok (.nx, lwS ns S v3 v5 (some (.val M.enc)) v7 (some (.val (.str M.enc.shown))) v9 v10 v11 v12) := by
  have h2 := enc_sh h.ml
  generalize M.enc = X at h2 ⊢
  simp only [run_mk, List.map_cons, List.map_nil, List.length_cons, List.length_nil, List.cons_append, List.nil_append, List.replicate_succ, List.replicate_zero, Nat.reduceAdd, Nat.reduceSub, List.getElem?_cons_zero, List.getElem?_cons_succ, List.set_cons_zero, List.set_cons_succ, R.bind_ok, sCons, sNil, sIf, sRet, retL, dropL, sSet, setL, sDrop, sUnp, sPar, lNil, lCons, kF, putL, gN, gT, gAll, kC, kX, kD, kG, kS, scl, k1, k2, L.get, L.take, T.toD, aNil, aCons, kTup, kLst, bVal, bAnd, bOr, bNot, kAnd, kOr, kNot, kIf, boolOf, kCall, cNil, cV, cMv, cPass, lend, back, resL, outs, endOf, srcAt, kSGet, kSLen, kInt, SF.get, SF.put, bl, nm, if_true, if_false, Bool.false_eq_true, Bool.not_true, Bool.not_false, Q6, lwS, h2, neS]
/-! ### rows -/
theorem r0_ok (hS : Sok S) (hW : W = [] ∨ W = (["go"] : List Str) ∨ W = (["go", "stop"] : List Str)) :
    ∃ (row : List Str) (S' : Src), R0 (lwS ns S v3 (some (.val (strsE W))) v6 v7 v8 v9 v10 v11 none) = .ok (.nx, lwS ns S' v3 (some (.val (strsE W))) v6 v7 v8 v9 v10 (some (.val (strsE row))) none) ∧ (∀ x ∈ row, Sk x) ∧ row.length ≤ 7 ∧ Sok S' := by
  obtain ⟨r, S1, p1, p2, p3⟩ := pick S 7 hS (by decide) (by decide)
  have p1 : D_u_law_pick.run [.src S, .val (.int 7)] = .ok (.val (.int r), [.src S1]) := p1
  have hl : W.length ≤ 2 := by rcases hW with e | e | e <;> rw [e] <;> simp
  have us : ∀ x ∈ (["a", "b", "c", "a"] : List Str) ++ W, Sk x := fun x hx => sk_used (by
    rcases List.mem_append.mp hx with q | q
    · simp only [List.mem_cons, List.not_mem_nil, or_false] at q
      rcases q with rfl | rfl | rfl | rfl <;> simp [used]
    · rcases hW with e | e | e <;> rw [e] at q
      · cases q
      · simp only [List.mem_singleton] at q; subst q; simp [used]
      · simp only [List.mem_cons, List.not_mem_nil, or_false] at q
        rcases q with rfl | rfl <;> simp [used])
  have pl : pList (strsE W) = .ok (.t (.lst (W.map PyData.str))) := rfl
  have ad : pAdd (.list [.str "a", .str "b", .str "c", .str "a"]) (.list (W.map PyData.str)) = .ok (.t (.lst (.str "a" :: .str "b" :: .str "c" :: .str "a" :: W.map PyData.str))) := by
    rw [pAdd_ll (by rw [List.length_map]; simp; omega)]
    rfl
  have h := comp_inv0 (g := gN 12) (f := kCall (D_u_law_of).run (cMv 2 (cV (k2 pAdd (kLst (aCons (kC (.str "a")) (aCons (kC (.str "b")) (aCons (kC (.str "c")) (aCons (kC (.str "a")) aNil))))) (k1 pList (kX 5))) cNil))) (own := [12]) (ds := intR 0 r) (s := lwS ns S1 v3 (some (.val (strsE W))) v6 v7 v8 v9 v10 v11 none)
    (fun i acc s => ∃ (row : List Str) (S' : Src), acc = row.map PyData.str ∧ s = lwS ns S' v3 (some (.val (strsE W))) v6 v7 v8 v9 v10 v11 none ∧ row.length = i ∧ (∀ x ∈ row, Sk x) ∧ Sok S')
    ⟨[], S1, rfl, rfl, rfl, fun _ q => (nomatch q), p3⟩ (fun i x acc s hx ⟨row, S2, h1, h2, h3, h4, h5⟩ => by
      subst h1 h2
      obtain ⟨d, S3, h1, ⟨y, rfl, hy⟩, h3'⟩ := of2 S2 (((["a", "b", "c", "a"] : List Str) ++ W).map PyData.str) (P := fun d => ∃ x : Str, d = .str x ∧ x ∈ (["a", "b", "c", "a"] : List Str) ++ W) h5 (by simp) (by rw [List.length_map, List.length_append]; simp; omega) (fun d hd => by
        obtain ⟨x, hx, rfl⟩ := List.mem_map.mp hd
        exact ⟨x, rfl, hx⟩)
      have h1 : D_u_law_of.run [.src S2, .val (.list (.str "a" :: .str "b" :: .str "c" :: .str "a" :: W.map PyData.str))] = .ok (.val (.str y), [.src S3]) := h1
      simp only [run_mk, List.map_cons, List.map_nil, List.length_cons, List.length_nil, List.cons_append, List.nil_append, List.replicate_succ, List.replicate_zero, Nat.reduceAdd, Nat.reduceSub, List.getElem?_cons_zero, List.getElem?_cons_succ, List.set_cons_zero, List.set_cons_succ, R.bind_ok, sCons, sNil, sIf, sRet, retL, dropL, sSet, setL, sDrop, sUnp, sPar, lNil, lCons, kF, putL, gN, gT, gAll, kC, kX, kD, kG, kS, scl, k1, k2, L.get, L.take, T.toD, aNil, aCons, kTup, kLst, bVal, bAnd, bOr, bNot, kAnd, kOr, kNot, kIf, boolOf, kCall, cNil, cV, cMv, cPass, lend, back, resL, outs, endOf, srcAt, kSGet, kSLen, kInt, SF.get, SF.put, bl, nm, if_true, if_false, Bool.false_eq_true, Bool.not_true, Bool.not_false, lwS, wipeD, szOk4, pl, ad, h1, R.W_ok]
      exact ⟨row ++ [y], S3, by rw [List.map_append]; rfl, rfl, by rw [List.length_append, List.length_singleton, h3], fun z hz => by
        rcases List.mem_append.mp hz with q | q
        · exact h4 z q
        · rw [List.mem_singleton.mp q]; exact us y hy, h3'⟩)
  rw [intR_len] at h
  obtain ⟨⟨acc, s2⟩, e1, row, S', e2, e3, e4, e5, e6⟩ := R.W_get h
  simp only at e2 e3
  subst e2 e3
  have z : szOk (row.map PyData.str).length = true := szOk_of (by rw [List.length_map]; omega)
  have it : iRg1 (kCall (D_u_law_pick).run (cMv 2 (cV (kC (.int 7)) cNil))) (lwS ns S v3 (some (.val (strsE W))) v6 v7 v8 v9 v10 v11 none) = .ok (intR 0 r, lwS ns S1 v3 (some (.val (strsE W))) v6 v7 v8 v9 v10 v11 none) :=
    iRg1_it (by simp only [run_mk, List.map_cons, List.map_nil, List.length_cons, List.length_nil, List.cons_append, List.nil_append, List.replicate_succ, List.replicate_zero, Nat.reduceAdd, Nat.reduceSub, List.getElem?_cons_zero, List.getElem?_cons_succ, List.set_cons_zero, List.set_cons_succ, R.bind_ok, sCons, sNil, sIf, sRet, retL, dropL, sSet, setL, sDrop, sUnp, sPar, lNil, lCons, kF, putL, gN, gT, gAll, kC, kX, kD, kG, kS, scl, k1, k2, L.get, L.take, T.toD, aNil, aCons, kTup, kLst, bVal, bAnd, bOr, bNot, kAnd, kOr, kNot, kIf, boolOf, kCall, cNil, cV, cMv, cPass, lend, back, resL, outs, endOf, srcAt, kSGet, kSLen, kInt, SF.get, SF.put, bl, nm, if_true, if_false, Bool.false_eq_true, Bool.not_true, Bool.not_false, lwS, p1]) (by omega)
  have kc := kComp_it it e1 z
  have pt : pTuple (.list (row.map PyData.str)) = .ok (.d (strsE row)) := rfl
  refine ⟨row, S', ?_, e5, by omega, e6⟩
  unfold R0 sSet
  simp only [k1] at kc ⊢
  rw [kc]
  simp only [run_mk, List.map_cons, List.map_nil, List.length_cons, List.length_nil, List.cons_append, List.nil_append, List.replicate_succ, List.replicate_zero, Nat.reduceAdd, Nat.reduceSub, List.getElem?_cons_zero, List.getElem?_cons_succ, List.set_cons_zero, List.set_cons_succ, R.bind_ok, sCons, sNil, sIf, sRet, retL, dropL, sSet, setL, sDrop, sUnp, sPar, lNil, lCons, kF, putL, gN, gT, gAll, kC, kX, kD, kG, kS, scl, k1, k2, L.get, L.take, T.toD, aNil, aCons, kTup, kLst, bVal, bAnd, bOr, bNot, kAnd, kOr, kNot, kIf, boolOf, kCall, cNil, cV, cMv, cPass, lend, back, resL, outs, endOf, srcAt, kSGet, kSLen, kInt, SF.get, SF.put, bl, nm, if_true, if_false, Bool.false_eq_true, Bool.not_true, Bool.not_false, lwS, pt]
theorem r1_ok (h : MD M) (hR : Rch M Rs) {row : List Str} (hr : ∀ x ∈ row, Sk x) (hl : row.length ≤ 7) :
    R1 (lwS ns S v3 v5 (some (.val M.enc)) v7 v8 (some (.val (numM M Rs).enc)) v10 (some (.val (strsE row))) v12) = .ok (.nx, lwS ns S v3 v5 (some (.val M.enc)) v7 v8 (some (.val (numM M Rs).enc)) v10 (some (.val (strsE row))) v12) := by
  have a1 := answers_ok h.ok hr (by omega)
  have a2 := answers_ok (num_ok h.ok hR) hr (by omega)
  rw [num_ans h.ok hR hr] at a2
  have h2 : pRepr (.tuple ((ansF M row).map strsE)) = .ok (.d (.str (PyData.tuple ((ansF M row).map strsE)).shown)) := sh (n := 2) (m := 8 * (8 * 21 + 1)) (fit_tup (n := 1) (m := 8 * 21) (k := 8) (fun d hd => by
    obtain ⟨a, ha, rfl⟩ := List.mem_map.mp hd
    obtain ⟨b1, b2⟩ := ans_8 h.ok hr a ha
    exact fit_ss (k := 8) b2 b1) (by rw [List.length_map, ans_len]; omega)) (by decide) (by decide)
  generalize (numM M Rs).enc = Z at a2 ⊢
  generalize M.enc = X at a1 ⊢
  simp only [run_mk, List.map_cons, List.map_nil, List.length_cons, List.length_nil, List.cons_append, List.nil_append, List.replicate_succ, List.replicate_zero, Nat.reduceAdd, Nat.reduceSub, List.getElem?_cons_zero, List.getElem?_cons_succ, List.set_cons_zero, List.set_cons_succ, R.bind_ok, sCons, sNil, sIf, sRet, retL, dropL, sSet, setL, sDrop, sUnp, sPar, lNil, lCons, kF, putL, gN, gT, gAll, kC, kX, kD, kG, kS, scl, k1, k2, L.get, L.take, T.toD, aNil, aCons, kTup, kLst, bVal, bAnd, bOr, bNot, kAnd, kOr, kNot, kIf, boolOf, kCall, cNil, cV, cMv, cPass, lend, back, resL, outs, endOf, srcAt, kSGet, kSLen, kInt, SF.get, SF.put, bl, nm, if_true, if_false, Bool.false_eq_true, Bool.not_true, Bool.not_false, R1, lwS, a1, a2, h2, neS]
theorem tr_loop (h : MD M) (hR : Rch M Rs) (hW : W = [] ∨ W = (["go"] : List Str) ∨ W = (["go", "stop"] : List Str)) : ∀ {ks : List D} {S : Src} {v10 v11 : Option T}, Sok S → ∃ (S' : Src) (u10 u11 : Option T),
    forD (gN 10) trB ks (lwS ns S v3 (some (.val (strsE W))) (some (.val M.enc)) v7 v8 (some (.val (numM M Rs).enc)) v10 v11 none) = .ok (.nx, lwS ns S' v3 (some (.val (strsE W))) (some (.val M.enc)) v7 v8 (some (.val (numM M Rs).enc)) u10 u11 none) ∧ Sok S'
  | [], S, v10, v11, hS => ⟨S, v10, v11, rfl, hS⟩
  | k :: ks, S, v10, v11, hS => by
    obtain ⟨row, S1, h1, h2, h3, h4⟩ := r0_ok (ns := ns) (v3 := v3) (v6 := some (.val M.enc)) (v7 := v7) (v8 := v8) (v9 := some (.val (numM M Rs).enc)) (v10 := some (.val k)) (v11 := v11) hS hW
    obtain ⟨S', u10, u11, h5, h6⟩ := tr_loop h hR hW (ks := ks) (S := S1) (v10 := some (.val k)) (v11 := some (.val (strsE row))) h4
    refine ⟨S', u10, u11, ?_, h6⟩
    have g0 : gN 10 k (lwS ns S v3 (some (.val (strsE W))) (some (.val M.enc)) v7 v8 (some (.val (numM M Rs).enc)) v10 v11 none) = .ok (lwS ns S v3 (some (.val (strsE W))) (some (.val M.enc)) v7 v8 (some (.val (numM M Rs).enc)) (some (.val k)) v11 none) := rfl
    have t0 : trB (lwS ns S v3 (some (.val (strsE W))) (some (.val M.enc)) v7 v8 (some (.val (numM M Rs).enc)) (some (.val k)) v11 none) = .ok (.nx, lwS ns S1 v3 (some (.val (strsE W))) (some (.val M.enc)) v7 v8 (some (.val (numM M Rs).enc)) (some (.val k)) (some (.val (strsE row))) none) := by
      unfold trB
      rw [sCons_nx h1, sCons_nx (r1_ok h hR h2 h3)]
      rfl
    rw [forD_nx g0 t0 (.inl rfl), h5]
theorem q7_ok (h : MD M) (hR : Rch M Rs) (hW : W = [] ∨ W = (["go"] : List Str) ∨ W = (["go", "stop"] : List Str)) (hS : Sok S) : ∃ (S' : Src) (u10 u11 : Option T),
    Q7 (lwS ns S v3 (some (.val (strsE W))) (some (.val M.enc)) v7 v8 (some (.val (numM M Rs).enc)) v10 v11 none) = .ok (.nx, lwS ns S' v3 (some (.val (strsE W))) (some (.val M.enc)) v7 v8 (some (.val (numM M Rs).enc)) u10 u11 none) ∧ Sok S' := by
  obtain ⟨S', u10, u11, h5, h6⟩ := tr_loop (ns := ns) (v3 := v3) (v7 := v7) (v8 := v8) h hR hW (ks := intR 0 3) (S := S) (v10 := v10) (v11 := v11) hS
  refine ⟨S', u10, u11, ?_, h6⟩
  unfold Q7
  exact (sFor_it (iRg1_it (m := 3) rfl (by decide))).trans h5
theorem lap_ok (hS : Sok S) : ∃ (S' : Src) (u5 u6 u7 u8 u9 u10 u11 : Option T), lapB (lwS ns S v3 v5 v6 v7 v8 v9 v10 v11 none) = .ok (.nx, lwS ns S' v3 u5 u6 u7 u8 u9 u10 u11 none) ∧ Sok S' := by
  obtain ⟨W, S1, h1, hW, h2⟩ := q0_ok (ns := ns) (v3 := v3) (v5 := v5) (v6 := v6) (v7 := v7) (v8 := v8) (v9 := v9) (v10 := v10) (v11 := v11) (v12 := none) hS
  obtain ⟨M, S2, h3, h4, h5, h6⟩ := q1_ok (ns := ns) (v3 := v3) (v6 := v6) (v7 := v7) (v8 := v8) (v9 := v9) (v10 := v10) (v11 := v11) (v12 := none) h2 hW
  obtain ⟨Rs, hR⟩ := rch_ex h4.ok
  obtain ⟨S', u10, u11, h7, h8⟩ := q7_ok (ns := ns) (v3 := v3) (v7 := some (.val (.list (Rs.map eN)))) (v8 := some (.val (.str M.enc.shown))) (v10 := v10) (v11 := v11) h4 hR hW h6
  refine ⟨S', some (.val (strsE W)), some (.val M.enc), some (.val (.list (Rs.map eN))), some (.val (.str M.enc.shown)), some (.val (numM M Rs).enc), u10, u11, ?_, h8⟩
  unfold lapB
  rw [sCons_nx h1, sCons_nx h3, sCons_nx (q2_ok h4 hR), sCons_nx (q3_ok h4 hR), sCons_nx (q4_ok h4 hR), sCons_nx (q5_ok h4 hR), sCons_nx (q6_ok h4), sCons_nx h7]
  rfl
theorem laps_ok : ∀ {ks : List D} {S : Src} {v3 v5 v6 v7 v8 v9 v10 v11 : Option T}, Sok S → ∃ (S' : Src) (u3 u5 u6 u7 u8 u9 u10 u11 : Option T), forD (gN 3) lapB ks (lwS ns S v3 v5 v6 v7 v8 v9 v10 v11 none) = .ok (.nx, lwS ns S' u3 u5 u6 u7 u8 u9 u10 u11 none) ∧ Sok S'
  | [], S, v3, v5, v6, v7, v8, v9, v10, v11, hS => ⟨S, v3, v5, v6, v7, v8, v9, v10, v11, rfl, hS⟩
  | k :: ks, S, v3, v5, v6, v7, v8, v9, v10, v11, hS => by
    obtain ⟨S1, w5, w6, w7, w8, w9, w10, w11, h1, h2⟩ := lap_ok (ns := ns) (v3 := some (.val k)) (v5 := v5) (v6 := v6) (v7 := v7) (v8 := v8) (v9 := v9) (v10 := v10) (v11 := v11) hS
    obtain ⟨S', u3, u5, u6, u7, u8, u9, u10, u11, h5, h6⟩ := laps_ok (ks := ks) (S := S1) (v3 := some (.val k)) (v5 := w5) (v6 := w6) (v7 := w7) (v8 := w8) (v9 := w9) (v10 := w10) (v11 := w11) h2
    refine ⟨S', u3, u5, u6, u7, u8, u9, u10, u11, ?_, h6⟩
    have g0 : gN 3 k (lwS ns S v3 v5 v6 v7 v8 v9 v10 v11 none) = .ok (lwS ns S (some (.val k)) v5 v6 v7 v8 v9 v10 v11 none) := rfl
    rw [forD_nx g0 h1 (.inl rfl), h5]
end
end K11

set_option Elab.async false
set_option linter.all false
set_option maxRecDepth 100000
set_option maxHeartbeats 4000000
set_option pp.maxSteps 600
namespace K11
open PySem KV
/-! ### a ring of sixty, the end -/
def farE : D := .tuple [.tuple [], .tuple (List.replicate 60 (.int 0)), .tuple [.int 1, .int 59], .tuple ((List.range 60).map fun k => .tuple [.tuple [.tuple [], .int ((k + 1) % 60 : Nat), .tuple []]])]
def rngE : D := .tuple ((List.range 60).map eN)
theorem far_num : D_numbered_machine.run [.val farE, .tbs] = .ok (.val (.tuple [farE, rngE]), [.tbs]) := by kernel_rfl
theorem far_come : D_modes_come_to.run [.val farE, .tbs] = .ok (.val rngE, [.tbs]) := by kernel_rfl
theorem far_eq : pEq (.tuple [farE, rngE]) (.tuple [farE, rngE]) = .ok (.d (.bool true)) := by kernel_rfl
theorem rng_eq : pEq rngE rngE = .ok (.d (.bool true)) := by kernel_rfl
theorem e2_ok {S : Src} {ns : List Int} {v3 v5 v6 v7 v8 v9 v10 v11 : Option T} : E2 (lwS ns S v3 v5 v6 v7 v8 v9 v10 v11 none) = .ok (.nx, [some (.scr ns), some .tbs, some (.src S), v3, some (.val farE), v5, v6, v7, v8, v9, v10, v11, none]) := by kernel_rfl
theorem rng_it {S : Src} {ns : List Int} {v3 v5 v6 v7 v8 v9 v10 v11 : Option T} : kTR (iRg1 (kC (.int 60))) [some (.scr ns), some .tbs, some (.src S), v3, some (.val farE), v5, v6, v7, v8, v9, v10, v11, none] = .ok (.d rngE, [some (.scr ns), some .tbs, some (.src S), v3, some (.val farE), v5, v6, v7, v8, v9, v10, v11, none]) := by kernel_rfl
theorem e3_ok {S : Src} {ns : List Int} {v3 v5 v6 v7 v8 v9 v10 v11 : Option T} : E3 [some (.scr ns), some .tbs, some (.src S), v3, some (.val farE), v5, v6, v7, v8, v9, v10, v11, none] = .ok (.rt (.val (.bool true)), [some (.scr ns), some .tbs, some (.src S), v3, some (.val farE), v5, v6, v7, v8, v9, v10, v11, none]) := by
  have h1 := far_num
  have h2 := far_come
  have h3 := far_eq
  have h4 := rng_eq
  have h5 := rng_it (S := S) (ns := ns) (v3 := v3) (v5 := v5) (v6 := v6) (v7 := v7) (v8 := v8) (v9 := v9) (v10 := v10) (v11 := v11)
  generalize farE = F at h1 h2 h3 h5 ⊢
  generalize rngE = G at h1 h2 h3 h4 h5 ⊢
  simp only [run_mk, List.map_cons, List.map_nil, List.length_cons, List.length_nil, List.cons_append, List.nil_append, List.replicate_succ, List.replicate_zero, Nat.reduceAdd, Nat.reduceSub, List.getElem?_cons_zero, List.getElem?_cons_succ, List.set_cons_zero, List.set_cons_succ, R.bind_ok, sCons, sNil, sIf, sRet, retL, dropL, sSet, setL, sDrop, sUnp, sPar, lNil, lCons, kF, putL, gN, gT, gAll, kC, kX, kD, kG, kS, scl, k1, k2, L.get, L.take, T.toD, aNil, aCons, kTup, kLst, bVal, bAnd, bOr, bNot, kAnd, kOr, kNot, kIf, boolOf, kCall, cNil, cV, cMv, cPass, lend, back, resL, outs, endOf, srcAt, kSGet, kSLen, kInt, SF.get, SF.put, bl, nm, if_true, if_false, Bool.false_eq_true, Bool.not_true, Bool.not_false, E3, h1, h2, h5, szOk2, h3, h4]
theorem plain : ∀ ns : List Int, ns.length ≤ 63 → D_law.run [.scr ns, .tbs] = .ok (.val (.bool true), [.tbs]) := fun ns hn => by
  obtain ⟨S, h1, h2⟩ := source_ok ns hn
  obtain ⟨S', u3, u5, u6, u7, u8, u9, u10, u11, h3, h4⟩ := laps_ok (ns := ns) (ks := intR 0 4) (S := S) (v3 := none) (v5 := none) (v6 := none) (v7 := none) (v8 := none) (v9 := none) (v10 := none) (v11 := none) h2
  have e0 : E0 [some (.scr ns), some .tbs, none, none, none, none, none, none, none, none, none, none, none] = .ok (.nx, lwS ns S none none none none none none none none none) := by
    simp only [run_mk, List.map_cons, List.map_nil, List.length_cons, List.length_nil, List.cons_append, List.nil_append, List.replicate_succ, List.replicate_zero, Nat.reduceAdd, Nat.reduceSub, List.getElem?_cons_zero, List.getElem?_cons_succ, List.set_cons_zero, List.set_cons_succ, R.bind_ok, sCons, sNil, sIf, sRet, retL, dropL, sSet, setL, sDrop, sUnp, sPar, lNil, lCons, kF, putL, gN, gT, gAll, kC, kX, kD, kG, kS, scl, k1, k2, L.get, L.take, T.toD, aNil, aCons, kTup, kLst, bVal, bAnd, bOr, bNot, kAnd, kOr, kNot, kIf, boolOf, kCall, cNil, cV, cMv, cPass, lend, back, resL, outs, endOf, srcAt, kSGet, kSLen, kInt, SF.get, SF.put, bl, nm, if_true, if_false, Bool.false_eq_true, Bool.not_true, Bool.not_false, E0, lwS, h1]
  have e1 : E1 (lwS ns S none none none none none none none none none) = .ok (.nx, lwS ns S' u3 u5 u6 u7 u8 u9 u10 u11 none) := by
    unfold E1
    exact (sFor_it (iRg1_it (m := 4) rfl (by decide))).trans h3
  rw [law_def]
  refine run_rt (s1 := [some (.scr ns), some .tbs, some (.src S'), u3, some (.val farE), u5, u6, u7, u8, u9, u10, u11, none]) ?_ rfl
  show sCons E0 _ [some (.scr ns), some .tbs, none, none, none, none, none, none, none, none, none, none, none] = _
  rw [sCons_nx e0, sCons_nx e1, sCons_nx e2_ok]
  exact sCons_rt e3_ok
end K11

open PySem PySem.W PyProof.Rows
set_option maxRecDepth 100000 in
set_option maxHeartbeats 0 in
theorem PySem.Challenge.cw_keptvalues_k11_modes_as_they_are_come_to_holds : PySem.Challenge.rw_keptvalues_k11_modes_as_they_are_come_to.Holds := by
  w_on; o_law; k_head; (case hw => w_witness2)
  k_fill
  refine' KV.walkGT (l := PySem.Challenge.rw_keptvalues_k11_modes_as_they_are_come_to) (dl := K11.D_law) (k := 5) (nm := K11.nmF) (x := "script") rfl rfl ⟨rfl, by decide, by decide⟩ (fun w h Y => ⟨PySem.W.km_in_of Y, PySem.W.km_tabs_of Y _ (List.mem_cons_self ..)⟩) ?noT ?hdT ?F K11.plain rfl
  case F =>
    intro w mg fa h KX G hmg
    refine' K11.law_ok ⟨PySem.W.mg_none_of KX G ?z_int, PySem.W.mg_none_of KX G ?z_abs, PySem.W.mg_none_of KX G ?z_len, PySem.W.mg_none_of KX G ?z_max, PySem.W.mg_none_of KX G ?z_list, PySem.W.mg_none_of KX G ?z_range, PySem.W.mg_none_of KX G ?z_tuple, PySem.W.mg_none_of KX G ?z_enumerate, PySem.W.mg_none_of KX G ?z_repr, KV.cint_of KX G ?y_MOST_BOXES, KV.cint_of KX G ?y_MOST_TOLD, KV.cint_of KX G ?y_MOST_MODES⟩ hmg (K11.at_mk KX G ?a_u_law_source ?l_u_law_source ?c_u_law_source ?k_u_law_source fun _ _ _ _ _ _ us hl => match us, hl with | [_], _ => rfl) (K11.at_mk KX G ?a_u_law_pick ?l_u_law_pick ?c_u_law_pick ?k_u_law_pick fun _ _ _ _ _ _ us hl => match us, hl with | [_, _], _ => rfl) (K11.at_mk KX G ?a_u_law_of ?l_u_law_of ?c_u_law_of ?k_u_law_of fun _ _ _ _ _ _ us hl => match us, hl with | [_, _], _ => rfl) (K11.at_mk KX G ?a_u_law_words ?l_u_law_words ?c_u_law_words ?k_u_law_words fun _ _ _ _ _ _ us hl => match us, hl with | [_], _ => rfl) (K11.at_mk KX G ?a_u_law_mixed ?l_u_law_mixed ?c_u_law_mixed ?k_u_law_mixed fun _ _ _ _ _ _ us hl => match us, hl with | [_, _], _ => rfl) (K11.at_mk KX G ?a_u_law_machine ?l_u_law_machine ?c_u_law_machine ?k_u_law_machine fun _ _ _ _ _ _ us hl => match us, hl with | [_, _, _], _ => rfl) (K11.at_mk KX G ?a_u_law_numbered ?l_u_law_numbered ?c_u_law_numbered ?k_u_law_numbered fun _ _ _ _ _ _ us hl => match us, hl with | [_, _], _ => rfl) (K11.at_mk KX G ?a_u_law_come_to ?l_u_law_come_to ?c_u_law_come_to ?k_u_law_come_to fun _ _ _ _ _ _ us hl => match us, hl with | [_], _ => rfl) (K11.at_mk KX G ?a_made_machine ?l_made_machine ?c_made_machine ?k_made_machine fun _ _ _ _ _ _ us hl => match us, hl with | [_, _, _, _, _], _ => rfl) (K11.atC_mk KX G ?a_numbered_machine ?l_numbered_machine ?c_numbered_machine ?k_numbered_machine fun _ _ _ _ _ _ us hl => match us, hl with | [_], _ => rfl) (K11.at_mk KX G ?a_modes_come_to ?l_modes_come_to ?c_modes_come_to ?k_modes_come_to fun _ _ _ _ _ _ us hl => match us, hl with | [_], _ => rfl) (K11.at_mk KX G ?a_sign_at ?l_sign_at ?c_sign_at ?k_sign_at fun _ _ _ _ _ _ us hl => match us, hl with | [_, _, _], _ => rfl) (K11.at_mk KX G ?a_stand_behind ?l_stand_behind ?c_stand_behind ?k_stand_behind fun _ _ _ _ _ _ us hl => match us, hl with | [_, _, _], _ => rfl) (K11.at_mk KX G ?a_run_of ?l_run_of ?c_run_of ?k_run_of fun _ _ _ _ _ _ us hl => match us, hl with | [_, _], _ => rfl) (K11.at_mk KX G ?a_answers_of ?l_answers_of ?c_answers_of ?k_answers_of fun _ _ _ _ _ _ us hl => match us, hl with | [_, _], _ => rfl) (K11.at_mk KX G ?a_law ?l_law ?c_law ?k_law fun _ _ _ _ _ _ us hl => match us, hl with | [_], _ => rfl)
    (case z_int => k_is)
    (case z_abs => k_is)
    (case z_len => k_is)
    (case z_max => k_is)
    (case z_list => k_is)
    (case z_range => k_is)
    (case z_tuple => k_is)
    (case z_enumerate => k_is)
    (case z_repr => k_is)
    (case y_MOST_BOXES => k_is)
    (case y_MOST_TOLD => k_is)
    (case y_MOST_MODES => k_is)
    (case a_u_law_source => k_is); (case l_u_law_source => k_is); (case c_u_law_source => k_is); (case k_u_law_source => k_is)
    (case a_u_law_pick => k_is); (case l_u_law_pick => k_is); (case c_u_law_pick => k_is); (case k_u_law_pick => k_is)
    (case a_u_law_of => k_is); (case l_u_law_of => k_is); (case c_u_law_of => k_is); (case k_u_law_of => k_is)
    (case a_u_law_words => k_is); (case l_u_law_words => k_is); (case c_u_law_words => k_is); (case k_u_law_words => k_is)
    (case a_u_law_mixed => k_is); (case l_u_law_mixed => k_is); (case c_u_law_mixed => k_is); (case k_u_law_mixed => k_is)
    (case a_u_law_machine => k_is); (case l_u_law_machine => k_is); (case c_u_law_machine => k_is); (case k_u_law_machine => k_is)
    (case a_u_law_numbered => k_is); (case l_u_law_numbered => k_is); (case c_u_law_numbered => k_is); (case k_u_law_numbered => k_is)
    (case a_u_law_come_to => k_is); (case l_u_law_come_to => k_is); (case c_u_law_come_to => k_is); (case k_u_law_come_to => k_is)
    (case a_made_machine => k_is); (case l_made_machine => k_is); (case c_made_machine => k_is); (case k_made_machine => k_is)
    (case a_numbered_machine => k_is); (case l_numbered_machine => k_is); (case c_numbered_machine => k_is); (case k_numbered_machine => k_is)
    (case a_modes_come_to => k_is); (case l_modes_come_to => k_is); (case c_modes_come_to => k_is); (case k_modes_come_to => k_is)
    (case a_sign_at => k_is); (case l_sign_at => k_is); (case c_sign_at => k_is); (case k_sign_at => k_is)
    (case a_stand_behind => k_is); (case l_stand_behind => k_is); (case c_stand_behind => k_is); (case k_stand_behind => k_is)
    (case a_run_of => k_is); (case l_run_of => k_is); (case c_run_of => k_is); (case k_run_of => k_is)
    (case a_answers_of => k_is); (case l_answers_of => k_is); (case c_answers_of => k_is); (case k_answers_of => k_is)
    (case a_law => k_is); (case l_law => k_is); (case c_law => k_is); (case k_law => k_is)
  case noT => intro p; kernel_rfl
  case hdT => intro p; kernel_rfl

