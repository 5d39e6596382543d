import PyProof.Rows.All
import HandS.ForMost
import HandS.Walk
import HandS.Deep
import HandS.TupAny
import HandS.Strs
import HandS.Style
import HandS.Zip
import HandS.IsInst
import HandS.Wide
import HandS.Conv
import HandS.More
import HandS.RaiseMore
import HandS.TupMul
import KE.KStar
import KE.GoesEnum
import HandS.Ends
import HandS.Words
import HandS.HeadEnd
import HandS.LawCells
import HandS.TryOnly
import KE.KDictZip
import KE.KDictPairs
import PySem.Challenge.RW_keptvalues_k07_plain_runs
set_option Elab.async false
set_option linter.all false
set_option maxRecDepth 100000
/-! KVA: denotations. A def of the program becomes a plain function on slots that hold data. -/
namespace KV
open PySem L2

abbrev D := PyData

/-- what a denotation gives: a value, an exception, or no word about it -/
inductive R (α : Type) where
  | ok (a : α)
  | ex (c : Str) (ds : List PyData)
  | no
namespace R
variable {α β γ : Type}
def bind : R α → (α → R β) → R β
  | .ok a, f => f a
  | .ex c ds, _ => .ex c ds
  | .no, _ => .no
/-- it gives a value, and Q holds of it -/
def W : R α → (α → Prop) → Prop
  | .ok a, Q => Q a
  | .ex _ _, _ => False
  | .no, _ => False
@[simp] theorem bind_ok (a : α) (f : α → R β) : (R.ok a).bind f = f a := rfl
@[simp] theorem bind_no (f : α → R β) : (R.no : R α).bind f = .no := rfl
@[simp] theorem bind_ex (c : Str) (ds : List PyData) (f : α → R β) : (R.ex c ds : R α).bind f = .ex c ds := rfl
@[simp] theorem W_ok (a : α) (Q : α → Prop) : (R.ok a).W Q = Q a := rfl
@[simp] theorem W_no (Q : α → Prop) : (R.no : R α).W Q = False := rfl
@[simp] theorem W_ex (c : Str) (ds : List PyData) (Q : α → Prop) : (R.ex c ds : R α).W Q = False := rfl
theorem W_bind (r : R α) (f : α → R β) (Q : β → Prop) : (r.bind f).W Q = r.W (fun a => (f a).W Q) := by
  cases r <;> rfl
theorem bind_assoc (r : R α) (f : α → R β) (g : β → R γ) : (r.bind f).bind g = r.bind (fun a => (f a).bind g) := by
  cases r <;> rfl
theorem W_mono {r : R α} {Q Q' : α → Prop} (h : r.W Q) (hq : ∀ a, Q a → Q' a) : r.W Q' := by
  cases r with
  | ok a => exact hq a h
  | ex c ds => exact h
  | no => exact h
theorem W_iff {r : R α} {Q : α → Prop} : r.W Q ↔ ∃ a, r = .ok a ∧ Q a := by
  cases r with
  | ok a => exact ⟨fun h => ⟨a, rfl, h⟩, fun ⟨b, e, h⟩ => by cases e; exact h⟩
  | ex c ds => exact ⟨fun h => h.elim, fun ⟨b, e, h⟩ => nomatch e⟩
  | no => exact ⟨fun h => h.elim, fun ⟨b, e, h⟩ => nomatch e⟩
theorem bind_eq_ok {r : R α} {f : α → R β} {b : β} : r.bind f = .ok b ↔ ∃ a, r = .ok a ∧ f a = .ok b := by
  cases r with
  | ok a => exact ⟨fun h => ⟨a, rfl, h⟩, fun ⟨_, e, h⟩ => by cases e; exact h⟩
  | ex c ds => exact ⟨(fun h => nomatch h), (fun ⟨_, e, _⟩ => nomatch e)⟩
  | no => exact ⟨(fun h => nomatch h), (fun ⟨_, e, _⟩ => nomatch e)⟩
@[simp] theorem bind_ite (c : Prop) [Decidable c] (a b : R α) (f : α → R β) : (if c then a else b).bind f = if c then a.bind f else b.bind f := by
  split <;> rfl
@[simp] theorem W_ite (c : Prop) [Decidable c] (a b : R α) (Q : α → Prop) : (if c then a else b).W Q = if c then a.W Q else b.W Q := by
  split <;> rfl
end R

/-- the law's source of numbers -/
structure Src where
  cells : List Int
  left : Int
  mixed : Int
  turn : Int

/-- what a slot holds: a value that may be shared; a list, a dict of one's own; the source; a function -/
inductive T where
  | val (d : D)
  | lst (xs : List D)
  | dct (kvs : List (D × D))
  | src (s : Src)
  | scr (ns : List Int)
  | clo (n : Nat) (f : List D → R D)
abbrev Sl := List (Option T)
/-- a value on the way: data; what a slot owns; something new -/
inductive L where
  | d (x : D)
  | o (i : Nat)
  | t (x : T)
def T.toD : T → R D
  | .val d => .ok d
  | .lst xs => .ok (.list xs)
  | .dct kvs => .ok (.dict kvs)
  | _ => .no
/-- read -/
def L.get : L → Sl → R D
  | .d x, _ => .ok x
  | .o i, s => (match s[i]? with
    | some (some u) => u.toD
    | _ => .no)
  | .t x, _ => x.toD
/-- read for good: what was owned is shared from now on -/
def L.take : L → Sl → R (D × Sl)
  | .d x, s => .ok (x, s)
  | .o i, s => (match s[i]? with
    | some (some u) => u.toD.bind fun d => .ok (d, s.set i (some (.val d)))
    | _ => .no)
  | .t x, s => x.toD.bind fun d => .ok (d, s)
abbrev EV := Sl → R (L × Sl)
abbrev DV := Sl → R (D × Sl)
abbrev AV := Sl → R (List D × Sl)
abbrev BV := Sl → R (Bool × Sl)
inductive Fl where
  | nx | bk | ct
  | rt (t : T)
abbrev SV := Sl → R (Fl × Sl)
abbrev GV := D → Sl → R Sl

/-! ### expressions -/
def kC (d : D) : EV := fun s => .ok (.d d, s)
def kX (i : Nat) : EV := fun s => match s[i]? with
  | some (some (.val d)) => .ok (.d d, s)
  | some (some (.lst _)) => .ok (.o i, s)
  | some (some (.dct _)) => .ok (.o i, s)
  | _ => .no
/-- an expression's value, for good -/
def kD (f : EV) : DV := fun s => (f s).bind fun r => r.1.take r.2
/-- .., read now -/
def kG (f : EV) : DV := fun s => (f s).bind fun r => (r.1.get r.2).bind fun d => .ok (d, r.2)
def k1 (p : D → R L) (f : EV) : EV := fun s => (f s).bind fun r => (r.1.get r.2).bind fun d => (p d).bind fun l => .ok (l, r.2)
def k2 (p : D → D → R L) (f g : EV) : EV := fun s => (f s).bind fun r => (g r.2).bind fun q =>
  (r.1.get q.2).bind fun d => (q.1.get q.2).bind fun e => (p d e).bind fun l => .ok (l, q.2)
def aNil : AV := fun s => .ok ([], s)
def aCons (f : EV) (g : AV) : AV := fun s => (kD f s).bind fun r => (g r.2).bind fun q => .ok (r.1 :: q.1, q.2)
def seqOf : D → R (List D)
  | .list xs => .ok xs
  | .tuple xs => .ok xs
  | _ => .no
def aStar (f : EV) (g : AV) : AV := fun s => (kG f s).bind fun r => (seqOf r.1).bind fun xs => (g r.2).bind fun q => .ok (xs ++ q.1, q.2)
def szOk (n : Nat) : Bool := decide (n ≤ 16000000)
def kTup (g : AV) : EV := fun s => (g s).bind fun r => if szOk r.1.length then .ok (.d (.tuple r.1), r.2) else .no
def kLst (g : AV) : EV := fun s => (g s).bind fun r => if szOk r.1.length then .ok (.t (.lst r.1), r.2) else .no
def boolOf : D → R Bool
  | .bool b => .ok b
  | _ => .no
def kAnd (f g : EV) : EV := fun s => (kG f s).bind fun r => (boolOf r.1).bind fun b => if b then g r.2 else .ok (.d (.bool false), r.2)
def kOr (f g : EV) : EV := fun s => (kG f s).bind fun r => (boolOf r.1).bind fun b => if b then .ok (.d (.bool true), r.2) else g r.2
def kNot (f : EV) : EV := fun s => (kG f s).bind fun r => (boolOf r.1).bind fun b => .ok (.d (.bool !b), r.2)
def bVal (f : EV) : BV := fun s => (kG f s).bind fun r => (boolOf r.1).bind fun b => .ok (b, r.2)
def bAnd (f g : BV) : BV := fun s => (f s).bind fun r => if r.1 then g r.2 else .ok (false, r.2)
def bOr (f g : BV) : BV := fun s => (f s).bind fun r => if r.1 then .ok (true, r.2) else g r.2
def bNot (f : BV) : BV := fun s => (f s).bind fun r => .ok (!r.1, r.2)
def kIf (c : BV) (f g : EV) : EV := fun s => (c s).bind fun r => if r.1 then f r.2 else g r.2
/-- a number, a text -/
def scl : D → Bool
  | .int _ => true
  | .str _ => true
  | _ => false
def kS (f : EV) : DV := fun s => (kG f s).bind fun r => if scl r.1 then .ok r else .no
/-- a < b < c -/
def kChn (p q : D → D → R L) (f g h : EV) : EV := fun s => (kS f s).bind fun r => (kS g r.2).bind fun t => (p r.1 t.1).bind fun l => match l with
  | .d (.bool true) => (kS h t.2).bind fun u => (q t.1 u.1).bind fun m => .ok (m, u.2)
  | .d (.bool false) => .ok (.d (.bool false), t.2)
  | _ => .no

/-! ### what Python does on data -/
def bl (b : Bool) : R L := .ok (.d (.bool b))
def nm (i : Int) : R L := .ok (.d (.int i))
def pAdd : D → D → R L
  | .int a, .int b => nm (a + b)
  | .str a, .str b => if szOk (a.length + b.length) then .ok (.d (.str (a ++ b))) else .no
  | .tuple a, .tuple b => if szOk (a.length + b.length) then .ok (.d (.tuple (a ++ b))) else .no
  | .list a, .list b => if szOk (a.length + b.length) then .ok (.t (.lst (a ++ b))) else .no
  | _, _ => .no
def pSub : D → D → R L
  | .int a, .int b => nm (a - b)
  | _, _ => .no
def pMul : D → D → R L
  | .int a, .int b => if (-(2 ^ 64) < a ∧ a < 2 ^ 64) ∨ (-(2 ^ 64) < b ∧ b < 2 ^ 64) then nm (a * b) else .no
  | .tuple a, .int b => if 0 ≤ b ∧ b ≤ 1000 ∧ a.length ≤ 1000 then .ok (.d (.tuple (List.replicate b.toNat a).flatten)) else .no
  | .list a, .int b => if 0 ≤ b ∧ b ≤ 1000 ∧ a.length ≤ 1000 then .ok (.t (.lst (List.replicate b.toNat a).flatten)) else .no
  | _, _ => .no
def pMod : D → D → R L
  | .int a, .int b => if 0 < b then nm (a % b) else .no
  | _, _ => .no
def pDiv : D → D → R L
  | .int a, .int b => if 0 < b ∧ b < 1000000000 then nm (a / b) else .no
  | _, _ => .no
def pNeg : D → R L
  | .int a => nm (-a)
  | _ => .no
def eqOk (d : D) : Bool := SeqAt.shaped d
def pEq (d e : D) : R L := if eqOk d && eqOk e then bl (PyData.eqv d e) else .no
def pNe (d e : D) : R L := if eqOk d && eqOk e then bl (!PyData.eqv d e) else .no
def pLt : D → D → R L
  | .int a, .int b => bl (decide (a < b))
  | .str a, .str b => bl (decide (a.cps.toList < b.cps.toList))
  | _, _ => .no
def pLe : D → D → R L
  | .int a, .int b => bl (decide (a ≤ b))
  | .str a, .str b => bl (!decide (b.cps.toList < a.cps.toList))
  | _, _ => .no
def pGt : D → D → R L
  | .int a, .int b => bl (decide (b < a))
  | .str a, .str b => bl (decide (b.cps.toList < a.cps.toList))
  | _, _ => .no
def pGe : D → D → R L
  | .int a, .int b => bl (decide (b ≤ a))
  | .str a, .str b => bl (!decide (a.cps.toList < b.cps.toList))
  | _, _ => .no
def isNone : D → Bool
  | .none => true
  | _ => false
def pIsN (d : D) : R L := bl (isNone d)
def pNotN (d : D) : R L := bl (!isNone d)
/-- x is True (of a bool) -/
def pIsB (c : Bool) : D → R L
  | .bool b => bl (decide (b = c))
  | _ => .no
def pNotB (c : Bool) : D → R L
  | .bool b => bl (!decide (b = c))
  | _ => .no
def keyOf : D → Option Key
  | .int i => some (.inl i)
  | .str x => some (.inr x)
  | _ => none
def inB (d : D) (ds : List D) : Bool := ds.any fun z => PyData.eqv z d
def hasB (kvs : List (D × D)) (k : D) : Bool := kvs.any fun p => PyData.eqv p.1 k
def pIn : D → D → R L
  | d, .list ds => if eqOk d && eqOk (.list ds) then bl (inB d ds) else .no
  | d, .tuple ds => if eqOk d && eqOk (.tuple ds) then bl (inB d ds) else .no
  | d, .dict kvs => if (keyOf d).isSome then bl (hasB kvs d) else .no
  | .str a, .str b => bl (!(Builtin.Str.occurrences b a 0 b.length 1).isEmpty)
  | _, _ => .no
def pNotIn (d e : D) : R L := (pIn d e).bind fun l => match l with
  | .d (.bool b) => bl (!b)
  | _ => .no
/-- the place that an index tells -/
def ixD (n : Nat) (i : Int) : Option Nat := ixN n i
def lookD (kvs : List (D × D)) (k : D) : Option D := (kvs.find? fun p => PyData.eqv p.1 k).map (·.2)
def optD : Option D → R L
  | some d => .ok (.d d)
  | none => .no
def pIx : D → D → R L
  | .list xs, .int i => optD ((ixD xs.length i).bind fun j => xs[j]?)
  | .tuple xs, .int i => optD ((ixD xs.length i).bind fun j => xs[j]?)
  | .dict kvs, k => if (keyOf k).isSome then optD (lookD kvs k) else .no
  | _, _ => .no
def loOf (n : Nat) : Option Int → Nat
  | none => 0
  | some i => HT.sIx n 0 (some i)
def cutD (xs : List D) (lo hi : Option Int) : List D := (xs.drop (HT.sIx xs.length 0 lo)).take (HT.sIx xs.length xs.length hi - HT.sIx xs.length 0 lo)
def pSl (lo hi : Option Int) : D → R L
  | .list xs => .ok (.t (.lst (cutD xs lo hi)))
  | .tuple xs => .ok (.d (.tuple (cutD xs lo hi)))
  | _ => .no
def pRev : D → R L
  | .list xs => .ok (.t (.lst xs.reverse))
  | _ => .no
def pLen : D → R L
  | .list xs => nm xs.length
  | .tuple xs => nm xs.length
  | .dict kvs => nm kvs.length
  | .str x => if szOk x.length then nm x.length else .no
  | _ => .no
def pInt : D → R L
  | .int i => nm i
  | .bool b => nm (if b then 1 else 0)
  | _ => .no
def pAbs : D → R L
  | .int i => nm (if i < 0 then -i else i)
  | _ => .no
def pMax2 : D → D → R L
  | .int i, .int j => nm (if j > i then j else i)
  | _, _ => .no
def pMin2 : D → D → R L
  | .int i, .int j => nm (if j < i then j else i)
  | _, _ => .no
def pTuple : D → R L
  | .list xs => .ok (.d (.tuple xs))
  | .tuple xs => .ok (.d (.tuple xs))
  | _ => .no
def pList : D → R L
  | .list xs => .ok (.t (.lst xs))
  | .tuple xs => .ok (.t (.lst xs))
  | .dict kvs => .ok (.t (.lst (kvs.map (·.1))))
  | _ => .no
def showOk (d : D) : Bool := d.showable && decide (d.depth ≤ 64) && !d.hasDict && decide (d.shown.length ≤ sizeLine)
def pRepr (d : D) : R L := if showOk d then .ok (.d (.str d.shown)) else .no
def pStr : D → R L
  | .int i => if i.natAbs.log2 < 1920 then .ok (.d (.str (toString i))) else .no
  | .str x => .ok (.d (.str x))
  | _ => .no
def intsOf : List D → Option (List Int)
  | [] => some []
  | .int i :: r => (intsOf r).map (i :: ·)
  | _ :: _ => none
def boolsOf : List D → Option (List Bool)
  | [] => some []
  | .bool b :: r => (boolsOf r).map (b :: ·)
  | _ :: _ => none
def pSum : D → R L
  | .list xs => match intsOf xs with
    | some ns => nm ns.sum
    | none => .no
  | _ => .no
def pAll : D → R L
  | .list xs => match boolsOf xs with
    | some bs => bl (bs.all id)
    | none => .no
  | _ => .no
def tyOf : D → String
  | .none => "NoneType"
  | .bool _ => "bool"
  | .int _ => "int"
  | .str _ => "str"
  | .list _ => "list"
  | .tuple _ => "tuple"
  | .dict _ => "dict"
def pIsI (ty : String) (d : D) : R L := bl (tyOf d == ty || (ty == "int" && tyOf d == "bool"))
def firstAt (d : D) : List D → Option Nat
  | [] => none
  | z :: r => if PyData.eqv z d then some 0 else (firstAt d r).map (· + 1)
def pIndex : D → D → R L
  | .list ds, d => if eqOk d && eqOk (.list ds) then (match firstAt d ds with | some j => nm j | none => .no) else .no
  | .tuple ds, d => if eqOk d && eqOk (.tuple ds) then (match firstAt d ds with | some j => nm j | none => .no) else .no
  | _, _ => .no
/-- a key stored: its value changed where it stands, else put behind -/
def putD (kvs : List (D × D)) (k v : D) : List (D × D) :=
  if hasB kvs k then kvs.map fun p => if PyData.eqv p.1 k then (p.1, v) else p else kvs ++ [(k, v)]
def pairsOf : List D → Option (List (D × D))
  | [] => some []
  | .tuple [k, v] :: r => if (keyOf k).isSome then (pairsOf r).map ((k, v) :: ·) else none
  | _ :: _ => none
def mergeD (kvs : List (D × D)) : List (D × D) → List (D × D)
  | [] => kvs
  | (k, v) :: r => mergeD (putD kvs k v) r
/-- dict(list of pairs) -/
def pDict : D → R L
  | .list ds => match pairsOf ds with
    | some ps => .ok (.t (.dct (mergeD [] ps)))
    | none => .no
  | _ => .no
def pGet1 : D → D → R L
  | .dict kvs, k => if (keyOf k).isSome then .ok (.d ((lookD kvs k).getD .none)) else .no
  | _, _ => .no

/-- of one kind of sequence -/
def likeSeq : D → D → Bool
  | .list _, .list _ => true
  | .tuple _, .tuple _ => true
  | _, _ => false
/-- a.index(b) -/
def kIndex (f g : EV) : EV := fun s => (f s).bind fun r => (r.1.get r.2).bind fun d0 => (g r.2).bind fun q =>
  (r.1.get q.2).bind fun d => (q.1.get q.2).bind fun e => if likeSeq d0 d then (pIndex d e).bind fun l => .ok (l, q.2) else .no
def partOf : Option EV → Sl → R (Option Int × Sl)
  | none, s => .ok (none, s)
  | some f, s => (kG f s).bind fun r => match r.1 with
    | .int i => .ok (some i, r.2)
    | _ => .no
/-- a[lo:hi] -/
def kSl (f : EV) (lo hi : Option EV) : EV := fun s => (f s).bind fun r => (partOf lo r.2).bind fun a => (partOf hi a.2).bind fun b => (r.1.get b.2).bind fun d => (pSl a.1 b.1 d).bind fun l => .ok (l, b.2)
def isDct : D → Bool
  | .dict _ => true
  | _ => false
/-- d.get(k), d.get(k, x) -/
def kGet1 (f g : EV) : EV := fun s => (f s).bind fun r => (r.1.get r.2).bind fun d0 => if isDct d0 then (kS g r.2).bind fun q =>
  (r.1.get q.2).bind fun d => (match d with | .dict kvs => .ok (.d ((lookD kvs q.1).getD .none), q.2) | _ => .no) else .no
def kGet2 (f g h : EV) : EV := fun s => (f s).bind fun r => (r.1.get r.2).bind fun d0 => if isDct d0 then (kS g r.2).bind fun q => (kD h q.2).bind fun t =>
  (r.1.get t.2).bind fun d => (match d with | .dict kvs => .ok (.d ((lookD kvs q.1).getD t.1), t.2) | _ => .no) else .no

/-! ### calls -/
/-- a def: so many names, the places of the parameters that it changes, its body -/
structure Def where
  n : Nat
  io : List Nat
  body : SV
def outs (io : List Nat) (s : Sl) : R (List T) := match io with
  | [] => .ok []
  | i :: r => match s[i]? with
    | some (some t) => (outs r s).bind fun ts => .ok (t :: ts)
    | _ => .no
def endOf : Fl → R T
  | .nx => .ok (.val .none)
  | .rt t => .ok t
  | _ => .no
def Def.run (d : Def) (ts : List T) : R (T × List T) :=
  (d.body (ts.map some ++ List.replicate (d.n - ts.length) none)).bind fun r => (endOf r.1).bind fun t => (outs d.io r.2).bind fun os => .ok (t, os)
/-- an argument: a value; what a slot owns, to be changed; a function that a slot holds -/
inductive AR where
  | v (d : D)
  | io (i : Nat)
  | f (t : T)
abbrev CV := Sl → R (List AR × Sl)
def cNil : CV := fun s => .ok ([], s)
def cV (f : EV) (g : CV) : CV := fun s => (kD f s).bind fun r => (g r.2).bind fun q => .ok (.v r.1 :: q.1, q.2)
def cIo (i : Nat) (g : CV) : CV := fun s => (g s).bind fun q => .ok (.io i :: q.1, q.2)
/-- the arguments as the def gets them; the slots that are lent are empty meanwhile -/
def lend : List AR → Sl → R (List T × Sl)
  | [], s => .ok ([], s)
  | .v d :: r, s => (lend r s).bind fun q => .ok (.val d :: q.1, q.2)
  | .f t :: r, s => (lend r s).bind fun q => .ok (t :: q.1, q.2)
  | .io i :: r, s => match s[i]? with
    | some (some (.val _)) => .no
    | some (some t) => (lend r (s.set i none)).bind fun q => .ok (t :: q.1, q.2)
    | _ => .no
def back : List AR → List T → Sl → R Sl
  | [], [], s => .ok s
  | .io i :: r, t :: ts, s => back r ts (s.set i (some t))
  | .v _ :: r, ts, s => back r ts s
  | .f _ :: r, ts, s => back r ts s
  | _, _, _ => .no
def resL : T → L
  | .val d => .d d
  | t => .t t
def kCall (run : List T → R (T × List T)) (g : CV) : EV := fun s => (g s).bind fun q => (lend q.1 q.2).bind fun a => (run a.1).bind fun r =>
  (back q.1 r.2 a.2).bind fun s' => .ok (resL r.1, s')

/-! ### targets -/
def gN (i : Nat) : GV := fun d s => .ok (s.set i (some (.val d)))
def gAll : List GV → List D → Sl → R Sl
  | [], [], s => .ok s
  | g :: gs, d :: ds, s => (g d s).bind fun s' => gAll gs ds s'
  | _, _, _ => .no
def gT (gs : List GV) : GV := fun d s => match d with
  | .tuple ds => gAll gs ds s
  | _ => .no

/-! ### what is walked -/
abbrev IV := Sl → R (List D × Sl)
def iSeq (f : EV) : IV := fun s => (kD f s).bind fun r => (seqOf r.1).bind fun xs => .ok (xs, r.2)
def intR (lo : Int) (n : Nat) : List D := (List.range n).map fun i => .int (lo + (i : Nat))
def iRg1 (f : EV) : IV := fun s => (kD f s).bind fun r => match r.1 with
  | .int n => if n ≤ 16000000 ∧ -16000000 ≤ n then .ok (intR 0 n.toNat, r.2) else .no
  | _ => .no
def iRg2 (f g : EV) : IV := fun s => (kD f s).bind fun r => (kD g r.2).bind fun q => match r.1, q.1 with
  | .int a, .int b => if (-16000000 ≤ a ∧ a ≤ 16000000) ∧ (-16000000 ≤ b ∧ b ≤ 16000000) then .ok (intR a (b - a).toNat, q.2) else .no
  | _, _ => .no
def enumD (k : Nat) : List D → List D
  | [] => []
  | x :: r => .tuple [.int (k : Nat), x] :: enumD (k + 1) r
def iEnum (f : EV) : IV := fun s => (iSeq f s).bind fun r => .ok (enumD 0 r.1, r.2)
def zipD : List D → List D → List D
  | x :: r, y :: q => .tuple [x, y] :: zipD r q
  | _, _ => []
def iZip (f g : EV) : IV := fun s => (kD f s).bind fun r => (kD g r.2).bind fun q => match r.1, q.1 with
  | .list xs, .list ys => .ok (zipD xs ys, q.2)
  | .tuple xs, .tuple ys => .ok (zipD xs ys, q.2)
  | _, _ => .no

/-! ### statements -/
def sNil : SV := fun s => .ok (.nx, s)
def sCons (f g : SV) : SV := fun s => (f s).bind fun r => match r.1 with
  | .nx => g r.2
  | fl => .ok (fl, r.2)
/-- a value comes into a slot -/
def setL (i : Nat) : L → Sl → R Sl
  | .d x, s => .ok (s.set i (some (.val x)))
  | .t x, s => .ok (s.set i (some x))
  | .o j, s => match s[j]? with
    | some (some t) => .ok ((s.set j none).set i (some t))
    | _ => .no
def sSet (i : Nat) (f : EV) : SV := fun s => (f s).bind fun r => (setL i r.1 r.2).bind fun s' => .ok (.nx, s')
/-- a, b, .. = e -/
def sUnp (g : GV) (f : EV) : SV := fun s => (kD f s).bind fun r => (g r.1 r.2).bind fun s' => .ok (.nx, s')
/-- a, b = e, f -/
def sPar2 (i j : Nat) (f g : EV) : SV := fun s => (f s).bind fun r => (g r.2).bind fun q => (setL i r.1 q.2).bind fun s1 => (setL j q.1 s1).bind fun s2 => .ok (.nx, s2)
def sDrop (f : EV) : SV := fun s => (f s).bind fun r => .ok (.nx, r.2)
def retL : L → Sl → R T
  | .d x, _ => .ok (.val x)
  | .t x, _ => .ok x
  | .o j, s => match s[j]? with
    | some (some t) => .ok t
    | _ => .no
def dropL : L → Sl → Sl
  | .o j, s => s.set j none
  | _, s => s
def sRet (f : EV) : SV := fun s => (f s).bind fun r => (retL r.1 r.2).bind fun t => .ok (.rt t, dropL r.1 r.2)
def sRetN : SV := fun s => .ok (.rt (.val .none), s)
def sIf (c : BV) (f g : SV) : SV := fun s => (c s).bind fun r => if r.1 then f r.2 else g r.2
def sBrk : SV := fun s => .ok (.bk, s)
def sCnt : SV := fun s => .ok (.ct, s)
def forD (g : GV) (b : SV) : List D → SV
  | [], s => .ok (.nx, s)
  | x :: xs, s => (g x s).bind fun s1 => (b s1).bind fun r => match r.1 with
    | .nx => forD g b xs r.2
    | .ct => forD g b xs r.2
    | .bk => .ok (.nx, r.2)
    | .rt t => .ok (.rt t, r.2)
def sFor (it : IV) (g : GV) (b : SV) : SV := fun s => (it s).bind fun r => forD g b r.1 r.2
def whileD (c : BV) (b : SV) : Nat → SV
  | 0, _ => .no
  | n + 1, s => (c s).bind fun r => if r.1 then (b r.2).bind fun q => (match q.1 with
      | .nx => whileD c b n q.2
      | .ct => whileD c b n q.2
      | .bk => .ok (.nx, q.2)
      | .rt t => .ok (.rt t, q.2)) else .ok (.nx, r.2)
/-- so many turns at most -/
def fuel : Nat := 1000000
def sWhile (c : BV) (b : SV) : SV := whileD c b fuel
/-- x.append(e) -/
def sApp (i : Nat) (f : EV) : SV := fun s => (kD f s).bind fun r => match r.2[i]? with
  | some (some (.lst xs)) => if szOk (xs.length + 1) then .ok (.nx, r.2.set i (some (.lst (xs ++ [r.1])))) else .no
  | _ => .no
/-- x.extend(e), e a list or tuple that is not x -/
def sExt (i : Nat) (f : EV) : SV := fun s => (kD f s).bind fun r => (seqOf r.1).bind fun ys => match r.2[i]? with
  | some (some (.lst xs)) => if szOk (xs.length + ys.length) then .ok (.nx, r.2.set i (some (.lst (xs ++ ys)))) else .no
  | _ => .no
/-- x[k] = e -/
def sPut (i : Nat) (k f : EV) : SV := fun s => (kD f s).bind fun r => (kD k r.2).bind fun q => match q.2[i]? with
  | some (some (.lst xs)) => (match q.1 with
    | .int j => match ixD xs.length j with
      | some m => .ok (.nx, q.2.set i (some (.lst (xs.set m r.1))))
      | none => .no
    | _ => .no)
  | some (some (.dct kvs)) => if (keyOf q.1).isSome && szOk (kvs.length + 1) then .ok (.nx, q.2.set i (some (.dct (putD kvs q.1 r.1)))) else .no
  | _ => .no
/-- x.pop(), x.pop(k) -/
def kPop (i : Nat) : EV := fun s => match s[i]? with
  | some (some (.lst xs)) => match xs.getLast? with
    | some d => .ok (.d d, s.set i (some (.lst xs.dropLast)))
    | none => .no
  | _ => .no
def kPopI (i : Nat) (f : EV) : EV := fun s => (kD f s).bind fun r => match r.2[i]?, r.1 with
  | some (some (.lst xs)), .int j => if 0 ≤ j then (match xs[j.toNat]? with
    | some d => .ok (.d d, r.2.set i (some (.lst (xs.eraseIdx j.toNat))))
    | none => .no) else .no
  | _, _ => .no
/-- x += e of numbers, texts, tuples -/
def sAug (p : D → D → R L) (i : Nat) (f : EV) : SV := fun s => match s[i]? with
  | some (some (.val d)) => (kD f s).bind fun r => (p d r.1).bind fun l => match l with
    | .d x => .ok (.nx, r.2.set i (some (.val x)))
    | _ => .no
  | _ => .no

/-! ### comprehensions -/
def wipeD (s : Sl) : List Nat → Sl
  | [] => s
  | i :: r => (wipeD s r).set i none
def compD (g : GV) (c : Option BV) (f : EV) (own : List Nat) : List D → Sl → R (List D × Sl)
  | [], s => .ok ([], s)
  | x :: xs, s => (g x (wipeD s own)).bind fun s1 => (match c with | some b => b s1 | none => .ok (true, s1)).bind fun r =>
      if r.1 then (kD f r.2).bind fun q => (compD g c f own xs (wipeD q.2 own)).bind fun t => .ok (q.1 :: t.1, t.2)
      else compD g c f own xs (wipeD r.2 own)
def kComp (it : IV) (g : GV) (c : Option BV) (f : EV) (own : List Nat) : EV := fun s => (it s).bind fun r => (compD g c f own r.1 r.2).bind fun q =>
  if szOk q.1.length then .ok (.t (.lst q.1), q.2) else .no
end KV

set_option Elab.async false
set_option linter.all false
set_option maxRecDepth 100000
/-! KVB: what stands for what: values, slots, what a step leaves. -/
namespace KV
open PySem L2

def Sub (H H' : Hp) : Prop := ∀ a o, H a = some o → H' a = some o
theorem Sub.refl (H : Hp) : Sub H H := fun _ _ h => h
theorem Sub.trans {H H1 H2 : Hp} (a : Sub H H1) (b : Sub H1 H2) : Sub H H2 := fun x o h => b x o (a x o h)
theorem Sub.upd {H : Hp} {p : Addr} {o : HO} (h : H p = none) : Sub H (upd H p o) := fun a u e => by
  rw [upd_ne (ne_of_none e h)]; exact e
theorem Sub.updB {H H' : Hp} {p : Addr} {o : HO} (s : Sub H H') : Sub (L2.upd H p o) (L2.upd H' p o) := fun a u e => by
  by_cases h : a = p
  · subst h; rw [upd_same] at e ⊢; exact e
  · rw [upd_ne h] at e ⊢; exact s a u e
theorem Sub.rd {H H' : Hp} {a : Addr} {o : HO} (s : Sub H H') (h : Rd H a o) : Rd H' a o := by
  rcases h with h | ⟨u, h⟩
  · exact .inl (s _ _ h)
  · exact .inr ⟨u, s _ _ h⟩
theorem Sub.sqL {K : PySem.W.Frag} {H H' : Hp} {a : Addr} {xs : List V} (s : Sub H H') (h : SqL K H a xs) : SqL K H' a xs := by
  rcases h with h | h
  · exact .inl (s.rd h)
  · exact .inr h
theorem Sub.sqT {K : PySem.W.Frag} {H H' : Hp} {a : Addr} {xs : List V} (s : Sub H H') (h : SqT K H a xs) : SqT K H' a xs := by
  rcases h with h | h
  · exact .inl (s.rd h)
  · exact .inr h

/-- a tuple that stands, its object known to have no dict of its own -/
def STup (K : PySem.W.Frag) (H : Hp) (a : Addr) (vs : List V) : Prop :=
  (∃ o, H a = some (.frz o (.tup vs)) ∧ o.dict = none) ∨
    ∃ (o : Obj) (its : Array Value) (n : Nat), K.lookup a = some o ∧ o.cls = .type "tuple" ∧ o.dict = none ∧ o.data = .seq its n ∧ its.size ≤ sizeLine ∧ Vals vs its.toList
theorem Sub.stup {K : PySem.W.Frag} {H H' : Hp} {a : Addr} {xs : List V} (s : Sub H H') (h : STup K H a xs) : STup K H' a xs := by
  rcases h with ⟨o, h, d⟩ | h
  · exact .inl ⟨o, s _ _ h, d⟩
  · exact .inr h
theorem STup.sq {K : PySem.W.Frag} {H : Hp} {a : Addr} {xs : List V} (h : STup K H a xs) : SqT K H a xs := by
  rcases h with ⟨o, h, d⟩ | ⟨o, its, n, h1, h2, h3, h4, h5, h6⟩
  · exact .inl (.inr ⟨o, h⟩)
  · exact .inr ⟨o, its, n, h1, h2, h4, h5, h6⟩

def keyD : Key → D
  | .inl i => .int i
  | .inr x => .str x

mutual
/-- v stands for d in the heap H of what is shared -/
inductive Rp (K : PySem.W.Frag) (H : Hp) : V → D → Prop
  | non : Rp K H .non .none
  | bl (b : Bool) : Rp K H (.bl b) (.bool b)
  | int (i : Int) : Rp K H (.int i) (.int i)
  | str (x : Str) : Rp K H (.str x) (.str x)
  | lst {a : Addr} {vs : List V} {ds : List D} : H a = some (.lst vs) → RpA K H vs ds → Rp K H (.ref a) (.list ds)
  | tup {a : Addr} {vs : List V} {ds : List D} : STup K H a vs → RpA K H vs ds → Rp K H (.ref a) (.tuple ds)
  | dct {a : Addr} {kvs : List (Key × V)} {ds : List (D × D)} : H a = some (.dK kvs) → RpKv K H kvs ds → Rp K H (.ref a) (.dict ds)
inductive RpA (K : PySem.W.Frag) (H : Hp) : List V → List D → Prop
  | nil : RpA K H [] []
  | cons {v : V} {d : D} {vs : List V} {ds : List D} : Rp K H v d → RpA K H vs ds → RpA K H (v :: vs) (d :: ds)
inductive RpKv (K : PySem.W.Frag) (H : Hp) : List (Key × V) → List (D × D) → Prop
  | nil : RpKv K H [] []
  | cons {k : Key} {v : V} {d : D} {kvs : List (Key × V)} {ds : List (D × D)} : Rp K H v d → RpKv K H kvs ds → RpKv K H ((k, v) :: kvs) ((keyD k, d) :: ds)
end
section
variable {K : PySem.W.Frag} {H H' : Hp}
mutual
theorem Rp.mono (s : Sub H H') : ∀ {v : V} {d : D}, Rp K H v d → Rp K H' v d
  | _, _, .non => .non
  | _, _, .bl b => .bl b
  | _, _, .int i => .int i
  | _, _, .str x => .str x
  | _, _, .lst h r => .lst (s _ _ h) (RpA.mono s r)
  | _, _, .tup h r => .tup (s.stup h) (RpA.mono s r)
  | _, _, .dct h r => .dct (s _ _ h) (RpKv.mono s r)
theorem RpA.mono (s : Sub H H') : ∀ {vs : List V} {ds : List D}, RpA K H vs ds → RpA K H' vs ds
  | _, _, .nil => .nil
  | _, _, .cons h r => .cons (h.mono s) (RpA.mono s r)
theorem RpKv.mono (s : Sub H H') : ∀ {vs : List (Key × V)} {ds : List (D × D)}, RpKv K H vs ds → RpKv K H' vs ds
  | _, _, .nil => .nil
  | _, _, .cons h r => .cons (h.mono s) (RpKv.mono s r)
end
theorem RpA.length : ∀ {vs : List V} {ds : List D}, RpA K H vs ds → vs.length = ds.length
  | _, _, .nil => rfl
  | _, _, .cons _ r => by simp [RpA.length r]
theorem RpA.append : ∀ {vs ws : List V} {ds es : List D}, RpA K H vs ds → RpA K H ws es → RpA K H (vs ++ ws) (ds ++ es)
  | _, _, _, _, .nil, r => r
  | _, _, _, _, .cons h t, r => .cons h (RpA.append t r)
theorem RpA.get : ∀ {vs : List V} {ds : List D} {i : Nat} {d : D}, RpA K H vs ds → ds[i]? = some d → ∃ v, vs[i]? = some v ∧ Rp K H v d
  | _, _, _, _, .nil, e => by simp at e
  | _, _, 0, _, .cons h _, e => by simp at e; subst e; exact ⟨_, rfl, h⟩
  | _, _, i + 1, _, .cons _ t, e => by
    obtain ⟨v, h1, h2⟩ := RpA.get (i := i) t (by simpa using e)
    exact ⟨v, by simpa using h1, h2⟩
theorem RpA.drop : ∀ {vs : List V} {ds : List D} (n : Nat), RpA K H vs ds → RpA K H (vs.drop n) (ds.drop n)
  | _, _, 0, r => r
  | _, _, _ + 1, .nil => .nil
  | _, _, n + 1, .cons _ t => RpA.drop n t
theorem RpA.take : ∀ {vs : List V} {ds : List D} (n : Nat), RpA K H vs ds → RpA K H (vs.take n) (ds.take n)
  | _, _, 0, _ => .nil
  | _, _, _ + 1, .nil => .nil
  | _, _, n + 1, .cons h t => .cons h (RpA.take n t)
theorem RpA.rev : ∀ {vs : List V} {ds : List D}, RpA K H vs ds → RpA K H vs.reverse ds.reverse
  | _, _, .nil => .nil
  | _, _, .cons h t => by
    rw [List.reverse_cons, List.reverse_cons]
    exact RpA.append (RpA.rev t) (.cons h .nil)
theorem RpA.set {v : V} {d : D} (h : Rp K H v d) : ∀ {vs : List V} {ds : List D} (n : Nat), RpA K H vs ds → RpA K H (vs.set n v) (ds.set n d)
  | _, _, _, .nil => .nil
  | _, _, 0, .cons _ t => .cons h t
  | _, _, n + 1, .cons q t => .cons q (RpA.set h n t)
theorem RpA.erase : ∀ {vs : List V} {ds : List D} (n : Nat), RpA K H vs ds → RpA K H (vs.eraseIdx n) (ds.eraseIdx n)
  | _, _, _, .nil => .nil
  | _, _, 0, .cons _ t => t
  | _, _, n + 1, .cons q t => .cons q (RpA.erase n t)
theorem RpA.rep {vs : List V} {ds : List D} (h : RpA K H vs ds) : ∀ n : Nat, RpA K H (List.replicate n vs).flatten (List.replicate n ds).flatten
  | 0 => .nil
  | n + 1 => by
    rw [List.replicate_succ, List.replicate_succ, List.flatten_cons, List.flatten_cons]
    exact h.append (RpA.rep h n)
theorem RpA.dropLast : ∀ {vs : List V} {ds : List D}, RpA K H vs ds → RpA K H vs.dropLast ds.dropLast := fun {vs ds} h => by
  rw [List.dropLast_eq_take, List.dropLast_eq_take, h.length]
  exact h.take _
theorem RpKv.length : ∀ {vs : List (Key × V)} {ds : List (D × D)}, RpKv K H vs ds → vs.length = ds.length
  | _, _, .nil => rfl
  | _, _, .cons _ r => by simp [RpKv.length r]
end

/-- what is fixed: the written part; which functions may be called, and how they answer -/
structure Wd where
  K : PySem.W.Frag
  CL : Hp → V → Nat → (List D → R D) → Prop
  mono : ∀ {H H' : Hp} {v : V} {n : Nat} {f : List D → R D}, Sub H H' → CL H v n f → CL H' v n f

def srcKv (b : Addr) (S : Src) : List (Key × V) :=
  [(Sum.inr "cells", .ref b), (Sum.inr "left", .int S.left), (Sum.inr "mixed", .int S.mixed), (Sum.inr "turn", .int S.turn)]

/-- v stands for what is owned: at these places, told by H; Hf is what is shared -/
inductive OR (w : Wd) (Hf H : Hp) : V → T → List Addr → Prop
  | val {v : V} {d : D} : Rp w.K Hf v d → OR w Hf H v (.val d) []
  | lst {a : Addr} {vs : List V} {ds : List D} : H a = some (.lst vs) → RpA w.K Hf vs ds → OR w Hf H (.ref a) (.lst ds) [a]
  | dct {a : Addr} {kvs : List (Key × V)} {ds : List (D × D)} : H a = some (.dK kvs) → RpKv w.K Hf kvs ds → OR w Hf H (.ref a) (.dct ds) [a]
  | src {a b : Addr} {S : Src} : H a = some (.dK (srcKv b S)) → H b = some (.lst (S.cells.map V.int)) → OR w Hf H (.ref a) (.src S) [a, b]
  | clo {v : V} {n : Nat} {f : List D → R D} : w.CL Hf v n f → OR w Hf H v (.clo n f) []
  | scr {a : Addr} {ns : List Int} : SqL w.K Hf a (ns.map V.int) → OR w Hf H (.ref a) (.scr ns) []
section
variable {w : Wd} {Hf Hf' H H' : Hp} {v : V} {t : T} {F : List Addr}
theorem OR.there (h : OR w Hf H v t F) : ∀ a ∈ F, ∃ o, H a = some o := by
  cases h with
  | val _ => intro a ha; cases ha
  | lst h _ => intro a ha; rw [List.mem_singleton] at ha; subst ha; exact ⟨_, h⟩
  | dct h _ => intro a ha; rw [List.mem_singleton] at ha; subst ha; exact ⟨_, h⟩
  | src h1 h2 =>
    intro a ha
    rcases List.mem_cons.mp ha with e | ha
    · subst e; exact ⟨_, h1⟩
    · rw [List.mem_singleton] at ha; subst ha; exact ⟨_, h2⟩
  | clo _ => intro a ha; cases ha
  | scr _ => intro a ha; cases ha
theorem OR.stay (h : OR w Hf H v t F) (s : Sub Hf Hf') (k : ∀ a ∈ F, ∀ o, H a = some o → H' a = some o) : OR w Hf' H' v t F := by
  cases h with
  | val r => exact .val (r.mono s)
  | lst h r => exact .lst (k _ (by simp) _ h) (r.mono s)
  | dct h r => exact .dct (k _ (by simp) _ h) (r.mono s)
  | src h1 h2 => exact .src (k _ (by simp) _ h1) (k _ (by simp) _ h2)
  | clo c => exact .clo (w.mono s c)
  | scr c => exact .scr (s.sqL c)
end

/-- whose it is -/
def Own (s : Sl) (φ : Nat → List Addr) (a : Addr) : Prop := ∃ i t, s[i]? = some (some t) ∧ a ∈ φ i
structure Good (w : Wd) (σ : St) (H Hf : Hp) (s : Sl) (φ : Nat → List Addr) : Prop where
  sub : Sub Hf H
  len : s.length = σ.length
  here : ∀ i t, s[i]? = some (some t) → ∃ v, σ[i]? = some (some v) ∧ OR w Hf H v t (φ i)
  fr : ∀ i t a, s[i]? = some (some t) → a ∈ φ i → Hf a = none
  dj : ∀ i j t u a, s[i]? = some (some t) → s[j]? = some (some u) → a ∈ φ i → a ∈ φ j → i = j
structure Stp (H Hf : Hp) (P : Addr → Prop) (H' Hf' : Hp) (P' : Addr → Prop) : Prop where
  sub : Sub Hf Hf'
  keep : ∀ a o, H a = some o → ¬ P a → H' a = some o
  new : ∀ a, (P' a ∨ Hf' a ≠ none) → P a ∨ Hf a ≠ none ∨ H a = none
theorem Stp.refl {H Hf : Hp} {P : Addr → Prop} : Stp H Hf P H Hf P := ⟨Sub.refl _, fun _ _ h _ => h, fun _ h => h.elim .inl fun h => .inr (.inl h)⟩
theorem Stp.trans {H Hf H1 Hf1 H2 Hf2 : Hp} {P P1 P1' P2 : Addr → Prop} (a : Stp H Hf P H1 Hf1 P1') (b : Stp H1 Hf1 P1 H2 Hf2 P2) (hp : ∀ x, P1 x → P1' x) (hf : ∀ x, P1 x → Hf1 x = none) : Stp H Hf P H2 Hf2 P2 := by
  refine ⟨a.sub.trans b.sub, fun x o h hn => b.keep x o (a.keep x o h hn) fun hx => ?_, fun x hx => ?_⟩
  · rcases a.new x (.inl (hp x hx)) with h1 | h1 | h1
    · exact hn h1
    · cases e : Hf x with
      | none => exact h1 e
      | some u =>
        have := a.sub x u e
        rw [hf x hx] at this; cases this
    · rw [h] at h1; cases h1
  · rcases b.new x hx with h1 | h1 | h1
    · exact a.new x (.inl (hp x h1))
    · exact a.new x (.inr h1)
    · by_cases hP : P x
      · exact .inl hP
      · cases e : H x with
        | none => exact .inr (.inr rfl)
        | some u => rw [a.keep x u e hP] at h1; cases h1
theorem Stp.weak {H Hf H' Hf' : Hp} {P P' P2 : Addr → Prop} (a : Stp H Hf P H' Hf' P') (hp : ∀ x, P2 x → P' x) : Stp H Hf P H' Hf' P2 :=
  ⟨a.sub, a.keep, fun x h => a.new x (h.imp (hp x) id)⟩
section
variable {w : Wd} {σ : St} {H Hf H' Hf' : Hp} {s s' : Sl} {φ φ' : Nat → List Addr}
theorem Good.own_some (g : Good w σ H Hf s φ) {a : Addr} (h : Own s φ a) : ∃ o, H a = some o := by
  obtain ⟨i, t, e, m⟩ := h
  obtain ⟨v, _, r⟩ := g.here i t e
  exact r.there a m
theorem Good.own_free (g : Good w σ H Hf s φ) {a : Addr} (h : Own s φ a) : Hf a = none := by
  obtain ⟨i, t, e, m⟩ := h
  exact g.fr i t a e m
theorem Good.own_ne (g : Good w σ H Hf s φ) {a : Addr} (h : H a = none) : ¬ Own s φ a := fun q => by
  obtain ⟨o, e⟩ := g.own_some q
  rw [h] at e; cases e
theorem Good.hf_none (g : Good w σ H Hf s φ) {a : Addr} (h : H a = none) : Hf a = none := by
  cases e : Hf a with
  | none => rfl
  | some u => rw [g.sub a u e] at h; cases h

/-- a value on the way -/
inductive RL (w : Wd) (σ : St) (Hf H : Hp) (s : Sl) (φ : Nat → List Addr) : V → L → List Addr → Prop
  | d {v : V} {x : D} : Rp w.K Hf v x → RL w σ Hf H s φ v (.d x) []
  | o {v : V} {i : Nat} : σ[i]? = some (some v) → RL w σ Hf H s φ v (.o i) []
  | t {v : V} {x : T} {F : List Addr} : OR w Hf H v x F → (∀ a ∈ F, Hf a = none ∧ ¬ Own s φ a) → RL w σ Hf H s φ v (.t x) F
theorem RL.stay {v : V} {l : L} {F : List Addr} {P' : Addr → Prop} (r : RL w σ Hf H s φ v l F) (k : Stp H Hf (Own s φ) H' Hf' P') (hp : ∀ a, Own s' φ' a → P' a) : RL w σ Hf' H' s' φ' v l F := by
  cases r with
  | d r => exact .d (r.mono k.sub)
  | o e => exact .o e
  | t r c =>
    refine .t (r.stay k.sub fun a ha o e => k.keep a o e (c a ha).2) fun a ha => ?_
    obtain ⟨o, e⟩ := r.there a ha
    have no : ¬ (P' a ∨ Hf' a ≠ none) := fun q => by
      rcases k.new a q with h1 | h1 | h1
      · exact (c a ha).2 h1
      · exact h1 (c a ha).1
      · rw [e] at h1; cases h1
    refine ⟨?_, fun q => no (.inl (hp a q))⟩
    cases q : Hf' a with
    | none => rfl
    | some u => exact (no (.inr (by rw [q]; simp))).elim

/-- a value that may be read now, its parts shared -/
inductive Rw (K : PySem.W.Frag) (Hf H : Hp) : V → D → Prop
  | st {v : V} {d : D} : Rp K Hf v d → Rw K Hf H v d
  | lst {a : Addr} {vs : List V} {ds : List D} : H a = some (.lst vs) → RpA K Hf vs ds → Rw K Hf H (.ref a) (.list ds)
  | dct {a : Addr} {kvs : List (Key × V)} {ds : List (D × D)} : H a = some (.dK kvs) → RpKv K Hf kvs ds → Rw K Hf H (.ref a) (.dict ds)
theorem OR.rw {v : V} {t : T} {F : List Addr} {d : D} (h : OR w Hf H v t F) (e : t.toD = .ok d) : Rw w.K Hf H v d := by
  cases h with
  | val r => cases e; exact .st r
  | lst h r => cases e; exact .lst h r
  | dct h r => cases e; exact .dct h r
  | src _ _ => cases e
  | clo _ => cases e
  | scr _ => cases e
theorem RL.rw {v : V} {l : L} {F : List Addr} {d : D} (r : RL w σ Hf H s φ v l F) (g : Good w σ H Hf s φ) (e : l.get s = .ok d) : Rw w.K Hf H v d := by
  cases r with
  | d r => cases e; exact .st r
  | o h =>
    rename_i i
    simp only [L.get] at e
    split at e
    · rename_i u hu
      obtain ⟨v', e1, r⟩ := g.here i u hu
      rw [h] at e1; cases e1
      exact r.rw e
    · cases e
  | t r c => exact r.rw e
theorem Rw.tup {K : PySem.W.Frag} {v : V} {ds : List D} (r : Rw K Hf H v (.tuple ds)) (s : Sub Hf H) : ∃ a vs, v = .ref a ∧ STup K H a vs ∧ RpA K Hf vs ds := by
  cases r with
  | st r => cases r with
    | tup h r => exact ⟨_, _, rfl, s.stup h, r⟩
theorem Rw.list {K : PySem.W.Frag} {v : V} {ds : List D} (r : Rw K Hf H v (.list ds)) (s : Sub Hf H) : ∃ a vs, v = .ref a ∧ H a = some (.lst vs) ∧ RpA K Hf vs ds := by
  cases r with
  | st r => cases r with
    | lst h r => exact ⟨_, _, rfl, s _ _ h, r⟩
  | lst h r => exact ⟨_, _, rfl, h, r⟩
theorem Rw.dict {K : PySem.W.Frag} {v : V} {ds : List (D × D)} (r : Rw K Hf H v (.dict ds)) (s : Sub Hf H) : ∃ a kvs, v = .ref a ∧ H a = some (.dK kvs) ∧ RpKv K Hf kvs ds := by
  cases r with
  | st r => cases r with
    | dct h r => exact ⟨_, _, rfl, s _ _ h, r⟩
  | dct h r => exact ⟨_, _, rfl, h, r⟩
theorem Rw.tupR {K : PySem.W.Frag} {v : V} {ds : List D} (r : Rw K Hf H v (.tuple ds)) : Rp K Hf v (.tuple ds) := by
  cases r with
  | st r => exact r
theorem Rw.int {K : PySem.W.Frag} {v : V} {i : Int} (r : Rw K Hf H v (.int i)) : v = .int i := by
  cases r with
  | st r => cases r; rfl
theorem Rw.str {K : PySem.W.Frag} {v : V} {x : Str} (r : Rw K Hf H v (.str x)) : v = .str x := by
  cases r with
  | st r => cases r; rfl
theorem Rw.bool {K : PySem.W.Frag} {v : V} {b : Bool} (r : Rw K Hf H v (.bool b)) : v = .bl b := by
  cases r with
  | st r => cases r; rfl
theorem Rw.none {K : PySem.W.Frag} {v : V} (r : Rw K Hf H v .none) : v = .non := by
  cases r with
  | st r => cases r; rfl

/-! ### new objects -/
theorem Good.updH (g : Good w σ H Hf s φ) {p : Addr} {o : HO} (h : H p = none) : Good w σ (upd H p o) Hf s φ := by
  refine ⟨g.sub.trans (Sub.upd h), g.len, fun i t e => ?_, g.fr, g.dj⟩
  obtain ⟨v, e1, r⟩ := g.here i t e
  exact ⟨v, e1, r.stay (Sub.refl _) fun a _ o e => Sub.upd h a o e⟩
theorem Good.updB (g : Good w σ H Hf s φ) {p : Addr} {o : HO} (h : H p = none) : Good w σ (upd H p o) (upd Hf p o) s φ := by
  have hf := g.hf_none h
  refine ⟨Sub.updB g.sub, g.len, fun i t e => ?_, fun i t a e m => ?_, g.dj⟩
  · obtain ⟨v, e1, r⟩ := g.here i t e
    exact ⟨v, e1, r.stay (Sub.upd hf) fun a _ o e => Sub.upd h a o e⟩
  · have : a ≠ p := fun z => g.own_ne h ⟨i, t, e, z ▸ m⟩
    rw [upd_ne this]
    exact g.fr i t a e m
theorem Stp.updH {P P' : Addr → Prop} {p : Addr} {o : HO} (h : H p = none) (hp : ∀ a, P' a → P a ∨ a = p) : Stp H Hf P (upd H p o) Hf P' :=
  ⟨Sub.refl _, fun a u e _ => Sub.upd h a u e, fun a q => q.elim (fun q => (hp a q).elim .inl fun z => .inr (.inr (z ▸ h))) fun q => .inr (.inl q)⟩
theorem Stp.updB {P : Addr → Prop} {p : Addr} {o : HO} (h : H p = none) (hf : Hf p = none) : Stp H Hf P (upd H p o) (upd Hf p o) P :=
  ⟨Sub.upd hf, fun a u e _ => Sub.upd h a u e, fun a q => q.elim .inl fun q => by
    by_cases z : a = p
    · exact .inr (.inr (z ▸ h))
    · rw [upd_ne z] at q; exact .inr (.inl q)⟩

/-- what follows an expression's value -/
def PQ (w : Wd) (σ : St) (H Hf : Hp) (s : Sl) (φ : Nat → List Addr) (s' : Sl) (l : L) (Q : VK) : Prop :=
  ∀ v H' Hf' φ' F, Good w σ H' Hf' s' φ' → RL w σ Hf' H' s' φ' v l F → Stp H Hf (Own s φ) H' Hf' (fun a => Own s' φ' a ∨ a ∈ F) → Q v H'
theorem PQ.d {v : V} {x : D} {Q : VK} (q : PQ w σ H Hf s φ s (.d x) Q) (g : Good w σ H Hf s φ) (r : Rp w.K Hf v x) : Q v H :=
  q v H Hf φ [] g (.d r) (Stp.refl.weak fun a h => h.elim id fun z => nomatch z)
theorem PQ.tup {vs : List V} {ds : List D} {Q : VK} {p : Addr} (q : PQ w σ H Hf s φ s (.d (.tuple ds)) Q) (g : Good w σ H Hf s φ) (r : RpA w.K Hf vs ds) (h : H p = none) {o : Obj} (ho : o.dict = none) : Q (.ref p) (upd H p (.frz o (.tup vs))) := by
  have hf := g.hf_none h
  exact q _ _ (upd Hf p (.frz o (.tup vs))) φ [] (g.updB h) (.d (.tup (.inl ⟨o, upd_same, ho⟩) (r.mono (Sub.upd hf)))) ((Stp.updB h hf).weak fun a h => h.elim id fun z => nomatch z)
theorem PQ.lst {vs : List V} {ds : List D} {Q : VK} {p : Addr} (q : PQ w σ H Hf s φ s (.t (.lst ds)) Q) (g : Good w σ H Hf s φ) (r : RpA w.K Hf vs ds) (h : H p = none) : Q (.ref p) (upd H p (.lst vs)) :=
  q _ _ Hf φ [p] (g.updH h) (.t (.lst upd_same r) fun a ha => by
    rw [List.mem_singleton] at ha; subst ha
    exact ⟨g.hf_none h, g.own_ne h⟩) (Stp.updH h fun a z => z.imp id fun z => by simpa using z)
theorem PQ.dct {kvs : List (Key × V)} {ds : List (D × D)} {Q : VK} {p : Addr} (q : PQ w σ H Hf s φ s (.t (.dct ds)) Q) (g : Good w σ H Hf s φ) (r : RpKv w.K Hf kvs ds) (h : H p = none) : Q (.ref p) (upd H p (.dK kvs)) :=
  q _ _ Hf φ [p] (g.updH h) (.t (.dct upd_same r) fun a ha => by
    rw [List.mem_singleton] at ha; subst ha
    exact ⟨g.hf_none h, g.own_ne h⟩) (Stp.updH h fun a z => z.imp id fun z => by simpa using z)
/-- the rest of a way, behind a first part -/
theorem PQ.later {Q : VK} {l : L} {s1 : Sl} {H1 Hf1 : Hp} {φ1 : Nat → List Addr} {P1 : Addr → Prop} (q : PQ w σ H Hf s φ s' l Q) (k : Stp H Hf (Own s φ) H1 Hf1 P1) (hp : ∀ a, Own s1 φ1 a → P1 a) (g1 : Good w σ H1 Hf1 s1 φ1) : PQ w σ H1 Hf1 s1 φ1 s' l Q :=
  fun v H' Hf' φ' F g r k' => q v H' Hf' φ' F g r (k.trans k' hp fun x hx => g1.own_free hx)

/-! ### for good: what was owned is shared -/
theorem freeze_slot (g : Good w σ H Hf s φ) {i : Nat} {t : T} {d : D} (h : s[i]? = some (some t)) (e : t.toD = .ok d) :
    ∃ v Hf', σ[i]? = some (some v) ∧ Rp w.K Hf' v d ∧ Good w σ H Hf' (s.set i (some (.val d))) (fun j => if j = i then [] else φ j) ∧
      Stp H Hf (Own s φ) H Hf' (Own (s.set i (some (.val d))) (fun j => if j = i then [] else φ j)) := by
  obtain ⟨v, e1, r⟩ := g.here i t h
  have hi : i < s.length := (List.getElem?_eq_some_iff.mp h).1
  have get : ∀ {j u}, (s.set i (some (.val d)))[j]? = some (some u) → j = i ∧ u = .val d ∨ j ≠ i ∧ s[j]? = some (some u) := fun {j u} q => by
    by_cases z : j = i
    · subst z
      rw [List.getElem?_set_self hi] at q
      cases q
      exact .inl ⟨rfl, rfl⟩
    · rw [List.getElem?_set_ne (Ne.symm z)] at q
      exact .inr ⟨z, q⟩
  have core : ∀ Hf', Sub Hf Hf' → Sub Hf' H → Rp w.K Hf' v d → (∀ a, Hf' a ≠ none → Hf a ≠ none ∨ a ∈ φ i) →
      Good w σ H Hf' (s.set i (some (.val d))) (fun j => if j = i then [] else φ j) ∧ Stp H Hf (Own s φ) H Hf' (Own (s.set i (some (.val d))) (fun j => if j = i then [] else φ j)) := by
    intro Hf' s1 s2 rp nw
    refine ⟨⟨s2, by rw [List.length_set]; exact g.len, fun j u q => ?_, fun j u a q m => ?_, fun j k u u' a q1 q2 m1 m2 => ?_⟩, s1, fun a o q _ => q, fun a q => ?_⟩
    · rcases get q with ⟨z, rfl⟩ | ⟨z, q⟩
      · subst z; rw [if_pos rfl]; exact ⟨v, e1, .val rp⟩
      · rw [if_neg z]
        obtain ⟨v', e2, r2⟩ := g.here j u q
        exact ⟨v', e2, r2.stay s1 fun a _ o e => e⟩
    · rcases get q with ⟨z, rfl⟩ | ⟨z, q⟩
      · simp only [if_pos z] at m; cases m
      · simp only [if_neg z] at m
        cases q2 : Hf' a with
        | none => rfl
        | some o =>
          rcases nw a (by rw [q2]; simp) with q3 | q3
          · exact (q3 (g.fr j u a q m)).elim
          · exact (z (g.dj j i u t a q h m q3)).elim
    · rcases get q1 with ⟨z, rfl⟩ | ⟨z, q1⟩
      · simp only [if_pos z] at m1; cases m1
      · rcases get q2 with ⟨z2, rfl⟩ | ⟨z2, q2⟩
        · simp only [if_pos z2] at m2; cases m2
        · simp only [if_neg z] at m1; simp only [if_neg z2] at m2
          exact g.dj j k u u' a q1 q2 m1 m2
    · rcases q with ⟨j, u, q, m⟩ | q
      · rcases get q with ⟨z, rfl⟩ | ⟨z, q⟩
        · simp only [if_pos z] at m; cases m
        · simp only [if_neg z] at m; exact .inl ⟨j, u, q, m⟩
      · rcases nw a q with q | q
        · exact .inr (.inl q)
        · exact .inl ⟨i, t, h, q⟩
  have one : ∀ (a : Addr) (o : HO), φ i = [a] → H a = some o → Sub Hf (upd Hf a o) ∧ Sub (upd Hf a o) H ∧ ∀ x, upd Hf a o x ≠ none → Hf x ≠ none ∨ x ∈ φ i := by
    intro a o ea ha
    have hn : Hf a = none := g.fr i t a h (by rw [ea]; simp)
    refine ⟨Sub.upd hn, fun x u q => ?_, fun x q => ?_⟩
    · by_cases z : x = a
      · subst z; rw [upd_same] at q; cases q; exact ha
      · rw [upd_ne z] at q; exact g.sub x u q
    · by_cases z : x = a
      · right; rw [ea, z]; simp
      · rw [upd_ne z] at q; exact .inl q
  generalize hF : φ i = F at r
  cases r with
  | val r =>
    cases e
    obtain ⟨c1, c2⟩ := core Hf (Sub.refl _) g.sub r fun a q => .inl q
    exact ⟨v, Hf, e1, r, c1, c2⟩
  | lst ha r =>
    cases e
    obtain ⟨o1, o2, o3⟩ := one _ _ hF ha
    have rp : Rp w.K (upd Hf _ (.lst _)) (.ref _) (.list _) := .lst upd_same (r.mono o1)
    obtain ⟨c1, c2⟩ := core _ o1 o2 rp o3
    exact ⟨_, _, e1, rp, c1, c2⟩
  | dct ha r =>
    cases e
    obtain ⟨o1, o2, o3⟩ := one _ _ hF ha
    have rp : Rp w.K (upd Hf _ (.dK _)) (.ref _) (.dict _) := .dct upd_same (r.mono o1)
    obtain ⟨c1, c2⟩ := core _ o1 o2 rp o3
    exact ⟨_, _, e1, rp, c1, c2⟩
  | src _ _ => cases e
  | clo _ => cases e
  | scr _ => cases e
/-- behind a value for good -/
theorem RL.take {v : V} {l : L} {F : List Addr} {d : D} {s1 : Sl} (r : RL w σ Hf H s φ v l F) (g : Good w σ H Hf s φ) (e : l.take s = .ok (d, s1)) :
    ∃ Hf' φ', Rp w.K Hf' v d ∧ Good w σ H Hf' s1 φ' ∧ Stp H Hf (fun a => Own s φ a ∨ a ∈ F) H Hf' (Own s1 φ') := by
  cases r with
  | d r =>
    cases e
    exact ⟨Hf, φ, r, g, Stp.refl.weak fun a h => .inl h⟩
  | o h =>
    rename_i i
    simp only [L.take] at e
    split at e
    · rename_i u hu
      obtain ⟨d', e1, e2⟩ := R.bind_eq_ok.mp e
      cases e2
      obtain ⟨v', Hf', h1, h2, h3, h4⟩ := freeze_slot g hu e1
      rw [h] at h1; cases h1
      refine ⟨Hf', _, h2, h3, h4.sub, fun a o q hn => q, fun a q => ?_⟩
      rcases h4.new a q with q | q | q
      · exact .inl (.inl q)
      · exact .inr (.inl q)
      · exact .inr (.inr q)
    · cases e
  | t r c =>
    rename_i x
    simp only [L.take] at e
    obtain ⟨d', e1, e2⟩ := R.bind_eq_ok.mp e
    cases e2
    have core : ∀ (a : Addr) (o : HO), F = [a] → H a = some o → Good w σ H (upd Hf a o) s φ ∧ Stp H Hf (fun a => Own s φ a ∨ a ∈ F) H (upd Hf a o) (Own s φ) := by
      intro a o ea ha
      obtain ⟨hn, no⟩ := c a (by rw [ea]; simp)
      refine ⟨⟨fun x u q => ?_, g.len, fun i t q => ?_, fun i t x q m => ?_, g.dj⟩, Sub.upd hn, fun x u q _ => q, fun x q => ?_⟩
      · by_cases z : x = a
        · subst z; rw [upd_same] at q; cases q; exact ha
        · rw [upd_ne z] at q; exact g.sub x u q
      · obtain ⟨v', h1, h2⟩ := g.here i t q
        exact ⟨v', h1, h2.stay (Sub.upd hn) fun _ _ _ e => e⟩
      · have z : x ≠ a := fun z => no ⟨i, t, q, z ▸ m⟩
        rw [upd_ne z]; exact g.fr i t x q m
      · rcases q with q | q
        · exact .inl (.inl q)
        · by_cases z : x = a
          · exact .inl (.inr (by rw [ea, z]; simp))
          · rw [upd_ne z] at q; exact .inr (.inl q)
    cases r with
    | val r => cases e1; exact ⟨Hf, φ, r, g, Stp.refl.weak fun a h => .inl h⟩
    | lst ha r =>
      cases e1
      obtain ⟨c1, c2⟩ := core _ _ rfl ha
      exact ⟨_, _, .lst upd_same (r.mono c2.sub), c1, c2⟩
    | dct ha r =>
      cases e1
      obtain ⟨c1, c2⟩ := core _ _ rfl ha
      exact ⟨_, _, .dct upd_same (r.mono c2.sub), c1, c2⟩
    | src _ _ => cases e1
    | clo _ => cases e1
    | scr _ => cases e1
end
end KV

set_option Elab.async false
set_option linter.all false
set_option maxRecDepth 100000
/-! KVC: expressions: each rule says that the denotation is right. -/
namespace KV
open PySem L2
open PySem.Spec PyProof.Rows

/-- what an expression's reading asks -/
def tE (w : Wd) (f : EV) : TE := fun σ H Q => ∃ Hf s φ l s', Good w σ H Hf s φ ∧ f s = .ok (l, s') ∧ PQ w σ H Hf s φ s' l Q
def tB (w : Wd) (f : BV) : TT := fun σ H Q => ∃ Hf s φ b s', Good w σ H Hf s φ ∧ f s = .ok (b, s') ∧
  ∀ H' Hf' φ', Good w σ H' Hf' s' φ' → Stp H Hf (Own s φ) H' Hf' (Own s' φ') → Q b H'
def tA (w : Wd) (g : AV) : TA := fun σ H Q => ∃ Hf s φ ds s', Good w σ H Hf s φ ∧ g s = .ok (ds, s') ∧
  ∀ vs H' Hf' φ', Good w σ H' Hf' s' φ' → RpA w.K Hf' vs ds → Stp H Hf (Own s φ) H' Hf' (Own s' φ') → Q vs H'
abbrev GE (w : Wd) (X : Cx) (e : Expr) (f : EV) : Prop := PE X e (tE w f)
abbrev GB (w : Wd) (X : Cx) (e : Expr) (f : BV) : Prop := PT X e (tB w f)
abbrev GW (w : Wd) (X : Cx) (e : Expr) (f : BV) : Prop := PW X e (tB w f)
abbrev GA (w : Wd) (X : Cx) (es : List Expr) (f : AV) : Prop := PA X es (tA w f)

theorem pe_imp {X : Cx} {e : Expr} {t t' : TE} (h : PE X e t) (i : ∀ σ H Q, t' σ H Q → t σ H Q) : PE X e t' := ⟨fun pins s σ H Q I q => h.run pins s σ H Q I (i σ H Q q)⟩
theorem pt_imp {X : Cx} {e : Expr} {t t' : TT} (h : PT X e t) (i : ∀ σ H Q, t' σ H Q → t σ H Q) : PT X e t' := ⟨fun pins s σ H Q I q => h.run pins s σ H Q I (i σ H Q q)⟩
theorem pw_imp {X : Cx} {e : Expr} {t t' : TT} (h : PW X e t) (i : ∀ σ H Q, t' σ H Q → t σ H Q) : PW X e t' := ⟨fun wh pins s σ H Q I q => h.run wh pins s σ H Q I (i σ H Q q)⟩
theorem pa_imp {X : Cx} {e : List Expr} {t t' : TA} (h : PA X e t) (i : ∀ σ H Q, t' σ H Q → t σ H Q) : PA X e t' := ⟨fun pos pins s σ H Q I q => h.run pos pins s σ H Q I (i σ H Q q)⟩

section
variable {w : Wd} {X : Cx} {pos : Pos} {σ : L2.St} {H Hf : Hp} {s s' : Sl} {φ : Nat → List Addr} {Q : VK}

/-! ### constants, names -/
theorem tE_c {d : D} {v : V} (r : ∀ Hf, Rp w.K Hf v d) : tE w (kC d) σ H Q → Q v H := by
  rintro ⟨Hf, s, φ, l, s', g, e, q⟩
  cases e
  exact q.d g (r _)
theorem ge_int {i : Int} {j : Nat} : GE w X (.Constant (.int i) j pos) (kC (.int i)) := pe_imp pe_int fun _ _ _ h => tE_c (fun _ => .int i) h
theorem ge_bl {b : Bool} {j : Nat} : GE w X (.Constant (.bool b) j pos) (kC (.bool b)) := pe_imp pe_bl fun _ _ _ h => tE_c (fun _ => .bl b) h
theorem ge_non {j : Nat} : GE w X (.Constant .none j pos) (kC .none) := pe_imp pe_non fun _ _ _ h => tE_c (fun _ => .non) h
theorem ge_str {x : Str} {j : Nat} : GE w X (.Constant (.str x) j pos) (kC (.str x)) := pe_imp pe_str fun _ _ _ h => tE_c (fun _ => .str x) h
/-- a constant of the module -/
theorem ge_glob {x : Str} {d : D} {v : V} {u : Value} (r : ∀ Hf, Rp w.K Hf v d) (hm : X.mg x = some u) (ru : RelV v u) (hg : Gl X x := by rfl) (hd : (x == ("__debug__" : Str)) = false := by decide) : GE w X (.Name x pos) (kC d) :=
  pe_imp (pe_glob hg hm ru hd) fun _ _ _ h => tE_c r h
theorem ge_v (i : Nat) {x : Str} (hN : X.N[i]? = some x := by rfl) (hv : Vis X.env.scope x := by first | exact Or.inl rfl | exact Or.inr (Or.inl rfl) | exact Or.inr (Or.inr rfl)) (hd : (x == ("__debug__" : Str)) = false := by decide)
    (hcd : (x == ("__classdict__" : Str)) = false := by decide) : GE w X (.Name x pos) (kX i) := by
  refine pe_imp (pe_var hN hv hd hcd) fun σ H Q => ?_
  rintro ⟨Hf, s, φ, l, s', g, e, q⟩
  unfold kX at e
  split at e
  · rename_i d hd
    cases e
    obtain ⟨v, e1, r⟩ := g.here i _ hd
    refine ⟨v, e1, ?_⟩
    generalize φ i = F at r
    cases r with
    | val r => exact q.d g r
  · rename_i d hd
    cases e
    obtain ⟨v, e1, _⟩ := g.here i _ hd
    exact ⟨v, e1, q v H Hf φ [] g (.o e1) (Stp.refl.weak fun a h => h.elim id fun z => nomatch z)⟩
  · rename_i d hd
    cases e
    obtain ⟨v, e1, _⟩ := g.here i _ hd
    exact ⟨v, e1, q v H Hf φ [] g (.o e1) (Stp.refl.weak fun a h => h.elim id fun z => nomatch z)⟩
  · cases e

/-! ### one part, two parts -/
/-- a reading of one value, by its data -/
def U1 (w : Wd) (r : V → Hp → VK → Prop) (p : D → R L) : Prop := ∀ (σ : L2.St) (H Hf : Hp) (s : Sl) (φ : Nat → List Addr) (v : V) (d : D) (l : L) (Q : VK),
  Good w σ H Hf s φ → Rw w.K Hf H v d → p d = .ok l → PQ w σ H Hf s φ s l Q → r v H Q
def U2 (w : Wd) (r : R2) (p : D → D → R L) : Prop := ∀ (σ : L2.St) (H Hf : Hp) (s : Sl) (φ : Nat → List Addr) (v u : V) (d e : D) (l : L) (Q : VK),
  Good w σ H Hf s φ → Rw w.K Hf H v d → Rw w.K Hf H u e → p d e = .ok l → PQ w σ H Hf s φ s l Q → r v u H Q
/-- first a part, then what follows -/
theorem tE_then {f : EV} {l : L} {s1 : Sl} {k : V → Hp → Prop} (g : Good w σ H Hf s φ) (e : f s = .ok (l, s1)) (h : PQ w σ H Hf s φ s1 l (fun v H1 => k v H1)) : tE w f σ H k :=
  ⟨Hf, s, φ, l, s1, g, e, h⟩
theorem k1_ok {p : D → R L} {f : EV} {l : L} (h : k1 p f s = .ok (l, s')) : ∃ l1 d, f s = .ok (l1, s') ∧ l1.get s' = .ok d ∧ p d = .ok l := by
  obtain ⟨⟨l1, s1⟩, h1, h2⟩ := R.bind_eq_ok.mp h
  obtain ⟨d, h3, h4⟩ := R.bind_eq_ok.mp h2
  obtain ⟨l2, h5, h6⟩ := R.bind_eq_ok.mp h4
  cases h6
  exact ⟨l1, d, h1, h3, h5⟩
theorem k2_ok {p : D → D → R L} {f g : EV} {l : L} (h : k2 p f g s = .ok (l, s')) : ∃ l1 s1 l2 d e, f s = .ok (l1, s1) ∧ g s1 = .ok (l2, s') ∧ l1.get s' = .ok d ∧ l2.get s' = .ok e ∧ p d e = .ok l := by
  obtain ⟨⟨l1, s1⟩, h1, h2⟩ := R.bind_eq_ok.mp h
  obtain ⟨⟨l2, s2⟩, h3, h4⟩ := R.bind_eq_ok.mp h2
  obtain ⟨d, h5, h6⟩ := R.bind_eq_ok.mp h4
  obtain ⟨e, h7, h8⟩ := R.bind_eq_ok.mp h6
  obtain ⟨l3, h9, h10⟩ := R.bind_eq_ok.mp h8
  cases h10
  exact ⟨l1, s1, l2, d, e, h1, h3, h5, h7, h9⟩
theorem tE_1 {r : V → Hp → VK → Prop} {p : D → R L} {f : EV} (u : U1 w r p) (h : tE w (k1 p f) σ H Q) : tE w f σ H (fun v H1 => r v H1 Q) := by
  obtain ⟨Hf, s, φ, l, s', g, e, q⟩ := h
  obtain ⟨l1, d, h1, h2, h3⟩ := k1_ok e
  refine ⟨Hf, s, φ, l1, s', g, h1, fun v H1 Hf1 φ1 F1 g1 r1 k1 => ?_⟩
  exact u σ H1 Hf1 s' φ1 v d l Q g1 (r1.rw g1 h2) h3 (q.later k1 (fun a => .inl) g1)
theorem tE_2 {r : R2} {p : D → D → R L} {f f' : EV} (u : U2 w r p) (h : tE w (k2 p f f') σ H Q) : tE w f σ H (fun v H1 => tE w f' σ H1 (fun v' H2 => r v v' H2 Q)) := by
  obtain ⟨Hf, s, φ, l, s', g, e, q⟩ := h
  obtain ⟨l1, s1, l2, d, d', h1, h2, h3, h4, h5⟩ := k2_ok e
  refine ⟨Hf, s, φ, l1, s1, g, h1, fun v H1 Hf1 φ1 F1 g1 r1 k1 => ⟨Hf1, s1, φ1, l2, s', g1, h2, fun v' H2 Hf2 φ2 F2 g2 r2 k2 => ?_⟩⟩
  have r1' := r1.stay (s' := s') (φ' := φ2) k2 fun a => .inl
  exact u σ H2 Hf2 s' φ2 v v' d d' l Q g2 (r1'.rw g2 h3) (r2.rw g2 h4) h5 ((q.later k1 (fun a => .inl) g1).later k2 (fun a => .inl) g2)
theorem ge_op {op : Operator} {r : R2} {p : D → D → R L} {a b : Expr} {f f' : EV} (ho : OpR X (binaryOp op) r) (u : U2 w r p) (ha : GE w X a f) (hb : GE w X b f') : GE w X (.BinOp a op b pos) (k2 p f f') :=
  pe_imp (pe_op ho ha hb) fun _ _ _ h => tE_2 u h
theorem ge_cmp {op : CmpOp} {r : R2} {p : D → D → R L} {a b : Expr} {f f' : EV} (ho : OpR X (compareOp op) r) (u : U2 w r p) (ha : GE w X a f) (hb : GE w X b f') (hm : behindInMarks op b = false := by rfl) : GE w X (.Compare a [op] [b] pos) (k2 p f f') :=
  pe_imp (pe_cmpR ho ha hb hm) fun _ _ _ h => tE_2 u h
theorem ge_un {op : UnaryOp} {r : V → Hp → VK → Prop} {p : D → R L} {a : Expr} {f : EV} (ho : UnR X (unaryOp op) r) (u : U1 w r p) (ha : GE w X a f) : GE w X (.UnaryOp op a pos) (k1 p f) :=
  pe_imp (pe_un ho ha) fun _ _ _ h => tE_1 u h
/-- f(a), f a builtin -/
theorem ge_b1 {id : String} {r : List V → Hp → VK → Prop} {p : D → R L} {x : Str} {px : Pos} {a : Expr} {f : EV} (hc : CallR X (.builtin id) r) (u : U1 w (fun v H Q => r [v] H Q) p) (hm : X.mg x = none) (ha : GE w X a f)
    (hv : bootBuiltins x = some (.builtin id) := by decide +kernel) (hg : Gl X x := by rfl) (hn : x ≠ "__name__" := by decide) (hdb : (x == ("__debug__" : Str)) = false := by decide)
    (he : starEach [a] X.env = (false, eval a X.env) :: starEach [] X.env := by rfl) : GE w X (.Call (.Name x px) [a] [] pos) (k1 p f) :=
  pe_imp (pe_callB hc hg hm hv (pa_cons ha pa_nil he) hn hdb he) fun _ _ _ h => tE_1 u h
theorem ge_t1 {id : String} {r : List V → Hp → VK → Prop} {p : D → R L} {x : Str} {px : Pos} {a : Expr} {f : EV} (hc : CallR X (.type id) r) (u : U1 w (fun v H Q => r [v] H Q) p) (hm : X.mg x = none) (ha : GE w X a f)
    (hv : bootBuiltins x = some (.type id) := by decide +kernel) (hg : Gl X x := by rfl) (hn : x ≠ "__name__" := by decide) (hdb : (x == ("__debug__" : Str)) = false := by decide)
    (he : starEach [a] X.env = (false, eval a X.env) :: starEach [] X.env := by rfl) : GE w X (.Call (.Name x px) [a] [] pos) (k1 p f) :=
  pe_imp (pe_callTy hc hg hm hv (pa_cons ha pa_nil he) hn hdb he) fun _ _ _ h => tE_1 u h
theorem ge_b2 {id : String} {r : List V → Hp → VK → Prop} {p : D → D → R L} {x : Str} {px : Pos} {a b : Expr} {f f' : EV} (hc : CallR X (.builtin id) r) (u : U2 w (fun v v' H Q => r [v, v'] H Q) p) (hm : X.mg x = none) (ha : GE w X a f) (hb : GE w X b f')
    (hv : bootBuiltins x = some (.builtin id) := by decide +kernel) (hg : Gl X x := by rfl) (hn : x ≠ "__name__" := by decide) (hdb : (x == ("__debug__" : Str)) = false := by decide)
    (he : starEach [a, b] X.env = (false, eval a X.env) :: starEach [b] X.env := by rfl) (hb' : starEach [b] X.env = (false, eval b X.env) :: starEach [] X.env := by rfl) : GE w X (.Call (.Name x px) [a, b] [] pos) (k2 p f f') :=
  pe_imp (pe_callB hc hg hm hv (pa_cons ha (pa_cons hb pa_nil hb') he) hn hdb he (by rw [hb'] <;> rfl)) fun _ _ _ h => tE_2 u h
end
end KV

set_option Elab.async false
set_option linter.all false
set_option maxRecDepth 100000
set_option maxHeartbeats 1000000
/-! KVD: operators, comparisons, subscripts, built-in functions on data. -/
namespace KV
open PySem L2
open PySem.Spec PyProof.Rows

/-- a context in order -/
structure Cok (w : Wd) (k : Nat) (X : Cx) : Prop where
  K : X.K = w.K
  calm : X.calm = true
  nd : X.N.Nodup
  room : Room k X.A
  gd : X.A.guards = some []
theorem Cok.u {w : Wd} {k : Nat} {X : Cx} (c : Cok w k X) : X.A.units + 150 < cLine := by have := c.room.un; omega
theorem szOk_le {n : Nat} (h : szOk n = true) : n ≤ 16000000 := of_decide_eq_true h
theorem sz_line {n : Nat} (h : n ≤ 16000000) : n ≤ sizeLine := by rw [sizeLine_eq]; omega

/-! ### data as HandS has it -/
section
variable {K : PySem.W.Frag} {H : Hp}
mutual
theorem Rp.dp : ∀ {v : V} {d : D}, Rp K H v d → d.canLay0 = true → Dp K H v d
  | _, _, .non, _ => .non
  | _, _, .bl b, _ => .bl b
  | _, _, .int i, _ => .int i
  | _, _, .str x, _ => .str x
  | _, _, .lst h r, c => .lst (SqL.of h) (RpA.dp r (by simpa only [PyData.canLay0] using c))
  | _, _, .tup h r, c => .tup h.sq (RpA.dp r (by simpa only [PyData.canLay0] using c))
  | _, _, .dct _ _, c => by simp only [PyData.canLay0] at c; cases c
theorem RpA.dp : ∀ {vs : List V} {ds : List D}, RpA K H vs ds → PyData.canLayAll0 ds = true → DpAll K H vs ds
  | _, _, .nil, _ => .nil
  | _, _, .cons h r, c => by
    simp only [PyData.canLayAll0, Bool.and_eq_true] at c
    exact .cons (h.dp c.1) (RpA.dp r c.2)
end
theorem Rw.dp {Hf : Hp} {v : V} {d : D} (r : Rw K Hf H v d) (s : Sub Hf H) (c : d.canLay0 = true) : Dp K H v d := by
  cases r with
  | st r => exact (r.mono s).dp c
  | lst h r => exact .lst (SqL.of h) ((r.mono s).dp (by simpa only [PyData.canLay0] using c))
  | dct h r => simp only [PyData.canLay0] at c; cases c
end
theorem eqOk_lay {d : D} (h : eqOk d = true) : d.canLay0 = true := by
  have h : (d.canLay0 && decide (d.depth ≤ 64)) = true := h
  rw [Bool.and_eq_true] at h
  exact h.1

section
variable {w : Wd} {k : Nat} {X : Cx}

/-! ### + -/
def rCatF (K : PySem.W.Frag) : R2 := fun x y H Q => ∃ a b xs ys, x = .ref a ∧ y = .ref b ∧ STup K H a xs ∧ STup K H b ys ∧ xs.length + ys.length ≤ sizeLine ∧ (xs = [] → Q (.ref b) H) ∧
  (xs ≠ [] → ys = [] → Q (.ref a) H) ∧ (xs ≠ [] → ys ≠ [] → ∀ p, H p = none → ∀ o : Obj, o.dict = none → Q (.ref p) (upd H p (.frz o (.tup (xs ++ ys)))))
theorem op_catF : OpR X (binaryOp .Add) (rCatF X.K) := by
  intro pins s σ H x y v u Q I rx ry ⟨a, b, xs, ys, ex, ey, ha, hb, hz, q0, q1, q2⟩
  subst ex ey
  cases rx
  cases ry
  obtain ⟨ia, ra, pa, _⟩ := I.tuple ha.sq
  obtain ⟨ib, rb, pb, _⟩ := I.tuple hb.sq
  by_cases hx : xs = []
  · subst hx
    cases ra
    exact cat_tup0 pa pb ⟨.ref b, H, I, rfl, q0 rfl⟩
  · refine HT.cat_tup pa pb (fun z => hx (ra.nil_iff.mp z)) (fun z => ⟨.ref a, H, I, rfl, q1 hx (rb.nil_iff.mp z)⟩) (fun z => ?_) (by rw [← ra.length, ← rb.length]; exact hz)
    have hl := I.laid (t' := s.toks) (a := s.heap.objs.size) (h' := s.heap.push { cls := .type "tuple", data := .seq (ia ++ ib).toArray }) (o := .frz { cls := .type "tuple", data := .seq (ia ++ ib).toArray } (.tup (xs ++ ys))) (fun c ob q => Heap.get?_push_of_some _ q) (Nat.le_refl _)
      ⟨Heap.get?_push_size _ rfl, by rw [List.length_append]; exact hz, _, ra.append rb, IsTup.new _ _⟩
    exact ⟨.ref s.heap.objs.size, _, hl, rfl, q2 hx (fun z' => z (rb.nil_iff.mpr z')) _ (I.hok.fresh (Nat.le_refl _)) _ rfl⟩
def rAddS : R2 := fun x y H Q => ∃ i j, x = .str i ∧ y = .str j ∧ i.length + j.length ≤ sizeLine ∧ Q (.str (i ++ j)) H
def rAdd (K : PySem.W.Frag) : R2 := fun x y H Q => (rI0 (fun i j => .int (i + j))) x y H Q ∨ rAddS x y H Q ∨ rCatF K x y H Q ∨ rCat x y H Q
theorem op_addA : OpR X (binaryOp .Add) (rAdd X.K) := OpR.or op_add (OpR.or op_add_str (OpR.or op_catF op_cat))
theorem u_add (c : Cok w k X) : U2 w (rAdd X.K) pAdd := by
  intro σ H Hf s φ v u d e l Q g r1 r2 hp q
  unfold pAdd at hp
  split at hp
  · cases hp
    exact .inl ⟨_, _, r1.int, r2.int, q.d g (.int _)⟩
  · split at hp
    · rename_i hz
      cases hp
      exact .inr (.inl ⟨_, _, r1.str, r2.str, sz_line (szOk_le hz), q.d g (.str _)⟩)
    · cases hp
  · split at hp
    · rename_i hz
      cases hp
      have t1 := r1.tupR
      have t2 := r2.tupR
      obtain ⟨a, xs, rfl, ha, r1⟩ := r1.tup g.sub
      obtain ⟨b, ys, rfl, hb, r2⟩ := r2.tup g.sub
      rw [← c.K] at ha hb
      refine .inr (.inr (.inl ⟨a, b, xs, ys, rfl, rfl, ha, hb, by rw [r1.length, r2.length]; exact sz_line (szOk_le hz), fun e => ?_, fun _ e => ?_, fun _ _ p hp o ho => q.tup g (r1.append r2) hp ho⟩))
      · subst e
        cases r1
        exact q.d g t2
      · subst e
        cases r2
        rw [List.append_nil] at q
        exact q.d g t1
    · cases hp
  · split at hp
    · rename_i hz
      cases hp
      obtain ⟨a, xs, rfl, ha, r1⟩ := r1.list g.sub
      obtain ⟨b, ys, rfl, hb, r2⟩ := r2.list g.sub
      exact .inr (.inr (.inr ⟨a, b, xs, ys, rfl, rfl, ha, hb, by rw [r1.length, r2.length]; exact sz_line (szOk_le hz), fun p hp => q.lst g (r1.append r2) hp⟩))
    · cases hp
  · cases hp
theorem ge_add (c : Cok w k X) {pos : Pos} {a b : Expr} {f f' : EV} (ha : GE w X a f) (hb : GE w X b f') : GE w X (.BinOp a .Add b pos) (k2 pAdd f f') := ge_op op_addA (u_add c) ha hb

/-! ### -, *, %, // -/
theorem u_sub : U2 w (rI0 fun i j => .int (i - j)) pSub := by
  intro σ H Hf s φ v u d e l Q g r1 r2 hp q
  unfold pSub at hp
  split at hp
  · cases hp
    exact ⟨_, _, r1.int, r2.int, q.d g (.int _)⟩
  · cases hp
theorem ge_sub {pos : Pos} {a b : Expr} {f f' : EV} (ha : GE w X a f) (hb : GE w X b f') : GE w X (.BinOp a .Sub b pos) (k2 pSub f f') := ge_op op_sub u_sub ha hb
theorem u_mod : U2 w (rI (fun _ j => 0 < j) fun i j => .int (i % j)) pMod := by
  intro σ H Hf s φ v u d e l Q g r1 r2 hp q
  unfold pMod at hp
  split at hp
  · split at hp
    · rename_i h
      cases hp
      exact ⟨_, _, r1.int, r2.int, h, q.d g (.int _)⟩
    · cases hp
  · cases hp
theorem ge_mod {pos : Pos} {a b : Expr} {f f' : EV} (ha : GE w X a f) (hb : GE w X b f') : GE w X (.BinOp a .Mod b pos) (k2 pMod f f') := ge_op op_mod u_mod ha hb
theorem u_div : U2 w (rI CDiv fun i j => .int (i / j)) pDiv := by
  intro σ H Hf s φ v u d e l Q g r1 r2 hp q
  unfold pDiv at hp
  split at hp
  · split at hp
    · rename_i h
      cases hp
      exact ⟨_, _, r1.int, r2.int, ⟨h.1, by omega⟩, q.d g (.int _)⟩
    · cases hp
  · cases hp
theorem ge_div {pos : Pos} {a b : Expr} {f f' : EV} (ha : GE w X a f) (hb : GE w X b f') : GE w X (.BinOp a .FloorDiv b pos) (k2 pDiv f f') := ge_op op_fdiv u_div ha hb
theorem u_neg : U1 w (rU fun i => .int (-i)) pNeg := by
  intro σ H Hf s φ v d l Q g r hp q
  unfold pNeg at hp
  split at hp
  · cases hp
    exact ⟨_, r.int, q.d g (.int _)⟩
  · cases hp
theorem ge_neg {pos : Pos} {a : Expr} {f : EV} (ha : GE w X a f) : GE w X (.UnaryOp .USub a pos) (k1 pNeg f) := ge_un un_neg u_neg ha

/-! ### comparisons -/
theorem u_eq (c : Cok w k X) : U2 w (rEqD X.K) pEq := by
  intro σ H Hf s φ v u d e l Q g r1 r2 hp q
  unfold pEq at hp
  split at hp
  · rename_i h
    rw [Bool.and_eq_true] at h
    cases hp
    rw [c.K]
    exact ⟨d, e, r1.dp g.sub (eqOk_lay h.1), r2.dp g.sub (eqOk_lay h.2), h.1, h.2, q.d g (.bl _)⟩
  · cases hp
theorem ge_eq (c : Cok w k X) {pos : Pos} {a b : Expr} {f f' : EV} (ha : GE w X a f) (hb : GE w X b f') (hm : behindInMarks .Eq b = false := by rfl) : GE w X (.Compare a [.Eq] [b] pos) (k2 pEq f f') :=
  ge_cmp (op_eqD (by have := c.u; omega)) (u_eq c) ha hb hm
theorem u_ne (c : Cok w k X) : U2 w (rNeD X.K) pNe := by
  intro σ H Hf s φ v u d e l Q g r1 r2 hp q
  unfold pNe at hp
  split at hp
  · rename_i h
    rw [Bool.and_eq_true] at h
    cases hp
    rw [c.K]
    exact ⟨d, e, r1.dp g.sub (eqOk_lay h.1), r2.dp g.sub (eqOk_lay h.2), h.1, h.2, q.d g (.bl _)⟩
  · cases hp
theorem ge_ne (c : Cok w k X) {pos : Pos} {a b : Expr} {f f' : EV} (ha : GE w X a f) (hb : GE w X b f') (hm : behindInMarks .NotEq b = false := by rfl) : GE w X (.Compare a [.NotEq] [b] pos) (k2 pNe f f') :=
  ge_cmp (op_neD (by have := c.u; omega)) (u_ne c) ha hb hm
def rCmp (p : Int → Int → Bool) (q : Str → Str → Bool) : R2 := fun x y H Q => (rI0 (fun i j => .bl (p i j))) x y H Q ∨ (∃ i j, x = .str i ∧ y = .str j ∧ Q (.bl (q i j)) H)
theorem o_lt : OpR X (compareOp .Lt) (rCmp (fun i j => decide (i < j)) fun i j => decide (i.cps.toList < j.cps.toList)) := OpR.or op_lt op_lt_str
theorem o_le : OpR X (compareOp .LtE) (rCmp (fun i j => decide (i ≤ j)) fun i j => !decide (j.cps.toList < i.cps.toList)) := OpR.or op_le op_le_str
theorem o_gt : OpR X (compareOp .Gt) (rCmp (fun i j => decide (j < i)) fun i j => decide (j.cps.toList < i.cps.toList)) := OpR.or op_gt op_gt_str
theorem o_ge : OpR X (compareOp .GtE) (rCmp (fun i j => decide (j ≤ i)) fun i j => !decide (i.cps.toList < j.cps.toList)) := OpR.or op_ge op_ge_str
theorem u_cmp {P : D → D → R L} {p : Int → Int → Bool} {q : Str → Str → Bool} (h : ∀ d e l, P d e = .ok l → (∃ i j, d = .int i ∧ e = .int j ∧ l = .d (.bool (p i j))) ∨ ∃ i j, d = .str i ∧ e = .str j ∧ l = .d (.bool (q i j))) : U2 w (rCmp p q) P := by
  intro σ H Hf s φ v u d e l Q g r1 r2 hp qq
  rcases h d e l hp with ⟨i, j, rfl, rfl, rfl⟩ | ⟨i, j, rfl, rfl, rfl⟩
  · exact .inl ⟨i, j, r1.int, r2.int, qq.d g (.bl _)⟩
  · exact .inr ⟨i, j, r1.str, r2.str, qq.d g (.bl _)⟩
theorem u_lt : U2 w (rCmp (fun i j => decide (i < j)) fun i j => decide (i.cps.toList < j.cps.toList)) pLt := u_cmp fun d e l h => by
  unfold pLt at h
  split at h
  · cases h; exact .inl ⟨_, _, rfl, rfl, rfl⟩
  · cases h; exact .inr ⟨_, _, rfl, rfl, rfl⟩
  · cases h
theorem u_le : U2 w (rCmp (fun i j => decide (i ≤ j)) fun i j => !decide (j.cps.toList < i.cps.toList)) pLe := u_cmp fun d e l h => by
  unfold pLe at h
  split at h
  · cases h; exact .inl ⟨_, _, rfl, rfl, rfl⟩
  · cases h; exact .inr ⟨_, _, rfl, rfl, rfl⟩
  · cases h
theorem u_gt : U2 w (rCmp (fun i j => decide (j < i)) fun i j => decide (j.cps.toList < i.cps.toList)) pGt := u_cmp fun d e l h => by
  unfold pGt at h
  split at h
  · cases h; exact .inl ⟨_, _, rfl, rfl, rfl⟩
  · cases h; exact .inr ⟨_, _, rfl, rfl, rfl⟩
  · cases h
theorem u_ge : U2 w (rCmp (fun i j => decide (j ≤ i)) fun i j => !decide (i.cps.toList < j.cps.toList)) pGe := u_cmp fun d e l h => by
  unfold pGe at h
  split at h
  · cases h; exact .inl ⟨_, _, rfl, rfl, rfl⟩
  · cases h; exact .inr ⟨_, _, rfl, rfl, rfl⟩
  · cases h
section
variable {pos : Pos} {a b : Expr} {f f' : EV}
theorem ge_lt (ha : GE w X a f) (hb : GE w X b f') (hm : behindInMarks .Lt b = false := by rfl) : GE w X (.Compare a [.Lt] [b] pos) (k2 pLt f f') := ge_cmp o_lt u_lt ha hb hm
theorem ge_le (ha : GE w X a f) (hb : GE w X b f') (hm : behindInMarks .LtE b = false := by rfl) : GE w X (.Compare a [.LtE] [b] pos) (k2 pLe f f') := ge_cmp o_le u_le ha hb hm
theorem ge_gt (ha : GE w X a f) (hb : GE w X b f') (hm : behindInMarks .Gt b = false := by rfl) : GE w X (.Compare a [.Gt] [b] pos) (k2 pGt f f') := ge_cmp o_gt u_gt ha hb hm
theorem ge_ge (ha : GE w X a f) (hb : GE w X b f') (hm : behindInMarks .GtE b = false := by rfl) : GE w X (.Compare a [.GtE] [b] pos) (k2 pGe f f') := ge_cmp o_ge u_ge ha hb hm
end
theorem Rw.isN {K : PySem.W.Frag} {H Hf : Hp} {v : V} {d : D} (r : Rw K Hf H v d) : decide (v = .non) = isNone d := by
  cases r with
  | st r => cases r <;> rfl
  | lst _ _ => rfl
  | dct _ _ => rfl
theorem ge_isN {pos p2 : Pos} {j : Nat} {a : Expr} {f : EV} (ha : GE w X a f) : GE w X (.Compare a [.Is] [.Constant .none j p2] pos) (k1 pIsN f) :=
  pe_imp (pe_cmpR op_isN ha pe_non rfl) fun σ H Q h => tE_1 (r := fun v H1 Q => V.non = .non ∧ Q (.bl (decide (v = .non))) H1) (fun σ H Hf s φ v d l Q g r hp q => by
    cases hp
    rw [r.isN]
    exact ⟨rfl, q.d g (.bl _)⟩) h
theorem ge_notN {pos p2 : Pos} {j : Nat} {a : Expr} {f : EV} (ha : GE w X a f) : GE w X (.Compare a [.IsNot] [.Constant .none j p2] pos) (k1 pNotN f) :=
  pe_imp (pe_cmpR op_notN ha pe_non rfl) fun σ H Q h => tE_1 (r := fun v H1 Q => V.non = .non ∧ Q (.bl (!decide (v = .non))) H1) (fun σ H Hf s φ v d l Q g r hp q => by
    cases hp
    rw [r.isN]
    exact ⟨rfl, q.d g (.bl _)⟩) h
theorem ge_isB {pos p2 : Pos} {j : Nat} {b : Bool} {a : Expr} {f : EV} (ha : GE w X a f) : GE w X (.Compare a [.Is] [.Constant (.bool b) j p2] pos) (k1 (pIsB b) f) :=
  pe_imp (pe_cmpR op_isBl ha pe_bl rfl) fun σ H Q h => tE_1 (r := fun v H1 Q => rIsB v (.bl b) H1 Q) (fun σ H Hf s φ v d l Q g r hp q => by
    unfold pIsB at hp
    split at hp
    · cases hp
      exact ⟨_, _, r.bool, rfl, q.d g (.bl _)⟩
    · cases hp) h
theorem ge_notB {pos p2 : Pos} {j : Nat} {b : Bool} {a : Expr} {f : EV} (ha : GE w X a f) : GE w X (.Compare a [.IsNot] [.Constant (.bool b) j p2] pos) (k1 (pNotB b) f) :=
  pe_imp (pe_cmpR op_notBl ha pe_bl rfl) fun σ H Q h => tE_1 (r := fun v H1 Q => rNotB v (.bl b) H1 Q) (fun σ H Hf s φ v d l Q g r hp q => by
    unfold pNotB at hp
    split at hp
    · cases hp
      exact ⟨_, _, r.bool, rfl, q.d g (.bl _)⟩
    · cases hp) h

/-! ### dicts: what stands at a key -/
theorem keyOf_some {d : D} {c : Key} (h : keyOf d = some c) : d = keyD c := by
  unfold keyOf at h
  split at h <;> cases h <;> rfl
theorem key_eqv (a b : Key) : PyData.eqv (keyD a) (keyD b) = decide (a = b) := by
  cases a <;> cases b
  · rename_i i j
    show (i == j) = decide ((Sum.inl i : Key) = Sum.inl j)
    by_cases e : i = j
    · subst e; simp
    · rw [decide_eq_false (fun z => e (Sum.inl.inj z))]; exact beq_eq_false_iff_ne.mpr e
  · show false = _
    exact (decide_eq_false fun z => nomatch z).symm
  · show false = _
    exact (decide_eq_false fun z => nomatch z).symm
  · rename_i i j
    show (i == j) = decide ((Sum.inr i : Key) = Sum.inr j)
    by_cases e : i = j
    · subst e; simp
    · rw [decide_eq_false (fun z => e (Sum.inr.inj z))]; exact beq_eq_false_iff_ne.mpr e
theorem Rw.key {K : PySem.W.Frag} {H Hf : Hp} {v : V} {c : Key} (r : Rw K Hf H v (keyD c)) : v = kV c := by
  cases c
  · exact r.int
  · exact r.str
theorem lookD_cons (k d : D) (r : List (D × D)) (c : D) : lookD ((k, d) :: r) c = if PyData.eqv k c = true then some d else lookD r c := by
  unfold lookD
  rw [List.find?_cons]
  cases h : PyData.eqv (k, d).1 c with
  | true => rfl
  | false => rfl
section
variable {K : PySem.W.Frag} {H : Hp}
theorem RpKv.look : ∀ {kvs : List (Key × V)} {ds : List (D × D)} (c : Key), RpKv K H kvs ds → (lookD ds (keyD c) = none ∧ valV kvs c = none) ∨ ∃ d v, lookD ds (keyD c) = some d ∧ valV kvs c = some v ∧ Rp K H v d
  | _, _, _, .nil => .inl ⟨rfl, rfl⟩
  | _, _, c, .cons (k := k) (v := v) (d := d) (kvs := kvs) (ds := ds) r t => by
    rw [lookD_cons, key_eqv]
    by_cases e : k = c
    · rw [if_pos (decide_eq_true e)]
      exact .inr ⟨d, v, rfl, valV_pos (p := (k, v)) e, r⟩
    · rw [if_neg (by rw [decide_eq_false e]; exact Bool.false_ne_true), valV_neg (p := (k, v)) e]
      exact RpKv.look c t
theorem RpKv.has : ∀ {kvs : List (Key × V)} {ds : List (D × D)} (c : Key), RpKv K H kvs ds → hasB ds (keyD c) = (valV kvs c).isSome
  | _, _, _, .nil => rfl
  | _, _, c, .cons (k := k) (v := v) (d := d) r t => by
    have ih := RpKv.has c t
    unfold hasB at ih ⊢
    rw [List.any_cons, ih]
    show (PyData.eqv (keyD k) (keyD c) || _) = _
    rw [key_eqv]
    by_cases e : k = c
    · rw [decide_eq_true e, valV_pos (p := (k, v)) e]; rfl
    · rw [decide_eq_false e, valV_neg (p := (k, v)) e]; rfl
theorem RpKv.append : ∀ {kvs ks : List (Key × V)} {ds es : List (D × D)}, RpKv K H kvs ds → RpKv K H ks es → RpKv K H (kvs ++ ks) (ds ++ es)
  | _, _, _, _, .nil, r => r
  | _, _, _, _, .cons h t, r => .cons h (RpKv.append t r)
theorem RpKv.map {c : Key} {x : V} {y : D} (hx : Rp K H x y) : ∀ {kvs : List (Key × V)} {ds : List (D × D)}, RpKv K H kvs ds →
    RpKv K H (kvs.map fun kv => if kv.1 = c then (kv.1, x) else kv) (ds.map fun p => if PyData.eqv p.1 (keyD c) then (p.1, y) else p)
  | _, _, .nil => .nil
  | _, _, .cons (k := k) (v := v) (d := d) r t => by
    have ih := RpKv.map (c := c) hx t
    rw [List.map_cons, List.map_cons]
    simp only [key_eqv]
    by_cases e : k = c
    · rw [if_pos e, if_pos (decide_eq_true e)]
      exact .cons hx ih
    · rw [if_neg e, if_neg (by rw [decide_eq_false e]; exact Bool.false_ne_true)]
      exact .cons r ih
theorem RpKv.put {kvs : List (Key × V)} {ds : List (D × D)} {x : V} {y : D} (c : Key) (r : RpKv K H kvs ds) (hx : Rp K H x y) : RpKv K H (putK kvs c x) (putD ds (keyD c) y) := by
  unfold putK putD
  rw [r.has c, valV_any]
  cases (valV kvs c).isSome with
  | true => rw [if_pos rfl, if_pos rfl]; exact r.map hx
  | false => rw [if_neg Bool.false_ne_true, if_neg Bool.false_ne_true]; exact r.append (.cons hx .nil)
theorem RpKv.keys : ∀ {kvs : List (Key × V)} {ds : List (D × D)}, RpKv K H kvs ds → RpA K H (kvs.map fun kv => kV kv.1) (ds.map (·.1))
  | _, _, .nil => .nil
  | _, _, .cons (k := k) r t => by
    refine .cons ?_ (RpKv.keys t)
    cases k
    · exact .int _
    · exact .str _
end

/-! ### in -/
def rInT (K : PySem.W.Frag) (neg : Bool) : R2 := fun x y H Q => ∃ d ds, Dp K H x d ∧ Dp K H y (.tuple ds) ∧ SeqAt.shaped d = true ∧ SeqAt.shaped (.tuple ds) = true ∧ Q (.bl (if neg then !(inB d ds) else inB d ds)) H
theorem op_inT (c : Cok w k X) : OpR X (compareOp .In) (rInT X.K false) := by
  intro pins s σ H x y v u Q I rx ry ⟨d, ds, hd, he, sd, se, q⟩
  obtain ⟨as, r1⟩ := Dp.reads I d x v hd rx
  obtain ⟨bs, r2⟩ := Dp.reads I (.tuple ds) y u he ry
  have hu : X.A.units + 65 < cLine := by have := c.u; omega
  exact SeqAt.in_tuple_reads r2 r1 (by have := SeqAt.canLay_of_shaped se; simpa only [PyData.canLay0] using this) (SeqAt.canLay_of_shaped sd) (room_in_shaped sd hu) ⟨.bl _, H, I, rfl, q⟩
theorem op_notInT (c : Cok w k X) : OpR X (compareOp .NotIn) (rInT X.K true) := by
  intro pins s σ H x y v u Q I rx ry ⟨d, ds, hd, he, sd, se, q⟩
  obtain ⟨as, r1⟩ := Dp.reads I d x v hd rx
  obtain ⟨bs, r2⟩ := Dp.reads I (.tuple ds) y u he ry
  have hu : X.A.units + 65 < cLine := by have := c.u; omega
  exact SeqAt.notIn_tuple_reads r2 r1 (by have := SeqAt.canLay_of_shaped se; simpa only [PyData.canLay0] using this) (SeqAt.canLay_of_shaped sd) (room_in_shaped sd hu) ⟨.bl _, H, I, rfl, q⟩
def rInDict (neg : Bool) : R2 := fun x y H Q => ∃ a o, y = .ref a ∧ DGet H a x o ∧ Q (.bl (if neg then !o.isSome else o.isSome)) H
theorem op_inDict (c : Cok w k X) : OpR X (compareOp .In) (rInDict false) := by
  intro pins s σ H x y v u Q I rx ry ⟨a, o, ey, g, q⟩
  subst ey
  cases ry
  exact d_in (by have := c.u; omega) I g rx fun s' I' => ⟨.bl o.isSome, H, I', rfl, q⟩
theorem op_notInDict (c : Cok w k X) : OpR X (compareOp .NotIn) (rInDict true) := by
  intro pins s σ H x y v u Q I rx ry ⟨a, o, ey, g, q⟩
  subst ey
  cases ry
  exact d_notIn (by have := c.u; omega) I g rx fun s' I' => ⟨.bl (!o.isSome), H, I', rfl, q⟩
def rInS (neg : Bool) : R2 := fun x y H Q => ∃ i j, x = .str i ∧ y = .str j ∧ Q (.bl (if neg then !(!(Builtin.Str.occurrences j i 0 j.length 1).isEmpty) else !(Builtin.Str.occurrences j i 0 j.length 1).isEmpty)) H
def rInL (K : PySem.W.Frag) (neg : Bool) : R2 := fun x y H Q => ∃ d ds, Dp K H x d ∧ Dp K H y (.list ds) ∧ SeqAt.shaped d = true ∧ SeqAt.shaped (.list ds) = true ∧ Q (.bl (if neg then !(inB d ds) else inB d ds)) H
def rInA (K : PySem.W.Frag) (neg : Bool) : R2 := fun x y H Q => rInL K neg x y H Q ∨ rInT K neg x y H Q ∨ rInDict neg x y H Q ∨ rInS neg x y H Q
theorem op_inA (c : Cok w k X) : OpR X (compareOp .In) (rInA X.K false) := OpR.or (op_inD (by have := c.u; omega)) (OpR.or (op_inT c) (OpR.or (op_inDict c) op_in_str))
theorem op_notInA (c : Cok w k X) : OpR X (compareOp .NotIn) (rInA X.K true) := OpR.or (op_notInD (by have := c.u; omega)) (OpR.or (op_notInT c) (OpR.or (op_notInDict c) op_notin_str))
theorem u_inN (c : Cok w k X) (neg : Bool) {P : D → D → R L} (hP : ∀ d e l, P d e = .ok l → ∃ b, pIn d e = .ok (.d (.bool b)) ∧ l = .d (.bool (if neg then !b else b))) : U2 w (rInA X.K neg) P := by
  intro σ H Hf s φ v u d e l Q g r1 r2 hp q
  obtain ⟨b, hp', el⟩ := hP d e l hp
  clear hp
  subst el
  unfold pIn at hp'
  split at hp'
  · split at hp'
    · rename_i h
      rw [Bool.and_eq_true] at h
      cases hp'
      rw [c.K]
      exact .inl ⟨_, _, r1.dp g.sub (eqOk_lay h.1), r2.dp g.sub (eqOk_lay h.2), h.1, h.2, q.d g (.bl _)⟩
    · cases hp'
  · split at hp'
    · rename_i h
      rw [Bool.and_eq_true] at h
      cases hp'
      rw [c.K]
      exact .inr (.inl ⟨_, _, r1.dp g.sub (eqOk_lay h.1), r2.dp g.sub (eqOk_lay h.2), h.1, h.2, q.d g (.bl _)⟩)
    · cases hp'
  · split at hp'
    · rename_i h
      obtain ⟨ky, hk⟩ := Option.isSome_iff_exists.mp h
      cases hp'
      have e := keyOf_some hk
      subst e
      obtain ⟨a, kvs, rfl, ha, r2⟩ := r2.dict g.sub
      rw [r2.has ky] at q
      have ev := r1.key
      subst ev
      exact .inr (.inr (.inl ⟨a, _, rfl, DGet.k ha, q.d g (.bl _)⟩))
    · cases hp'
  · cases hp'
    exact .inr (.inr (.inr ⟨_, _, r1.str, r2.str, q.d g (.bl _)⟩))
  · cases hp'
theorem pIn_bool {d e : D} {l : L} (h : pIn d e = .ok l) : ∃ b, l = .d (.bool b) := by
  unfold pIn at h
  split at h
  · split at h
    · cases h; exact ⟨_, rfl⟩
    · cases h
  · split at h
    · cases h; exact ⟨_, rfl⟩
    · cases h
  · split at h
    · cases h; exact ⟨_, rfl⟩
    · cases h
  · cases h; exact ⟨_, rfl⟩
  · cases h
theorem ge_in (c : Cok w k X) {pos : Pos} {a b : Expr} {f f' : EV} (ha : GE w X a f) (hb : GE w X b f') (hm : behindInMarks .In b = false := by rfl) : GE w X (.Compare a [.In] [b] pos) (k2 pIn f f') :=
  ge_cmp (op_inA c) (u_inN c false fun d e l h => by obtain ⟨b, rfl⟩ := pIn_bool h; exact ⟨b, h, rfl⟩) ha hb hm
theorem ge_notIn (c : Cok w k X) {pos : Pos} {a b : Expr} {f f' : EV} (ha : GE w X a f) (hb : GE w X b f') (hm : behindInMarks .NotIn b = false := by rfl) : GE w X (.Compare a [.NotIn] [b] pos) (k2 pNotIn f f') :=
  ge_cmp (op_notInA c) (u_inN c true fun d e l h => by
    unfold pNotIn at h
    obtain ⟨l', h1, h2⟩ := R.bind_eq_ok.mp h
    obtain ⟨b, rfl⟩ := pIn_bool h1
    cases h2
    exact ⟨b, h1, rfl⟩) ha hb hm

/-! ### subscripts -/
def rIxDict : R2 := fun x y H Q => ∃ a v, x = .ref a ∧ DGet H a y (some v) ∧ Q v H
theorem ix_dict (c : Cok w k X) : IxR X rIxDict := by
  intro value slice pins s σ H x y v u Q I rx ry ⟨a, z, ex, g, q⟩ hs
  subst ex
  cases rx
  exact tail_any (dict_typeIs I g) PySem.F.slot_dict_getitem.lookup (d_getItem (by have := c.u; omega) I g ry fun w' s' I' rw' => ⟨z, H, I', rw', q⟩) hs
def rIxA (K : PySem.W.Frag) : R2 := fun x y H Q => rIxL K x y H Q ∨ rIxT K x y H Q ∨ rIxDict x y H Q
theorem ix_all (c : Cok w k X) : IxR X (rIxA X.K) := IxR.or ix_list (IxR.or ix_tup (ix_dict c))
theorem atI_of {vs : List V} {xs : List D} {i : Int} {d : D} {K : PySem.W.Frag} {H : Hp} (r : RpA K H vs xs) (h : (ixD xs.length i).bind (fun j => xs[j]?) = some d) : ∃ v, atI vs i = some v ∧ Rp K H v d := by
  unfold atI
  rw [r.length]
  unfold ixD at h
  cases e : ixN xs.length i with
  | none => rw [e] at h; cases h
  | some j =>
    rw [e] at h
    obtain ⟨v, h1, h2⟩ := r.get (i := j) h
    exact ⟨v, h1, h2⟩
theorem optD_ok {o : Option D} {l : L} (h : optD o = .ok l) : ∃ d, o = some d ∧ l = .d d := by
  cases o with
  | none => cases h
  | some d => cases h; exact ⟨d, rfl, rfl⟩
theorem u_ix (c : Cok w k X) : U2 w (rIxA X.K) pIx := by
  intro σ H Hf s φ v u d e l Q g r1 r2 hp q
  unfold pIx at hp
  split at hp
  · obtain ⟨d, h, rfl⟩ := optD_ok hp
    obtain ⟨a, vs, rfl, ha, r1⟩ := r1.list g.sub
    obtain ⟨x, h1, h2⟩ := atI_of r1 h
    exact .inl ⟨a, vs, _, x, rfl, r2.int, SqL.of ha, h1, q.d g h2⟩
  · obtain ⟨d, h, rfl⟩ := optD_ok hp
    obtain ⟨a, vs, rfl, ha, r1⟩ := r1.tup g.sub
    obtain ⟨x, h1, h2⟩ := atI_of r1 h
    rw [c.K]
    exact .inr (.inl ⟨a, vs, _, x, rfl, r2.int, ha.sq, h1, q.d g h2⟩)
  · split at hp
    · rename_i h
      obtain ⟨ky, hk⟩ := Option.isSome_iff_exists.mp h
      obtain ⟨d, h, rfl⟩ := optD_ok hp
      have e := keyOf_some hk
      subst e
      obtain ⟨a, kvs, rfl, ha, r1⟩ := r1.dict g.sub
      have ev := r2.key
      subst ev
      rcases r1.look ky with ⟨h1, h2⟩ | ⟨d', v', h1, h2, h3⟩
      · rw [h1] at h; cases h
      · rw [h1] at h; cases h
        exact .inr (.inr ⟨a, v', rfl, h2 ▸ DGet.k ha, q.d g h3⟩)
    · cases hp
  · cases hp
theorem ge_ix (c : Cok w k X) {pos : Pos} {a b : Expr} {f f' : EV} (ha : GE w X a f) (hb : GE w X b f') (hs : PlainIx b := by exact fun _ _ => rfl) : GE w X (.Subscript a b pos) (k2 pIx f f') :=
  pe_imp (pe_ix (ix_all c) ha hb hs) fun _ _ _ h => tE_2 (u_ix c) h
end
end KV

set_option Elab.async false
set_option linter.all false
set_option maxRecDepth 100000
set_option maxHeartbeats 1000000
/-! KVE: slices, built-in functions, displays, tests. -/
namespace KV
open PySem L2
open PySem.Spec PyProof.Rows

section
variable {w : Wd} {k : Nat} {X : Cx} {pos : Pos} {σ : L2.St} {H Hf : Hp} {s s' : Sl} {φ : Nat → List Addr} {Q : VK}

/-! ### and, or, not, a if t else b -/
theorem kG_ok {f : EV} {d : D} (h : kG f s = .ok (d, s')) : ∃ l, f s = .ok (l, s') ∧ l.get s' = .ok d := by
  obtain ⟨⟨l, s1⟩, h1, h2⟩ := R.bind_eq_ok.mp h
  obtain ⟨d', h3, h4⟩ := R.bind_eq_ok.mp h2
  cases h4
  exact ⟨l, h1, h3⟩
theorem boolOf_ok {d : D} {b : Bool} (h : boolOf d = .ok b) : d = .bool b := by
  unfold boolOf at h
  split at h
  · cases h; rfl
  · cases h
theorem ge_and {a b : Expr} {rest : List Expr} {f f' : EV} (ha : GE w X a f) (hb : GE w X (.BoolOp .And (b :: rest) pos) f') : GE w X (.BoolOp .And (a :: b :: rest) pos) (kAnd f f') := by
  refine pe_imp (pe_and ha hb) fun σ H Q => ?_
  rintro ⟨Hf, s, φ, l, s', g, e, q⟩
  obtain ⟨⟨d, s1⟩, h1, h2⟩ := R.bind_eq_ok.mp e
  obtain ⟨c, h3, h4⟩ := R.bind_eq_ok.mp h2
  obtain ⟨l1, h5, h6⟩ := kG_ok h1
  cases boolOf_ok h3
  refine ⟨Hf, s, φ, l1, s1, g, h5, fun v H1 Hf1 φ1 F1 g1 r1 k1 => ⟨c, (r1.rw g1 h6).bool, ?_⟩⟩
  have q1 := q.later k1 (fun a => .inl) g1
  cases c with
  | true =>
    rw [if_pos rfl]
    exact ⟨Hf1, s1, φ1, l, s', g1, h4, q1⟩
  | false =>
    rw [if_neg Bool.false_ne_true]
    cases h4
    exact q1.d g1 (.bl _)
theorem ge_or {a b : Expr} {rest : List Expr} {f f' : EV} (ha : GE w X a f) (hb : GE w X (.BoolOp .Or (b :: rest) pos) f') : GE w X (.BoolOp .Or (a :: b :: rest) pos) (kOr f f') := by
  refine pe_imp (pe_or ha hb) fun σ H Q => ?_
  rintro ⟨Hf, s, φ, l, s', g, e, q⟩
  obtain ⟨⟨d, s1⟩, h1, h2⟩ := R.bind_eq_ok.mp e
  obtain ⟨c, h3, h4⟩ := R.bind_eq_ok.mp h2
  obtain ⟨l1, h5, h6⟩ := kG_ok h1
  cases boolOf_ok h3
  refine ⟨Hf, s, φ, l1, s1, g, h5, fun v H1 Hf1 φ1 F1 g1 r1 k1 => ⟨c, (r1.rw g1 h6).bool, ?_⟩⟩
  have q1 := q.later k1 (fun a => .inl) g1
  cases c with
  | true =>
    rw [if_pos rfl]
    cases h4
    exact q1.d g1 (.bl _)
  | false =>
    rw [if_neg Bool.false_ne_true]
    exact ⟨Hf1, s1, φ1, l, s', g1, h4, q1⟩
theorem ge_one {op : BoolOp} {a : Expr} {f : EV} (ha : GE w X a f) : GE w X (.BoolOp op [a] pos) f := pe_one ha
theorem ge_not {a : Expr} {f : EV} (ha : GE w X a f) : GE w X (.UnaryOp .Not a pos) (kNot f) := by
  refine pe_imp (pe_not ha) fun σ H Q => ?_
  rintro ⟨Hf, s, φ, l, s', g, e, q⟩
  obtain ⟨⟨d, s1⟩, h1, h2⟩ := R.bind_eq_ok.mp e
  obtain ⟨c, h3, h4⟩ := R.bind_eq_ok.mp h2
  obtain ⟨l1, h5, h6⟩ := kG_ok h1
  have ed := boolOf_ok h3
  simp only at ed
  subst ed
  cases h4
  exact ⟨Hf, s, φ, l1, _, g, h5, fun v H1 Hf1 φ1 F1 g1 r1 k1 => ⟨_, (r1.rw g1 h6).bool, (q.later k1 (fun a => .inl) g1).d g1 (.bl _)⟩⟩

/-! ### tests -/
theorem tB_val {f : EV} {Qb : Bool → Hp → Prop} (h : tB w (bVal f) σ H Qb) : tE w f σ H (fun v H' => ∃ c, v = .bl c ∧ Qb c H') := by
  obtain ⟨Hf, s, φ, b, s', g, e, q⟩ := h
  obtain ⟨⟨d, s1⟩, h1, h2⟩ := R.bind_eq_ok.mp e
  obtain ⟨c, h3, h4⟩ := R.bind_eq_ok.mp h2
  obtain ⟨l1, h5, h6⟩ := kG_ok h1
  cases boolOf_ok h3
  cases h4
  exact ⟨Hf, s, φ, l1, _, g, h5, fun v H1 Hf1 φ1 F1 g1 r1 k1 => ⟨_, (r1.rw g1 h6).bool, q H1 Hf1 φ1 g1 (k1.weak fun a => .inl)⟩⟩
theorem gb_val {e : Expr} {f : EV} (h : GE w X e f) (he : ∀ whole, isTrue e X.env whole = (do let v ← whole; standAt e.pos; holding [v] (truthy v)) := by intro _; rfl) : GB w X e (bVal f) :=
  pt_imp (pt_val h he) fun _ _ _ q => tB_val q
theorem pt_cmpE {op : CmpOp} {a b : Expr} {t : TE} (h : PT X (.Compare a [op] [b] pos) (tTest t)) : PT X (.Compare a [op] [b] pos) (L2.tB t) := pt_imp h fun _ _ _ q => q
/-- a comparison as a test -/
theorem gb_cmp {op : CmpOp} {r : R2} {p : D → D → R L} {a b : Expr} {f f' : EV} (ho : OpR X (compareOp op) r) (u : U2 w r p) (ha : GE w X a f) (hb : GE w X b f') (hm : behindInMarks op b = false) : GB w X (.Compare a [op] [b] pos) (bVal (k2 p f f')) :=
  pt_imp (pt_cmpR ho ha hb hm) fun σ H Q q => tE_2 u (tB_val q)
theorem gb_and {a b : Expr} {rest : List Expr} {f f' : BV} (ha : GB w X a f) (hb : GW w X (.BoolOp .And (b :: rest) pos) f') : GW w X (.BoolOp .And (a :: b :: rest) pos) (bAnd f f') := by
  refine pw_imp (pw_and ha hb) fun σ H Q => ?_
  rintro ⟨Hf, s, φ, b, s', g, e, q⟩
  obtain ⟨⟨c, s1⟩, h1, h2⟩ := R.bind_eq_ok.mp e
  refine ⟨Hf, s, φ, c, s1, g, h1, fun H1 Hf1 φ1 g1 k1 => ?_⟩
  cases c with
  | true =>
    rw [if_pos rfl]
    exact ⟨Hf1, s1, φ1, b, s', g1, h2, fun H2 Hf2 φ2 g2 k2 => q H2 Hf2 φ2 g2 (k1.trans k2 (fun _ => id) fun x hx => g1.own_free hx)⟩
  | false =>
    rw [if_neg Bool.false_ne_true]
    cases h2
    exact q H1 Hf1 φ1 g1 k1
theorem gb_or {a b : Expr} {rest : List Expr} {f f' : BV} (ha : GB w X a f) (hb : GW w X (.BoolOp .Or (b :: rest) pos) f') : GW w X (.BoolOp .Or (a :: b :: rest) pos) (bOr f f') := by
  refine pw_imp (pw_or ha hb) fun σ H Q => ?_
  rintro ⟨Hf, s, φ, b, s', g, e, q⟩
  obtain ⟨⟨c, s1⟩, h1, h2⟩ := R.bind_eq_ok.mp e
  refine ⟨Hf, s, φ, c, s1, g, h1, fun H1 Hf1 φ1 g1 k1 => ?_⟩
  cases c with
  | true =>
    rw [if_pos rfl]
    cases h2
    exact q H1 Hf1 φ1 g1 k1
  | false =>
    rw [if_neg Bool.false_ne_true]
    exact ⟨Hf1, s1, φ1, b, s', g1, h2, fun H2 Hf2 φ2 g2 k2 => q H2 Hf2 φ2 g2 (k1.trans k2 (fun _ => id) fun x hx => g1.own_free hx)⟩
theorem gb_and1 {a : Expr} {f : BV} (ha : GB w X a f) : GW w X (.BoolOp .And [a] pos) f := pw_and1 ha
theorem gb_or1 {a : Expr} {f : BV} (ha : GB w X a f) : GW w X (.BoolOp .Or [a] pos) f := pw_or1 ha
theorem gb_not {a : Expr} {f : BV} (ha : GB w X a f) : GB w X (.UnaryOp .Not a pos) (bNot f) := by
  refine pt_imp (pt_not ha) fun σ H Q => ?_
  rintro ⟨Hf, s, φ, b, s', g, e, q⟩
  obtain ⟨⟨c, s1⟩, h1, h2⟩ := R.bind_eq_ok.mp e
  cases h2
  exact ⟨Hf, s, φ, c, _, g, h1, q⟩
theorem ge_if {c a b : Expr} {t : BV} {f f' : EV} (hc : GB w X c t) (ha : GE w X a f) (hb : GE w X b f') : GE w X (.IfExp c a b pos) (kIf t f f') := by
  refine pe_imp (pe_ifExp hc ha hb) fun σ H Q => ?_
  rintro ⟨Hf, s, φ, l, s', g, e, q⟩
  obtain ⟨⟨d, s1⟩, h1, h2⟩ := R.bind_eq_ok.mp e
  refine ⟨Hf, s, φ, d, s1, g, h1, fun H1 Hf1 φ1 g1 k1 => ?_⟩
  have q1 := q.later k1 (fun _ => id) g1
  cases d with
  | true => exact iteT (show tE w f σ H1 Q from ⟨Hf1, s1, φ1, l, s', g1, h2, q1⟩)
  | false => exact iteF (show tE w f' σ H1 Q from ⟨Hf1, s1, φ1, l, s', g1, h2, q1⟩)

/-! ### a < b < c -/
/-- the value of a number, a text -/
inductive Vs : V → D → Prop
  | int (i : Int) : Vs (.int i) (.int i)
  | str (x : Str) : Vs (.str x) (.str x)
theorem Vs.of {K : PySem.W.Frag} {Hf H : Hp} {v : V} {d : D} (r : Rw K Hf H v d) (h : scl d = true) : Vs v d := by
  cases d with
  | int i => cases r.int; exact .int i
  | str x => cases r.str; exact .str x
  | none => cases h
  | bool b => cases h
  | list xs => cases h
  | tuple xs => cases h
  | dict xs => cases h
/-- an operator on scalars alone -/
def U2s (r : R2) (p : D → D → R L) : Prop := ∀ (H : Hp) (v u : V) (d e : D) (l : L) (Q : VK), Vs v d → Vs u e → p d e = .ok l → ∃ b, l = .d (.bool b) ∧ (Q (.bl b) H → r v u H Q)
theorem s_cmp {P : D → D → R L} {p : Int → Int → Bool} {q : Str → Str → Bool} (h : ∀ d e l, P d e = .ok l → (∃ i j, d = .int i ∧ e = .int j ∧ l = .d (.bool (p i j))) ∨ ∃ i j, d = .str i ∧ e = .str j ∧ l = .d (.bool (q i j))) : U2s (rCmp p q) P := by
  intro H v u d e l Q r1 r2 hp
  rcases h d e l hp with ⟨i, j, rfl, rfl, rfl⟩ | ⟨i, j, rfl, rfl, rfl⟩
  · cases r1; cases r2
    exact ⟨_, rfl, fun q => .inl ⟨i, j, rfl, rfl, q⟩⟩
  · cases r1; cases r2
    exact ⟨_, rfl, fun q => .inr ⟨i, j, rfl, rfl, q⟩⟩
theorem s_lt : U2s (rCmp (fun i j => decide (i < j)) fun i j => decide (i.cps.toList < j.cps.toList)) pLt := s_cmp fun d e l h => by
  unfold pLt at h
  split at h
  · cases h; exact .inl ⟨_, _, rfl, rfl, rfl⟩
  · cases h; exact .inr ⟨_, _, rfl, rfl, rfl⟩
  · cases h
theorem s_le : U2s (rCmp (fun i j => decide (i ≤ j)) fun i j => !decide (j.cps.toList < i.cps.toList)) pLe := s_cmp fun d e l h => by
  unfold pLe at h
  split at h
  · cases h; exact .inl ⟨_, _, rfl, rfl, rfl⟩
  · cases h; exact .inr ⟨_, _, rfl, rfl, rfl⟩
  · cases h
theorem kS_ok {f : EV} {d : D} (h : kS f s = .ok (d, s')) : ∃ l, f s = .ok (l, s') ∧ l.get s' = .ok d ∧ scl d = true := by
  obtain ⟨⟨d', s1⟩, h1, h2⟩ := R.bind_eq_ok.mp h
  simp only at h2
  split at h2
  · rename_i hs
    cases h2
    obtain ⟨l, h3, h4⟩ := kG_ok h1
    exact ⟨l, h3, h4, hs⟩
  · cases h2
theorem tE_chn {r r' : R2} {p p' : D → D → R L} {f f' f'' : EV} (u : U2s r p) (u' : U2s r' p') (h : tE w (kChn p p' f f' f'') σ H Q) : tChain r r' (tE w f) (tE w f') (tE w f'') σ H Q := by
  obtain ⟨Hf, s, φ, l, s', g, e, q⟩ := h
  obtain ⟨⟨d, s1⟩, h1, h2⟩ := R.bind_eq_ok.mp e
  obtain ⟨⟨d', s2⟩, h3, h4⟩ := R.bind_eq_ok.mp h2
  obtain ⟨lb, h5, h6⟩ := R.bind_eq_ok.mp h4
  obtain ⟨l1, h7, h8, h8'⟩ := kS_ok h1
  obtain ⟨l2, h9, h10, h10'⟩ := kS_ok h3
  refine ⟨Hf, s, φ, l1, s1, g, h7, fun v H1 Hf1 φ1 F1 g1 r1 k1 => ⟨Hf1, s1, φ1, l2, s2, g1, h9, fun v' H2 Hf2 φ2 F2 g2 r2 k2 => ?_⟩⟩
  have q2 := (q.later k1 (fun a => .inl) g1).later k2 (fun a => .inl) g2
  have w2 := Vs.of (r2.rw g2 h10) h10'
  have w1 := Vs.of (r1.rw g1 h8) h8'
  obtain ⟨b, rfl, hr⟩ := u H2 v v' d d' lb (fun z H3 => ∃ k, z = .bl k ∧ (if k = true then tE w f'' σ H3 fun w' H4 => r' v' w' H4 Q else Q (.bl false) H3)) w1 w2 h5
  refine hr ⟨b, rfl, ?_⟩
  cases b with
  | false =>
    rw [if_neg Bool.false_ne_true]
    cases h6
    exact q2.d g2 (.bl _)
  | true =>
    rw [if_pos rfl]
    obtain ⟨⟨d3, s3⟩, h11, h12⟩ := R.bind_eq_ok.mp h6
    obtain ⟨lm, h13, h14⟩ := R.bind_eq_ok.mp h12
    obtain ⟨l3, h15, h16, h16'⟩ := kS_ok h11
    cases h14
    refine ⟨Hf2, s2, φ2, l3, _, g2, h15, fun v3 H3 Hf3 φ3 F3 g3 r3 k3 => ?_⟩
    have q3 := q2.later k3 (fun a => .inl) g3
    obtain ⟨b, rfl, hr⟩ := u' H3 v' v3 d' d3 _ Q w2 (Vs.of (r3.rw g3 h16) h16') h13
    exact hr (q3.d g3 (.bl _))
theorem ge_chn {op op' : CmpOp} {r r' : R2} {p p' : D → D → R L} {a b c : Expr} {f f' f'' : EV} (ho : OpR X (compareOp op) r) (u : U2s r p) (ho' : OpR X (compareOp op') r') (u' : U2s r' p') (ha : GE w X a f) (hb : GE w X b f') (hc : GE w X c f'')
    (hm : lastMarks [op, op'] [b, c] = false := by with_unfolding_all rfl) : GE w X (.Compare a [op, op'] [b, c] pos) (kChn p p' f f' f'') := pe_imp (pe_chain ho ho' ha hb hc hm) fun _ _ _ h => tE_chn u u' h
theorem gb_chn {op op' : CmpOp} {r r' : R2} {p p' : D → D → R L} {a b c : Expr} {f f' f'' : EV} (ho : OpR X (compareOp op) r) (u : U2s r p) (ho' : OpR X (compareOp op') r') (u' : U2s r' p') (ha : GE w X a f) (hb : GE w X b f') (hc : GE w X c f'')
    (hm : lastMarks [op, op'] [b, c] = false := by with_unfolding_all rfl) : GB w X (.Compare a [op, op'] [b, c] pos) (bVal (kChn p p' f f' f'')) := by
  refine pt_imp (pt_chain ho ho' ha hb hc hm) fun σ H Q q => ?_
  have q' := tB_val q
  exact tE_chn u u' q'

/-! ### built-in functions -/
section
variable {K : PySem.W.Frag} {H : Hp}
mutual
theorem Rp.dpN : ∀ {v : V} {d : D}, Rp K H v d → d.hasDict = false → Dp K H v d
  | _, _, .non, _ => .non
  | _, _, .bl b, _ => .bl b
  | _, _, .int i, _ => .int i
  | _, _, .str x, _ => .str x
  | _, _, .lst h r, c => .lst (SqL.of h) (RpA.dpN r (by simpa only [PyData.hasDict] using c))
  | _, _, .tup h r, c => .tup h.sq (RpA.dpN r (by simpa only [PyData.hasDict] using c))
  | _, _, .dct _ _, c => by simp only [PyData.hasDict] at c; cases c
theorem RpA.dpN : ∀ {vs : List V} {ds : List D}, RpA K H vs ds → PyData.hasDictAll ds = false → DpAll K H vs ds
  | _, _, .nil, _ => .nil
  | _, _, .cons h r, c => by
    simp only [PyData.hasDictAll, Bool.or_eq_false_iff] at c
    exact .cons (h.dpN c.1) (RpA.dpN r c.2)
end
theorem Rw.dpN {Hf : Hp} {v : V} {d : D} (r : Rw K Hf H v d) (s : Sub Hf H) (c : d.hasDict = false) : Dp K H v d := by
  cases r with
  | st r => exact (r.mono s).dpN c
  | lst h r => exact .lst (SqL.of h) ((r.mono s).dpN (by simpa only [PyData.hasDict] using c))
  | dct h r => simp only [PyData.hasDict] at c; cases c
end
theorem ints_rp {K : PySem.W.Frag} {H : Hp} : ∀ {vs : List V} {ds : List D} {ns : List Int}, RpA K H vs ds → intsOf ds = some ns → vs = ns.map V.int
  | _, _, _, .nil, h => by cases h; rfl
  | _, _, _, .cons (d := d) (ds := ds) r t, h => by
    cases d with
    | int i =>
      simp only [intsOf] at h
      obtain ⟨ms, h1, rfl⟩ := Option.map_eq_some_iff.mp h
      cases r
      rw [List.map_cons, ints_rp t h1]
    | none => cases h
    | bool b => cases h
    | str x => cases h
    | list xs => cases h
    | tuple xs => cases h
    | dict xs => cases h
theorem bools_rp {K : PySem.W.Frag} {H : Hp} : ∀ {vs : List V} {ds : List D} {ns : List Bool}, RpA K H vs ds → boolsOf ds = some ns → vs = ns.map V.bl
  | _, _, _, .nil, h => by cases h; rfl
  | _, _, _, .cons (d := d) (ds := ds) r t, h => by
    cases d with
    | bool i =>
      simp only [boolsOf] at h
      obtain ⟨ms, h1, rfl⟩ := Option.map_eq_some_iff.mp h
      cases r
      rw [List.map_cons, bools_rp t h1]
    | none => cases h
    | int b => cases h
    | str x => cases h
    | list xs => cases h
    | tuple xs => cases h
    | dict xs => cases h
section
variable {a b : Expr} {f f' : EV} {px : Pos}
theorem ge_len (hm : X.mg "len" = none) (c : Cok w k X) (ha : GE w X a f) (hg : Gl X "len" := by rfl) (he : starEach [a] X.env = (false, eval a X.env) :: starEach [] X.env := by rfl) : GE w X (.Call (.Name "len" px) [a] [] pos) (k1 pLen f) := by
  refine ge_b1 (r := fun xs H Q => (∃ x n, xs = [x] ∧ LenV X.K x H n ∧ Q (.int n) H) ∨ ∃ a kvs, xs = [V.ref a] ∧ H a = some (.dK kvs) ∧ Q (.int kvs.length) H) (CallR.or call_len call_lenD) ?_ hm ha PySem.boot_len hg (by decide) (by decide) he
  intro σ H Hf s φ v d l Q g r hp q
  unfold pLen at hp
  split at hp
  · cases hp
    obtain ⟨p, vs, rfl, hv, r⟩ := r.list g.sub
    exact .inl ⟨_, vs.length, rfl, .inl ⟨vs, SqL.of hv, rfl⟩, by rw [r.length]; exact q.d g (.int _)⟩
  · cases hp
    obtain ⟨p, vs, rfl, hv, r⟩ := r.tup g.sub
    exact .inl ⟨_, vs.length, rfl, .inr ⟨vs, by rw [c.K]; exact hv.sq, rfl⟩, by rw [r.length]; exact q.d g (.int _)⟩
  · cases hp
    obtain ⟨p, kvs, rfl, hv, r⟩ := r.dict g.sub
    exact .inr ⟨p, kvs, rfl, hv, by rw [r.length]; exact q.d g (.int _)⟩
  · split at hp
    · rename_i hz
      cases hp
      cases r.str
      exact .inl ⟨_, _, rfl, ⟨sz_line (szOk_le hz), rfl⟩, q.d g (.int _)⟩
    · cases hp
  · cases hp
theorem ge_intF (hm : X.mg "int" = none) (ha : GE w X a f) (hg : Gl X "int" := by rfl) (he : starEach [a] X.env = (false, eval a X.env) :: starEach [] X.env := by rfl) : GE w X (.Call (.Name "int" px) [a] [] pos) (k1 pInt f) := by
  refine ge_t1 call_int1 ?_ hm ha PyProof.Rows.boot_int hg (by decide) (by decide) he
  intro σ H Hf s φ v d l Q g r hp q
  unfold pInt at hp
  split at hp
  · cases hp
    exact .inl ⟨_, by rw [r.int], q.d g (.int _)⟩
  · cases hp
    refine .inr ⟨_, by rw [r.bool], q.d g (.int _)⟩
  · cases hp
theorem ge_abs (hm : X.mg "abs" = none) (ha : GE w X a f) (hg : Gl X "abs" := by rfl) (he : starEach [a] X.env = (false, eval a X.env) :: starEach [] X.env := by rfl) : GE w X (.Call (.Name "abs" px) [a] [] pos) (k1 pAbs f) := by
  refine ge_b1 call_abs ?_ hm ha PyProof.Rows.boot_abs hg (by decide) (by decide) he
  intro σ H Hf s φ v d l Q g r hp q
  unfold pAbs at hp
  split at hp
  · cases hp
    exact ⟨_, by rw [r.int], q.d g (.int _)⟩
  · cases hp
theorem ge_max2 (hm : X.mg "max" = none) (c : Cok w k X) (ha : GE w X a f) (hb : GE w X b f') (hg : Gl X "max" := by rfl) (he : starEach [a, b] X.env = (false, eval a X.env) :: starEach [b] X.env := by rfl) (hb' : starEach [b] X.env = (false, eval b X.env) :: starEach [] X.env := by rfl) :
    GE w X (.Call (.Name "max" px) [a, b] [] pos) (k2 pMax2 f f') := by
  refine ge_b2 (call_max2 c.calm) ?_ hm ha hb PyProof.Rows.boot_max hg (by decide) (by decide) he hb'
  intro σ H Hf s φ v u d e l Q g r1 r2 hp q
  unfold pMax2 at hp
  split at hp
  · cases hp
    exact ⟨_, _, by rw [r1.int, r2.int], q.d g (.int _)⟩
  · cases hp
theorem ge_min2 (hm : X.mg "min" = none) (c : Cok w k X) (ha : GE w X a f) (hb : GE w X b f') (hg : Gl X "min" := by rfl) (he : starEach [a, b] X.env = (false, eval a X.env) :: starEach [b] X.env := by rfl) (hb' : starEach [b] X.env = (false, eval b X.env) :: starEach [] X.env := by rfl) :
    GE w X (.Call (.Name "min" px) [a, b] [] pos) (k2 pMin2 f f') := by
  refine ge_b2 (call_min2 c.calm) ?_ hm ha hb (by decide +kernel) hg (by decide) (by decide) he hb'
  intro σ H Hf s φ v u d e l Q g r1 r2 hp q
  unfold pMin2 at hp
  split at hp
  · cases hp
    exact ⟨_, _, by rw [r1.int, r2.int], q.d g (.int _)⟩
  · cases hp
/-- tuple(x): a new tuple of a list, a tuple itself -/
def rTupF (K : PySem.W.Frag) : List V → Hp → VK → Prop := fun xs H Q => ∃ p ys, xs = [.ref p] ∧ ((SqL K H p ys ∧ ∀ l, H l = none → ∀ o : Obj, o.dict = none → Q (.ref l) (upd H l (.frz o (.tup ys)))) ∨ (SqT K H p ys ∧ Q (.ref p) H))
theorem call_tupF : CallR X (.type "tuple") (rTupF X.K) := by
  intro pins s σ H xs us Q I r ⟨p, ys, ex, h⟩
  subst ex
  obtain ⟨u, rfl, rx⟩ := vals1 r
  cases rx
  rcases h with ⟨hq, q⟩ | ⟨hq, q⟩
  · obtain ⟨its, r', pl, hz⟩ := I.list hq
    have hlen := r'.length
    refine call_tuple_list pl.isList (fun h' kp => ?_) (by simp only [List.size_toArray] <;> omega)
    have I1 : Inv X pins σ H { s with heap := h' } := I.kept (t' := s.toks) kp
    have I2 := I1.laid (t' := s.toks) (a := h'.objs.size) (h' := h'.push { cls := .type "tuple", data := .seq its.toArray }) (o := .frz { cls := .type "tuple", data := .seq its.toArray } (.tup ys)) (fun b o e => Heap.get?_push_of_some _ e) (Nat.le_refl _)
      ⟨Heap.get?_push_size _ rfl, hz, its, r', IsTup.new _ _⟩
    exact ⟨.ref h'.objs.size, _, I2, rfl, q _ (I1.hok.fresh (Nat.le_refl _)) _ rfl⟩
  · obtain ⟨its, r', pl, hz⟩ := I.tuple hq
    exact call_tuple_same pl ⟨.ref p, H, I, rfl, q⟩
theorem ge_tuple (hm : X.mg "tuple" = none) (c : Cok w k X) (ha : GE w X a f) (hg : Gl X "tuple" := by rfl) (he : starEach [a] X.env = (false, eval a X.env) :: starEach [] X.env := by rfl) : GE w X (.Call (.Name "tuple" px) [a] [] pos) (k1 pTuple f) := by
  refine ge_t1 call_tupF ?_ hm ha PyProof.Rows.boot_tuple hg (by decide) (by decide) he
  intro σ H Hf s φ v d l Q g r hp q
  unfold pTuple at hp
  split at hp
  · cases hp
    obtain ⟨p, vs, rfl, hv, r⟩ := r.list g.sub
    exact ⟨p, vs, rfl, .inl ⟨SqL.of hv, fun l hl o ho => q.tup g r hl ho⟩⟩
  · cases hp
    have t := r.tupR
    obtain ⟨p, vs, rfl, hv, r⟩ := r.tup g.sub
    exact ⟨p, vs, rfl, .inr ⟨by rw [c.K]; exact hv.sq, q.d g t⟩⟩
  · cases hp
theorem ge_list (hm : X.mg "list" = none) (c : Cok w k X) (ha : GE w X a f) (hg : Gl X "list" := by rfl) (he : starEach [a] X.env = (false, eval a X.env) :: starEach [] X.env := by rfl) : GE w X (.Call (.Name "list" px) [a] [] pos) (k1 pList f) := by
  refine ge_t1 (CallR.or call_list_of (call_listD c.calm)) ?_ hm ha PyProof.Rows.boot_list hg (by decide) (by decide) he
  intro σ H Hf s φ v d l Q g r hp q
  unfold pList at hp
  split at hp
  · cases hp
    obtain ⟨p, vs, rfl, hv, r⟩ := r.list g.sub
    exact .inl ⟨p, vs, rfl, .inl (SqL.of hv), fun l hl => q.lst g r hl⟩
  · cases hp
    obtain ⟨p, vs, rfl, hv, r⟩ := r.tup g.sub
    exact .inl ⟨p, vs, rfl, .inr (by rw [c.K]; exact hv.sq), fun l hl => q.lst g r hl⟩
  · cases hp
    obtain ⟨p, kvs, rfl, hv, r⟩ := r.dict g.sub
    exact .inr ⟨p, kvs, rfl, .inl hv, fun l hl => q.lst g r.keys hl⟩
  · cases hp
theorem ge_strF (hm : X.mg "str" = none) (ha : GE w X a f) (hg : Gl X "str" := by rfl) (he : starEach [a] X.env = (false, eval a X.env) :: starEach [] X.env := by rfl) : GE w X (.Call (.Name "str" px) [a] [] pos) (k1 pStr f) := by
  refine ge_t1 (CallR.or call_str_int SkE.call_str_str) ?_ hm ha PyProof.Rows.boot_str hg (by decide) (by decide) he
  intro σ H Hf s φ v d l Q g r hp q
  unfold pStr at hp
  split at hp
  · split at hp
    · rename_i hz
      cases hp
      exact .inl ⟨_, by rw [r.int], hz, q.d g (.str _)⟩
    · cases hp
  · cases hp
    exact .inr ⟨_, by rw [r.str], q.d g (.str _)⟩
  · cases hp
/-! ### repr -/
def rRepr (K : PySem.W.Frag) : List V → Hp → VK → Prop := fun xs H Q => ∃ x d, xs = [x] ∧ Dp K H x d ∧ d.showable = true ∧ d.depth ≤ 64 ∧ d.hasDict = false ∧ d.shown.length ≤ sizeLine ∧ Q (.str d.shown) H
theorem call_reprF (c : Cok w k X) : CallR X (.builtin "repr") (rRepr X.K) := by
  intro pins s σ H xs us Q I r ⟨x, d, ex, hd, h1, h2, h3, h4, q⟩
  subst ex
  obtain ⟨u, rfl, rx⟩ := vals1 r
  have hu := c.u
  obtain ⟨as, rd⟩ := Dp.reads I d x u hd rx
  have fin : ∀ (h' : Heap) (t : Tok) (tk : Nat), (∀ b o, s.heap.get? b = some o → h'.get? b = some o) → EP X pins σ Q (.str d.shown t) { s with heap := h', toks := tk } := fun h' t tk hk => ⟨.str d.shown, H, I.kept hk, ⟨t, rfl⟩, q⟩
  cases rd with
  | none => exact call_repr_gives (typeIs_none s) F.slot_NoneType_repr F.entry_NoneType_repr (F.args_NoneType_repr_1 _) gives_none_repr (fin _ _ _ fun _ _ e => e) (hx := by decide)
  | bool b => exact call_repr_gives (PySem.typeIs_bool s b) F.slot_bool_repr F.entry_bool_repr (F.args_bool_repr_1 _) (gives_bool_repr b) (fin _ _ _ fun _ _ e => e) (hx := by cases b <;> decide)
  | int i t => 
    have hz : i.natAbs.log2 < 1920 := by simpa [PyData.showable] using h1
    exact call_repr_gives (typeIs_int s i t) F.slot_int_repr F.entry_int_repr (F.args_int_repr_1 _) (gives_int_repr i t hz) (fin _ _ _ fun _ _ e => e) (hx := int_text_fits hz)
  | str y t => exact call_repr_gives (typeIs_str s y t) F.slot_str_repr F.entry_str_repr (F.args_str_repr_1 _) (gives_str_repr y t) (fin _ _ _ fun _ _ e => e) (hx := by simpa only [PyData.shown] using h4)
  | list e1 e2 e3 e4 =>
    exact repr_of_reads' (.list e1 e2 e3 e4) h1 (fun z => by rw [h3] at z; cases z) c.gd (by omega) (fun _ _ e => e) (fun h' t tk hk => fin h' t tk hk) h4
  | tuple e1 e2 e3 e4 =>
    exact repr_of_reads' (.tuple e1 e2 e3 e4) h1 (fun z => by rw [h3] at z; cases z) c.gd (by omega) (fun _ _ e => e) (fun h' t tk hk => fin h' t tk hk) h4
  | dict e1 e2 e3 e4 e5 => cases h3
theorem ge_repr (hm : X.mg "repr" = none) (c : Cok w k X) (ha : GE w X a f) (hg : Gl X "repr" := by rfl) (he : starEach [a] X.env = (false, eval a X.env) :: starEach [] X.env := by rfl) : GE w X (.Call (.Name "repr" px) [a] [] pos) (k1 pRepr f) := by
  refine ge_b1 (call_reprF c) ?_ hm ha PyProof.Rows.boot_repr hg (by decide) (by decide) he
  intro σ H Hf s φ v d l Q g r hp q
  unfold pRepr showOk at hp
  split at hp
  · rename_i hs
    simp only [Bool.and_eq_true, decide_eq_true_eq] at hs
    obtain ⟨⟨⟨h1, h2⟩, h3⟩, h4⟩ := hs
    cases hp
    rw [c.K]
    have h3' : d.hasDict = false := by simpa using h3
    exact ⟨v, d, rfl, r.dpN g.sub h3', h1, h2, h3', h4, q.d g (.str _)⟩
  · cases hp

theorem ge_sum (hm : X.mg "sum" = none) (c : Cok w k X) (ha : GE w X a f) (hg : Gl X "sum" := by rfl) (he : starEach [a] X.env = (false, eval a X.env) :: starEach [] X.env := by rfl) : GE w X (.Call (.Name "sum" px) [a] [] pos) (k1 pSum f) := by
  refine ge_b1 (cr_sum c.calm) ?_ hm ha (by decide +kernel) hg (by decide) (by decide) he
  intro σ H Hf s φ v d l Q g r hp q
  unfold pSum at hp
  split at hp
  · split at hp
    · rename_i xs ns hn
      cases hp
      obtain ⟨p, vs, rfl, hv, r⟩ := r.list g.sub
      have e : vs = ns.map V.int := ints_rp r hn
      subst e
      exact ⟨p, ns, rfl, SqL.of hv, q.d g (.int _)⟩
    · cases hp
  · cases hp
theorem ge_all (hm : X.mg "all" = none) (c : Cok w k X) (ha : GE w X a f) (hg : Gl X "all" := by rfl) (he : starEach [a] X.env = (false, eval a X.env) :: starEach [] X.env := by rfl) : GE w X (.Call (.Name "all" px) [a] [] pos) (k1 pAll f) := by
  refine ge_b1 (cr_all c.calm) ?_ hm ha (by decide +kernel) hg (by decide) (by decide) he
  intro σ H Hf s φ v d l Q g r hp q
  unfold pAll at hp
  split at hp
  · split at hp
    · rename_i xs bs hn
      cases hp
      obtain ⟨p, vs, rfl, hv, r⟩ := r.list g.sub
      have e : vs = bs.map V.bl := bools_rp r hn
      subst e
      exact ⟨p, bs, rfl, SqL.of hv, q.d g (.bl _)⟩
    · cases hp
  · cases hp
end
end
end KV

set_option Elab.async false
set_option linter.all false
set_option maxRecDepth 100000
set_option maxHeartbeats 1000000
/-! KVF: isinstance, index, slices, dicts, displays. -/
namespace KV
open PySem L2
open PySem.Spec PyProof.Rows

section
variable {w : Wd} {k : Nat} {X : Cx} {pos : Pos} {σ : L2.St} {H Hf : Hp} {s s' : Sl} {φ : Nat → List Addr} {Q : VK}

/-! ### isinstance -/
def isiOk (ty : String) : Prop := ∀ d : D, kitB (tyOf d) ty = some (tyOf d == ty || (ty == "int" && tyOf d == "bool"))
theorem isi_int : isiOk "int" := fun d => by cases d <;> (simp only [tyOf]; decide +kernel)
theorem isi_str : isiOk "str" := fun d => by cases d <;> (simp only [tyOf]; decide +kernel)
theorem isi_bool : isiOk "bool" := fun d => by cases d <;> (simp only [tyOf]; decide +kernel)
theorem isi_tuple : isiOk "tuple" := fun d => by cases d <;> (simp only [tyOf]; decide +kernel)
theorem isi_list : isiOk "list" := fun d => by cases d <;> (simp only [tyOf]; decide +kernel)
theorem isi_dict : isiOk "dict" := fun d => by cases d <;> (simp only [tyOf]; decide +kernel)
theorem Rp.ty {K : PySem.W.Frag} {v : V} {d : D} (r : Rp K H v d) : TyX K H v (.type (tyOf d)) := by
  cases r with
  | non => exact .base .non
  | bl b => exact .base (.bl b)
  | int i => exact .base (.int i)
  | str x => exact .base (.str x)
  | lst h _ => exact .base (.lst h)
  | tup h _ =>
    rcases h with ⟨o, h, _⟩ | ⟨o, its, n, h1, h2, _⟩
    · exact .fTuple h
    · exact .kTuple h1 h2
  | dct h _ => exact .base (.dK h)
theorem Rw.ty {K : PySem.W.Frag} {v : V} {d : D} (r : Rw K Hf H v d) (s : Sub Hf H) : TyX K H v (.type (tyOf d)) := by
  cases r with
  | st r => exact (r.mono s).ty
  | lst h _ => exact .base (.lst h)
  | dct h _ => exact .base (.dK h)
theorem ge_isi {ty : String} {x : Str} {a : Expr} {f : EV} {px p2 : Pos} (ho : isiOk ty) (hm : X.mg "isinstance" = none) (hm2 : X.mg x = none) (c : Cok w k X) (ha : GE w X a f) (hv : bootBuiltins x = some (.type ty) := by decide +kernel)
    (hg : Gl X "isinstance" := by rfl) (hg2 : Gl X x := by rfl) (hn : x ≠ "__name__" := by decide) (hdb : (x == ("__debug__" : Str)) = false := by decide)
    (he : starEach [a, .Name x p2] X.env = (false, eval a X.env) :: starEach [.Name x p2] X.env := by rfl) :
    GE w X (.Call (.Name "isinstance" px) [a, .Name x p2] [] pos) (k1 (pIsI ty) f) := by
  refine pe_imp (pe_callB call_isi hg hm PyProof.Rows.boot_isinstance (pa_cons ha (pa_cons (pe_bltn (v := .ty ty) hg2 hm2 hv rfl hn hdb) pa_nil) he) (by decide) (by decide) he) fun σ H Q h => ?_
  refine tE_1 (r := fun v H Q => rIsi X.K [v, .ty ty] H Q) ?_ h
  intro σ H Hf s φ v d l Q g r hp q
  cases hp
  rw [c.K]
  exact ⟨v, .ty ty, _, _, _, rfl, .ty ty, r.ty g.sub, kit_ty (ho d), q.d g (.bl _)⟩

/-! ### a[lo:hi] -/
def tP (w : Wd) (f : Option EV) : TO := fun σ H Q => ∃ Hf s φ o s', Good w σ H Hf s φ ∧ partOf f s = .ok (o, s') ∧
  ∀ H' Hf' φ', Good w σ H' Hf' s' φ' → Stp H Hf (Own s φ) H' Hf' (Own s' φ') → Q o H'
abbrev GP (w : Wd) (X : Cx) (e : Option Expr) (f : Option EV) : Prop := PO X e (tP w f)
theorem po_imp {X : Cx} {e : Option Expr} {t t' : TO} (h : PO X e t) (i : ∀ σ H Q, t' σ H Q → t σ H Q) : PO X e t' := ⟨fun pins s σ H Q I q => h.run pins s σ H Q I (i σ H Q q)⟩
theorem gp_none : GP w X none none := po_imp po_none fun σ H Q => by
  rintro ⟨Hf, s, φ, o, s', g, e, q⟩
  cases e
  exact q H Hf φ g Stp.refl
theorem gp_some {e : Expr} {f : EV} (h : GE w X e f) : GP w X (some e) (some f) := po_imp (po_some h) fun σ H Q => by
  rintro ⟨Hf, s, φ, o, s', g, e, q⟩
  obtain ⟨⟨d, s1⟩, h1, h2⟩ := R.bind_eq_ok.mp e
  obtain ⟨l1, h5, h6⟩ := kG_ok h1
  simp only at h2
  split at h2
  · cases h2
    exact ⟨Hf, s, φ, l1, _, g, h5, fun v H1 Hf1 φ1 F1 g1 r1 k1 => ⟨_, (r1.rw g1 h6).int, q H1 Hf1 φ1 g1 (k1.weak fun a => .inl)⟩⟩
  · cases h2
/-- t[lo:hi], a new tuple told by its object -/
def rSlF (K : PySem.W.Frag) : V → Option Int → Option Int → Hp → VK → Prop := fun x lo hi H Q => ∃ a xs, x = .ref a ∧ STup K H a xs ∧ (HT.sIx xs.length 0 lo = 0 ∧ HT.sIx xs.length xs.length hi = xs.length → Q (.ref a) H) ∧
  (¬ (HT.sIx xs.length 0 lo = 0 ∧ HT.sIx xs.length xs.length hi = xs.length) → ∀ p, H p = none → ∀ o : Obj, o.dict = none → Q (.ref p) (upd H p (.frz o (.tup (cutV xs lo hi)))))
theorem sl_tupF : SlR X (rSlF X.K) := by
  intro pins s σ H x v vl vu lo hi sl Q I rx hs pl pu ⟨a, xs, ex, hx, q1, q2⟩
  subst ex
  cases rx
  obtain ⟨its, r, ht, hz⟩ := I.tuple hx.sq
  have hlen : its.toArray.size = xs.length := by rw [List.size_toArray]; exact r.length.symm
  refine ⟨"tuple", _, PyProof.Rows.slot_tuple_getitem.lookup, ht.typeIs, ?_⟩
  by_cases hw : HT.sIx xs.length 0 lo = 0 ∧ HT.sIx xs.length xs.length hi = xs.length
  · exact getItem_tuple_whole ht hs pl pu (by rw [hlen]; exact hw) ⟨.ref a, H, I, rfl, q1 hw⟩
  · refine HT.getItem_tuple_cut ht hs pl pu (by rw [hlen]; exact hw) ?_ (by rw [hlen]; exact hz)
    rw [hlen]
    have hl := I.laid (t' := s.toks) (a := s.heap.objs.size) (h' := s.heap.push { cls := .type "tuple", data := .seq ((its.drop (HT.sIx xs.length 0 lo)).take (HT.sIx xs.length xs.length hi - HT.sIx xs.length 0 lo)).toArray })
      (o := .frz { cls := .type "tuple", data := .seq ((its.drop (HT.sIx xs.length 0 lo)).take (HT.sIx xs.length xs.length hi - HT.sIx xs.length 0 lo)).toArray } (.tup (cutV xs lo hi))) (fun b ob q => Heap.get?_push_of_some _ q) (Nat.le_refl _)
      ⟨Heap.get?_push_size _ rfl, Nat.le_trans (cutV_length xs lo hi) hz, _, (r.drop (HT.sIx xs.length 0 lo)).take (HT.sIx xs.length xs.length hi - HT.sIx xs.length 0 lo), IsTup.new _ _⟩
    exact ⟨.ref s.heap.objs.size, _, hl, rfl, q2 hw _ (I.hok.fresh (Nat.le_refl _)) _ rfl⟩
theorem cut_rp {K : PySem.W.Frag} {H : Hp} {vs : List V} {ds : List D} (r : RpA K H vs ds) (lo hi : Option Int) : RpA K H (cutV vs lo hi) (cutD ds lo hi) := by
  unfold cutV cutD
  rw [r.length]
  exact (r.drop _).take _
theorem cutD_whole {ds : List D} {lo hi : Option Int} (h : HT.sIx ds.length 0 lo = 0 ∧ HT.sIx ds.length ds.length hi = ds.length) : cutD ds lo hi = ds := by
  unfold cutD
  rw [h.1, h.2]
  simp
theorem ge_sl (c : Cok w k X) {e : Expr} {lo hi : Option Expr} {p2 : Pos} {f : EV} {fl fh : Option EV} (he : GE w X e f) (hl : GP w X lo fl) (hh : GP w X hi fh) : GE w X (.Subscript e (.Slice lo hi none p2) pos) (kSl f fl fh) := by
  refine pe_imp (pe_slice (r := fun x lo hi H Q => rSlL X.K x lo hi H Q ∨ rSlF X.K x lo hi H Q) (SlR.or sl_list sl_tupF) he hl hh) fun σ H Q => ?_
  rintro ⟨Hf, s, φ, l, s', g, e, q⟩
  obtain ⟨⟨l1, s1⟩, h1, h2⟩ := R.bind_eq_ok.mp e
  obtain ⟨⟨o1, s2⟩, h3, h4⟩ := R.bind_eq_ok.mp h2
  obtain ⟨⟨o2, s3⟩, h5, h6⟩ := R.bind_eq_ok.mp h4
  obtain ⟨d, h7, h8⟩ := R.bind_eq_ok.mp h6
  obtain ⟨l', h9, h10⟩ := R.bind_eq_ok.mp h8
  cases h10
  refine ⟨Hf, s, φ, l1, s1, g, h1, fun v H1 Hf1 φ1 F1 g1 r1 k1 => ⟨Hf1, s1, φ1, o1, s2, g1, h3, fun H2 Hf2 φ2 g2 k2 => ⟨Hf2, s2, φ2, o2, _, g2, h5, fun H3 Hf3 φ3 g3 k3 => ?_⟩⟩⟩
  have q3 := ((q.later k1 (fun a => .inl) g1).later k2 (fun _ => id) g2).later k3 (fun _ => id) g3
  have r3 := ((r1.stay (s' := s2) (φ' := φ2) k2 fun _ => id).stay (s' := s3) (φ' := φ3) k3 fun _ => id).rw g3 h7
  unfold pSl at h9
  split at h9
  · cases h9
    obtain ⟨a, vs, rfl, ha, r⟩ := r3.list g3.sub
    exact .inl ⟨a, vs, rfl, SqL.of ha, fun p hp => q3.lst g3 (cut_rp r o1 o2) hp⟩
  · cases h9
    have t := r3.tupR
    obtain ⟨a, vs, rfl, ha, r⟩ := r3.tup g3.sub
    refine .inr ⟨a, vs, rfl, by rw [c.K]; exact ha, fun e => ?_, fun _ p hp o ho => q3.tup g3 (cut_rp r o1 o2) hp ho⟩
    rw [r.length] at e
    rw [cutD_whole e] at q3
    exact q3.d g3 t
  · cases h9
theorem ge_rev {e : Expr} {j : Nat} {p1 p2 p3 : Pos} {f : EV} (he : GE w X e f) : GE w X (.Subscript e (.Slice none none (some (.UnaryOp .USub (.Constant (.int 1) j p1) p2)) p3) pos) (k1 pRev f) :=
  pe_imp (pe_revL he) fun σ H Q h => tE_1 (r := fun v H1 Q => ∃ a xs, v = .ref a ∧ SqL X.K H1 a xs ∧ ∀ p, H1 p = none → Q (.ref p) (upd H1 p (.lst xs.reverse))) (fun σ H Hf s φ v d l Q g r hp q => by
    unfold pRev at hp
    split at hp
    · cases hp
      obtain ⟨a, vs, rfl, ha, r⟩ := r.list g.sub
      exact ⟨a, vs, rfl, SqL.of ha, fun p hp => q.lst g r.rev hp⟩
    · cases hp) h

/-! ### a.index(b) -/
theorem firstAt_ok {d : D} : ∀ {ds : List D} {j : Nat}, firstAt d ds = some j → ∃ z, ds[j]? = some z ∧ PyData.eqv z d = true ∧ ∀ (m : Nat) (z' : D), m < j → ds[m]? = some z' → PyData.eqv z' d = false
  | [], _, h => by cases h
  | z :: r, j, h => by
    unfold firstAt at h
    split at h
    · rename_i e
      cases h
      exact ⟨z, rfl, e, fun m _ hm => absurd hm (Nat.not_lt_zero m)⟩
    · rename_i e
      obtain ⟨j', h1, rfl⟩ := Option.map_eq_some_iff.mp h
      obtain ⟨y, h2, h3, h4⟩ := firstAt_ok h1
      refine ⟨y, by simpa using h2, h3, fun m z' hm hz => ?_⟩
      cases m with
      | zero => simp at hz; subst hz; simpa using e
      | succ m => exact h4 m z' (by omega) (by simpa using hz)
def rIdxT (K : PySem.W.Frag) : V → List V → Hp → VK → Prop := fun x xs H Q => ∃ (y : V) (d : D) (ds : List D) (j : Nat), xs = [y] ∧ Dp K H x (.tuple ds) ∧ SeqAt.shaped (.tuple ds) = true ∧ Dp K H y d ∧ SeqAt.shaped d = true ∧ firstAt d ds = some j ∧ Q (.int (j : Nat)) H
theorem mt_indexT (c : Cok w k X) : MtR X "tuple.index" (rIdxT X.K) := by
  intro pins s σ H x xs v us Q I rx rxs ⟨y, d, ds, j, exs, hl, sl, hy, sd, hj, q⟩
  subst exs
  obtain ⟨z, hz, hzj, hno⟩ := firstAt_ok hj
  obtain ⟨uy, rfl, ry⟩ := vals1 rxs
  obtain ⟨bs, r1⟩ := Dp.reads I d y uy hy ry
  have hxs : PyData.canLayAll0 ds = true := by have := SeqAt.canLay_of_shaped sl; simpa only [PyData.canLay0] using this
  have hroom : X.A.units + 1 + min (PyData.depthAll ds) d.depth < cLine := room_in_shaped sd (by have := c.u; omega)
  cases hl with
  | tup hs ha =>
    cases rx
    obtain ⟨its, rv, ⟨⟨cls, dd, data, sls⟩, ho, hc, n, hd⟩, hlen⟩ := I.tuple hs
    simp only at hc hd
    subst hc hd
    obtain ⟨as, h4⟩ := Dp.readsAll I ds _ its ha rv
    have hn : its.length = ds.length := SeqAt.ReadsAll.length ds its as h4
    have hmap : its.map (SeqAt.readOf s.heap) = ds := SeqAt.readsAll_map ds its as hxs h4
    obtain ⟨hjd, _⟩ := List.getElem?_eq_some_iff.mp hz
    have hj' : j < its.toArray.size := by simpa [hn] using hjd
    have at_ : ∀ (m : Nat) (hm : m < its.toArray.size) (z' : D), ds[m]? = some z' → SeqAt.readOf s.heap its.toArray[m] = z' := by
      intro m hm z' hz'
      have hml : m < its.length := by simpa using hm
      rw [← hmap, List.getElem?_map, List.getElem?_eq_getElem hml] at hz'
      have e1 : SeqAt.readOf s.heap its[m] = z' := Option.some.inj (show some (SeqAt.readOf s.heap its[m]) = some z' from hz')
      simpa using e1
    refine call_meets PySem.F.slot_tuple_index ⟨_, ho, rfl⟩ PySem.F.entry_tuple_index (PySem.F.args_tuple_index_2 _ _)
      (TI.tuple_indexAt _ its.toArray n dd sls uy (fun u => PyData.eqv (SeqAt.readOf s.heap u) d) j hj' ?_ ?_) ⟨ho, SeqAt.items_eqAt (vs := its.toArray) (show ReadsAll s.heap its.toArray.toList ds as from h4) r1 hxs (SeqAt.canLay_of_shaped sd) hroom, ?_⟩
    · show PyData.eqv (SeqAt.readOf s.heap its.toArray[j]) d = true
      rw [at_ j hj' z hz]
      exact hzj
    · intro m hm hmj
      have hmd : m < ds.length := by omega
      have hz' : ds[m]? = some ds[m] := List.getElem?_eq_getElem hmd
      show PyData.eqv (SeqAt.readOf s.heap its.toArray[m]) d = false
      rw [at_ m hm _ hz']
      exact hno m _ hmj hz'
    · exact ⟨.int (j : Nat), H, I.tok _, ⟨_, rfl⟩, q⟩
/-! ### a method of a value whose type shows when it is there -/
def tyW (K : PySem.W.Frag) (T : String) (x : V) (H : Hp) : Prop :=
  (T = "list" ∧ ∃ a vs, x = .ref a ∧ H a = some (.lst vs)) ∨ (T = "tuple" ∧ ∃ a vs, x = .ref a ∧ STup K H a vs) ∨ (T = "dict" ∧ ∃ a vs, x = .ref a ∧ H a = some (.dK vs)) ∨ (T = "str" ∧ ∃ z, x = .str z)
theorem tyW_is {pins : List (Addr × Obj)} {σ : L2.St} {H : Hp} {s : Shared} {T : String} {x : V} {v : Value} (I : Inv X pins σ H s) (r : RelV x v) (ty : tyW X.K T x H) :
    s.TypeIs v T ∧ ∀ a, v = .ref a → ∃ ob, s.heap.get? a = some ob ∧ ob.dict = none := by
  rcases ty with ⟨rfl, a, vs, rfl, h⟩ | ⟨rfl, a, vs, rfl, h⟩ | ⟨rfl, a, vs, rfl, h⟩ | ⟨rfl, z, rfl⟩
  · exact tyV_is I r (T := "list") (.inl ⟨rfl, vs, SqL.of h⟩)
  · cases (show v = Value.ref a from r)
    rcases h with ⟨o, h, d⟩ | ⟨o, its, n, h1, h2, h3, _⟩
    · obtain ⟨e, _, its, _, o', e', hc, _⟩ := I.hok a _ h
      have : o' = o := Option.some.inj (e'.symm.trans e)
      subst this
      refine ⟨⟨o', e, hc⟩, fun b eb => ?_⟩
      cases eb
      exact ⟨o', e, d⟩
    · refine ⟨⟨o, I.kIn a o h1, h2⟩, fun b eb => ?_⟩
      cases eb
      exact ⟨o, I.kIn _ o h1, h3⟩
  · exact tyV_is I r (T := "dict") (.inr (.inr (.inl ⟨rfl, .inl ⟨vs, h⟩⟩)))
  · exact tyV_is I r (T := "str") rfl
/-- what a type has by that name -/
structure MeOk (X : Cx) (name : Str) (T id : String) (r : V → List V → Hp → VK → Prop) : Prop where
  pa : PlainAttrs T
  slot : Slot T name id
  ty : typeOf (.builtin id) = pure (.type "method_descriptor")
  mt : MtR X id r
def tMD (X : Cx) (name : Str) (to : TE) (t : TA) : TE := fun σ H Q => to σ H fun x H1 => ∃ T id r, MeOk X name T id r ∧ tyW X.K T x H1 ∧ t σ H1 fun vs H2 => r x vs H2 Q
section
variable {name : Str} {o e : Expr} {es : List Expr} {apos cpos : Pos} {to : TE} {t : TA}
theorem pe_md (ho : PE X o to) (ha : PA X (e :: es) t) (hbase : attributeBase o name X.env (eval o X.env) = eval o X.env)
    (hfew : ((backTo cpos (starEach (e :: es) X.env)).all (fun x => !x.1) && (backToKw cpos (keywordEach [] X.env)).all (fun x => x.1.isSome)
      && decide ((e :: es).length + ([] : List Keyword).length + (if ([] : List Keyword).isEmpty then 0 else 1) < 30)) = true)
    (hline : (apos.endLine == cpos.line) = true) (hs : starEach (e :: es) X.env = (false, eval e X.env) :: starEach es X.env) (hplain : (backTo cpos (starEach es X.env)).any (·.1) = false) :
    PE X (.Call (.Attribute o name apos) (e :: es) [] cpos) (tMD X name to t) := by
  refine ⟨fun pins s σ H Q I h => ?_⟩
  refine wpAny_Call_method_late hbase hfew hline rfl (thn (ho.run pins s σ H _ I h) fun v s1 ⟨x, H1, I1, r1, T, id, r, m, ty, q1⟩ => ?_)
  obtain ⟨h1, h2⟩ := tyW_is I1 r1 ty
  refine ⟨T, id, m.pa, m.slot, m.ty, h1, h2, ?_⟩
  have hA := ha.run cpos pins s1 σ H1 _ I1 q1
  rw [hs] at hA ⊢
  refine Calls.callWith_builtin (by show (false || (backTo cpos (starEach es X.env)).any (·.1)) = false; rw [hplain] <;> rfl) (Calls.evalArgs_plain ?_)
  exact thn hA fun us s2 ⟨vs, H2, I2, r2, q2⟩ => m.mt pins s2 σ H2 x vs v us Q I2 r1 r2 q2
theorem pe_md0 (ho : PE X o to) (hbase : attributeBase o name X.env (eval o X.env) = eval o X.env) (hline : (apos.endLine == cpos.line) = true) : PE X (.Call (.Attribute o name apos) [] [] cpos) (tMD X name to tNil) := by
  refine ⟨fun pins s σ H Q I h => ?_⟩
  refine wpAny_Call_method0_late hbase hline (thn (ho.run pins s σ H _ I h) fun v s1 ⟨x, H1, I1, r1, T, id, r, m, ty, q1⟩ => ?_)
  obtain ⟨h1, h2⟩ := tyW_is I1 r1 ty
  exact ⟨T, id, m.pa, m.slot, m.ty, h1, h2, Calls.callWith_builtin rfl (PySem.evalArgs_none (m.mt pins s1 σ H1 x [] v [] Q I1 r1 .nil q1))⟩
end
theorem Rw.tyL {K : PySem.W.Frag} {v : V} {ds : List D} (r : Rw K Hf H v (.list ds)) (s : Sub Hf H) : tyW K "list" v H := by
  obtain ⟨a, vs, rfl, ha, _⟩ := r.list s
  exact .inl ⟨rfl, a, vs, rfl, ha⟩
theorem Rw.tyT {K : PySem.W.Frag} {v : V} {ds : List D} (r : Rw K Hf H v (.tuple ds)) (s : Sub Hf H) : tyW K "tuple" v H := by
  obtain ⟨a, vs, rfl, ha, _⟩ := r.tup s
  exact .inr (.inl ⟨rfl, a, vs, rfl, ha⟩)
theorem Rw.tyD {K : PySem.W.Frag} {v : V} {ds : List (D × D)} (r : Rw K Hf H v (.dict ds)) (s : Sub Hf H) : tyW K "dict" v H := by
  obtain ⟨a, vs, rfl, ha, _⟩ := r.dict s
  exact .inr (.inr (.inl ⟨rfl, a, vs, rfl, ha⟩))
theorem me_indexL (c : Cok w k X) : MeOk X "index" "list" "list.index" (rIndexD X.K) := ⟨PySem.F.plainAttrs_list, PySem.F.slot_list_index, PySem.F.type_list_index, mt_indexD (by have := c.u; omega)⟩
theorem me_indexT (c : Cok w k X) : MeOk X "index" "tuple" "tuple.index" (rIdxT X.K) := ⟨PySem.F.plainAttrs_tuple, PySem.F.slot_tuple_index, PySem.F.type_tuple_index, mt_indexT c⟩
theorem ge_index (c : Cok w k X) {o e : Expr} {apos cpos : Pos} {f f' : EV} (ho : GE w X o f) (he : GE w X e f') (hbase : attributeBase o "index" X.env (eval o X.env) = eval o X.env := by rfl)
    (hfew : ((backTo cpos (starEach [e] X.env)).all (fun x => !x.1) && (backToKw cpos (keywordEach [] X.env)).all (fun x => x.1.isSome)
      && decide ([e].length + ([] : List Keyword).length + (if ([] : List Keyword).isEmpty then 0 else 1) < 30)) = true := by rfl)
    (hline : (apos.endLine == cpos.line) = true := by rfl) (hs : starEach [e] X.env = (false, eval e X.env) :: starEach [] X.env := by rfl) (hplain : (backTo cpos (starEach [] X.env)).any (·.1) = false := by rfl) :
    GE w X (.Call (.Attribute o "index" apos) [e] [] cpos) (kIndex f f') := by
  refine pe_imp (pe_md ho (pa_cons he pa_nil hs) hbase hfew hline hs hplain) fun σ H Q => ?_
  rintro ⟨Hf, s, φ, l, s', g, e, q⟩
  obtain ⟨⟨l1, s1⟩, h1, h2⟩ := R.bind_eq_ok.mp e
  obtain ⟨d0, h3, h4⟩ := R.bind_eq_ok.mp h2
  obtain ⟨⟨l2, s2⟩, h5, h6⟩ := R.bind_eq_ok.mp h4
  obtain ⟨d, h7, h8⟩ := R.bind_eq_ok.mp h6
  obtain ⟨e2, h9, h10⟩ := R.bind_eq_ok.mp h8
  simp only at h10
  split at h10
  · rename_i hq
    obtain ⟨l', h11, h12⟩ := R.bind_eq_ok.mp h10
    obtain ⟨e3, e4⟩ : l' = l ∧ s2 = s' := by cases h12; exact ⟨rfl, rfl⟩
    subst e3 e4
    clear h12
    refine ⟨Hf, s, φ, l1, s1, g, h1, fun v H1 Hf1 φ1 F1 g1 r1 k1 => ?_⟩
    have rest : ∀ (r : V → List V → Hp → VK → Prop), (∀ (v' : V) (H2 Hf2 : Hp) (φ2 : Nat → List Addr), Good w σ H2 Hf2 s2 φ2 → Rw w.K Hf2 H2 v d → Rw w.K Hf2 H2 v' e2 → PQ w σ H2 Hf2 s2 φ2 s2 l' Q → r v [v'] H2 Q) →
        tCons (tE w f') tNil σ H1 (fun vs H2 => r v vs H2 Q) := by
      intro r hr
      refine ⟨Hf1, s1, φ1, l2, s2, g1, h5, fun v' H2 Hf2 φ2 F2 g2 r2 k2 => ?_⟩
      exact hr v' H2 Hf2 φ2 g2 ((r1.stay (s' := s2) (φ' := φ2) k2 fun a => .inl).rw g2 h7) (r2.rw g2 h9) ((q.later k1 (fun a => .inl) g1).later k2 (fun a => .inl) g2)
    have w1 := r1.rw g1 h3
    cases d0 <;> cases d <;> first | cases hq | skip
    · refine ⟨"list", _, _, me_indexL c, by rw [c.K]; exact w1.tyL g1.sub, rest _ fun v' H2 Hf2 φ2 g2 w2 w3 q2 => ?_⟩
      simp only [pIndex] at h11
      split at h11
      · rename_i hb
        rw [Bool.and_eq_true] at hb
        split at h11
        · rename_i j hj
          cases h11
          obtain ⟨z, hz, hzj, hno⟩ := firstAt_ok hj
          have dp := w2.dp g2.sub (eqOk_lay hb.2)
          obtain ⟨a, vs, rfl, ha, _⟩ := w2.list g2.sub
          rw [c.K]
          exact ⟨a, v', _, _, j, z, rfl, rfl, dp, w3.dp g2.sub (eqOk_lay hb.1), hb.2, hb.1, hz, hzj, hno, q2.d g2 (.int _)⟩
        · cases h11
      · cases h11
    · refine ⟨"tuple", _, _, me_indexT c, by rw [c.K]; exact w1.tyT g1.sub, rest (rIdxT X.K) fun v' H2 Hf2 φ2 g2 w2 w3 q2 => ?_⟩
      simp only [pIndex] at h11
      split at h11
      · rename_i hb
        rw [Bool.and_eq_true] at hb
        split at h11
        · rename_i j hj
          cases h11
          unfold rIdxT
          rw [c.K]
          exact ⟨v', _, _, j, rfl, w2.dp g2.sub (eqOk_lay hb.2), hb.2, w3.dp g2.sub (eqOk_lay hb.1), hb.1, hj, q2.d g2 (.int _)⟩
        · cases h11
      · cases h11
  · cases h10
end
end KV

set_option Elab.async false
set_option linter.all false
set_option maxRecDepth 100000
set_option maxHeartbeats 2000000
/-! KVG: displays, stars, dicts made and asked, repetition. -/
namespace KV
open PySem L2
open PySem.Spec PyProof.Rows

section
variable {w : Wd} {k : Nat} {X : Cx} {pos : Pos} {σ : L2.St} {H Hf : Hp} {s s' : Sl} {φ : Nat → List Addr} {Q : VK}

/-! ### for good -/
theorem kD_ok {f : EV} {d : D} (h : kD f s = .ok (d, s')) : ∃ l s1, f s = .ok (l, s1) ∧ l.take s1 = .ok (d, s') := by
  obtain ⟨⟨l, s1⟩, h1, h2⟩ := R.bind_eq_ok.mp h
  exact ⟨l, s1, h1, h2⟩
/-- a value for good, and what follows -/
theorem tE_D {f : EV} {d : D} {R : V → Hp → Prop} (g : Good w σ H Hf s φ) (e : kD f s = .ok (d, s'))
    (h : ∀ v H' Hf' φ', Good w σ H' Hf' s' φ' → Rp w.K Hf' v d → Stp H Hf (Own s φ) H' Hf' (Own s' φ') → R v H') : tE w f σ H R := by
  obtain ⟨l, s1, h1, h2⟩ := kD_ok e
  refine ⟨Hf, s, φ, l, s1, g, h1, fun v H1 Hf1 φ1 F1 g1 r1 k1 => ?_⟩
  obtain ⟨Hf2, φ2, rp, g2, k2⟩ := r1.take g1 h2
  exact h v H1 Hf2 φ2 g2 rp (k1.trans k2 (fun _ => id) fun x hx => by
    rcases hx with hx | hx
    · exact g1.own_free hx
    · cases r1 with
      | d _ => cases hx
      | o _ => cases hx
      | t _ c => exact (c x hx).1)
theorem ga_nil : GA w X [] aNil := pa_imp pa_nil fun σ H Q => by
  rintro ⟨Hf, s, φ, ds, s', g, e, q⟩
  cases e
  exact q [] H Hf φ g .nil Stp.refl
theorem ga_cons {e : Expr} {es : List Expr} {f : EV} {g : AV} (he : GE w X e f) (hr : GA w X es g) (hs : starEach (e :: es) X.env = (false, eval e X.env) :: starEach es X.env := by rfl) : GA w X (e :: es) (aCons f g) := by
  refine pa_imp (pa_cons he hr hs) fun σ H Q => ?_
  rintro ⟨Hf, s, φ, ds, s', gd, e, q⟩
  obtain ⟨⟨d, s1⟩, h1, h2⟩ := R.bind_eq_ok.mp e
  obtain ⟨⟨es', s2⟩, h3, h4⟩ := R.bind_eq_ok.mp h2
  cases h4
  refine tE_D gd h1 fun v H1 Hf1 φ1 g1 r1 k1 => ⟨Hf1, s1, φ1, es', _, g1, h3, fun vs H2 Hf2 φ2 g2 r2 k2 => ?_⟩
  exact q (v :: vs) H2 Hf2 φ2 g2 (.cons (r1.mono k2.sub) r2) (k1.trans k2 (fun _ => id) fun x hx => g1.own_free hx)
theorem star_seqK {pins : List (Addr × Obj)} {st : Shared} {a : Addr} {vs : List V} {Q : List Value → Shared → Prop} {E : Value → Shared → Prop} (I : Inv X pins σ H st) (h : SqL X.K H a vs ∨ SqT X.K H a vs)
    (q : ∀ h' us, Inv X pins σ H { st with heap := h' } → Vals vs us → Q us { st with heap := h' }) : PySem.W.StarOf (model X.prog X.w) X.A E (.ref a) Q st := by
  unfold PySem.W.StarOf notIterableAtAll
  rcases h with h | h
  · obtain ⟨its, r, pl, hz⟩ := I.list h
    obtain ⟨o, ho, hc, n, hd⟩ := pl.isList
    exact wpAny_bind (wpAny_specialOf pl.isList.typeIs PySem.F.slot_list_iter.lookup (wpAny_pure ⟨rfl, wpAny_collect_seq a (.inl rfl) ho hc hd (fun h' hk => q h' _ (I.kept hk) (by simpa using r)) (by rw [List.size_toArray, ← r.length]; exact hz)⟩))
  · obtain ⟨its, r, ⟨o, ho, hc, n, hd⟩, hz⟩ := I.tuple h
    exact wpAny_bind (wpAny_specialOf ⟨o, ho, hc⟩ PySem.F.slot_tuple_iter.lookup (wpAny_pure ⟨rfl, wpAny_collect_seq a (.inr rfl) ho hc hd (fun h' hk => q h' _ (I.kept hk) (by simpa using r)) (by rw [List.size_toArray, ← r.length]; exact hz)⟩))
theorem pa_star {e : Expr} {es : List Expr} {p : Pos} {te : TE} {t : TA} (he : PE X e te) (hr : PA X es t) (hs : starEach (.Starred e p :: es) X.env = (true, eval e X.env) :: starEach es X.env := by rfl) :
    PA X (.Starred e p :: es) (fun σ H Q => te σ H fun x H1 => ∃ a vs, x = .ref a ∧ (SqL X.K H1 a vs ∨ SqT X.K H1 a vs) ∧ t σ H1 fun ws H2 => Q (vs ++ ws) H2) := by
  refine ⟨fun pos pins s σ H Q I h => ?_⟩
  refine PySem.W.items_star (thn (he.run pins s σ H _ I h) fun v s1 ⟨x, H1, I1, r1, a, vs, ex, hq, q⟩ => ?_) hs
  subst ex
  cases r1
  refine star_seqK I1 hq fun h' us I2 r2 => ?_
  exact thn (hr.run pos pins _ σ H1 _ I2 q) fun ws s2 ⟨zs, H2, I3, r3, q3⟩ => ⟨vs ++ zs, H2, I3, r2.append r3, q3⟩
theorem seqOf_ok {d : D} {xs : List D} (h : seqOf d = .ok xs) : d = .list xs ∨ d = .tuple xs := by
  unfold seqOf at h
  split at h
  · cases h; exact .inl rfl
  · cases h; exact .inr rfl
  · cases h
theorem ga_star (c : Cok w k X) {e : Expr} {es : List Expr} {p : Pos} {f : EV} {g : AV} (he : GE w X e f) (hr : GA w X es g) (hs : starEach (.Starred e p :: es) X.env = (true, eval e X.env) :: starEach es X.env := by rfl) : GA w X (.Starred e p :: es) (aStar f g) := by
  refine pa_imp (pa_star he hr hs) fun σ H Q => ?_
  rintro ⟨Hf, s, φ, ds, s', gd, e, q⟩
  obtain ⟨⟨d, s1⟩, h1, h2⟩ := R.bind_eq_ok.mp e
  obtain ⟨xs, h3, h4⟩ := R.bind_eq_ok.mp h2
  obtain ⟨⟨ys, s2⟩, h5, h6⟩ := R.bind_eq_ok.mp h4
  obtain ⟨l1, h7, h8⟩ := kG_ok h1
  cases h6
  refine ⟨Hf, s, φ, l1, s1, gd, h7, fun v H1 Hf1 φ1 F1 g1 r1 k1 => ?_⟩
  have w1 := r1.rw g1 h8
  have fin : ∀ vs, RpA w.K Hf1 vs xs → tA w g σ H1 fun ws H2 => Q (vs ++ ws) H2 := fun vs r => ⟨Hf1, s1, φ1, ys, _, g1, h5, fun ws H2 Hf2 φ2 g2 r2 k2 =>
    q (vs ++ ws) H2 Hf2 φ2 g2 ((r.mono k2.sub).append r2) ((k1.weak (P2 := Own s1 φ1) (fun _ h => .inl h)).trans k2 (fun _ => id) fun x hx => g1.own_free hx)⟩
  rcases seqOf_ok h3 with rfl | rfl
  · obtain ⟨a, vs, rfl, ha, r⟩ := w1.list g1.sub
    exact ⟨a, vs, rfl, .inl (SqL.of ha), fin vs r⟩
  · obtain ⟨a, vs, rfl, ha, r⟩ := w1.tup g1.sub
    exact ⟨a, vs, rfl, .inr (by rw [c.K]; exact ha.sq), fin vs r⟩

/-! ### displays -/
def tTupF (t : TA) : TE := fun σ H Q => t σ H fun xs H1 => xs.length ≤ sizeLine ∧ ∀ p, H1 p = none → ∀ o : Obj, o.dict = none → Q (.ref p) (upd H1 p (.frz o (.tup xs)))
theorem pe_tupF {x1 : Nat} {es : List Expr} {t : TA} (h : PA X es t) : PE X (.Tuple es x1 pos) (tTupF t) := by
  refine ⟨fun pins s σ H Q I hq => ?_⟩
  refine wpAny_Tuple_spliced (thn (h.run pos pins s σ H _ I hq) fun us s1 ⟨xs, H1, I1, r, z, q⟩ => ⟨by rw [← r.length]; exact z, ?_⟩)
  have hl := I1.laid (t' := s1.toks) (a := s1.heap.objs.size) (h' := s1.heap.push { cls := .type "tuple", data := .seq us.toArray }) (o := .frz { cls := .type "tuple", data := .seq us.toArray } (.tup xs)) (fun b u e => Heap.get?_push_of_some _ e) (Nat.le_refl _)
    ⟨Heap.get?_push_size _ rfl, z, us, r, ⟨_, Heap.get?_push_size _ rfl, rfl, _, rfl⟩⟩
  exact ⟨.ref s1.heap.objs.size, _, hl, rfl, q _ (I1.hok.fresh (Nat.le_refl _)) _ rfl⟩
theorem ge_tup {x1 : Nat} {es : List Expr} {g : AV} (h : GA w X es g) : GE w X (.Tuple es x1 pos) (kTup g) := by
  refine pe_imp (pe_tupF h) fun σ H Q => ?_
  rintro ⟨Hf, s, φ, l, s', gd, e, q⟩
  obtain ⟨⟨ds, s1⟩, h1, h2⟩ := R.bind_eq_ok.mp e
  simp only at h2
  split at h2
  · rename_i hz
    cases h2
    refine ⟨Hf, s, φ, ds, _, gd, h1, fun vs H1 Hf1 φ1 g1 r1 k1 => ⟨by rw [r1.length]; exact sz_line (szOk_le hz), fun p hp o ho => (q.later k1 (fun _ => id) g1).tup g1 r1 hp ho⟩⟩
  · cases h2
theorem ge_lst {es : List Expr} {g : AV} (h : GA w X es g) : GE w X (.List es pos) (kLst g) := by
  refine pe_imp (pe_lst h) fun σ H Q => ?_
  rintro ⟨Hf, s, φ, l, s', gd, e, q⟩
  obtain ⟨⟨ds, s1⟩, h1, h2⟩ := R.bind_eq_ok.mp e
  simp only at h2
  split at h2
  · rename_i hz
    cases h2
    refine ⟨Hf, s, φ, ds, _, gd, h1, fun vs H1 Hf1 φ1 g1 r1 k1 => ⟨by rw [r1.length]; exact sz_line (szOk_le hz), fun p hp => (q.later k1 (fun _ => id) g1).lst g1 r1 hp⟩⟩
  · cases h2

/-! ### dict(pairs), d.get -/
theorem pairs_rp {K : PySem.W.Frag} {H Hf : Hp} (sub : Sub Hf H) : ∀ {vs : List V} {ds : List D} {ps : List (D × D)}, RpA K Hf vs ds → pairsOf ds = some ps →
    ∃ (as : List Addr) (kvs : List (Key × V)), vs = as.map V.ref ∧ Paired (fun p kv => SqT K H p [kV kv.1, kv.2]) as kvs ∧ RpKv K Hf kvs ps
  | _, _, _, .nil, h => by cases h; exact ⟨[], [], rfl, .nil, .nil⟩
  | _, _, _, .cons (d := d) (ds := ds) r t, h => by
    unfold pairsOf at h
    split at h
    · rename_i e; cases e
    · rename_i e
      cases e
      split at h
      · rename_i hk
        obtain ⟨qs, h1, rfl⟩ := Option.map_eq_some_iff.mp h
        obtain ⟨as, kvs, rfl, h2, h3⟩ := pairs_rp sub t h1
        obtain ⟨ky, hk⟩ := Option.isSome_iff_exists.mp hk
        have e := keyOf_some hk
        subst e
        cases r with
        | tup hs ra =>
          cases ra with
          | cons r1 ra =>
            cases ra with
            | cons r2 ra =>
              cases ra
              have ev := (Rw.st (H := Hf) r1).key
              subst ev
              exact ⟨_ :: as, (ky, _) :: kvs, rfl, .cons (sub.sqT hs.sq) h2, .cons r2 h3⟩
      · cases h
    · cases h
theorem merge_rp {K : PySem.W.Frag} {H : Hp} : ∀ {kvs : List (Key × V)} {ps : List (D × D)} {acc : List (Key × V)} {ads : List (D × D)}, RpKv K H kvs ps → RpKv K H acc ads → RpKv K H (mergeK acc kvs) (mergeD ads ps)
  | _, _, _, _, .nil, r => r
  | _, _, _, _, .cons (k := k) (kvs := kvs) (ds := ps) h t, r => by
    exact merge_rp (kvs := kvs) (ps := ps) t (r.put k h)
theorem ge_dictL (hm : X.mg "dict" = none) (c : Cok w k X) {a : Expr} {f : EV} {px : Pos} (ha : GE w X a f) (hg : Gl X "dict" := by rfl) (he : starEach [a] X.env = (false, eval a X.env) :: starEach [] X.env := by rfl) : GE w X (.Call (.Name "dict" px) [a] [] pos) (k1 pDict f) := by
  refine ge_t1 (call_dictP c.calm) ?_ hm ha PyProof.Rows.boot_dict hg (by decide) (by decide) he
  intro σ H Hf s φ v d l Q g r hp q
  unfold pDict at hp
  split at hp
  · split at hp
    · rename_i ds ps hps
      cases hp
      obtain ⟨a, vs, rfl, ha, r⟩ := r.list g.sub
      obtain ⟨as, kvs, rfl, h2, h3⟩ := pairs_rp g.sub r hps
      rw [c.K]
      exact ⟨a, as, kvs, rfl, SqL.of ha, h2, fun p hp => q.dct g (merge_rp h3 .nil) hp⟩
    · cases hp
  · cases hp
theorem Vs.key {v : V} {d : D} (h : Vs v d) : ∃ ky, d = keyD ky ∧ v = kV ky := by
  cases h with
  | int i => exact ⟨.inl i, rfl, rfl⟩
  | str x => exact ⟨.inr x, rfl, rfl⟩
theorem m1_of {o e : Expr} {nm : Str} {apos cpos : Pos} (h1 : attributeBase o nm X.env (eval o X.env) = eval o X.env)
    (h2 : ((backTo cpos (starEach [e] X.env)).all (fun x => !x.1) && (backToKw cpos (keywordEach [] X.env)).all (fun x => x.1.isSome) && decide (([e] : List Expr).length + ([] : List Keyword).length + (if ([] : List Keyword).isEmpty then 0 else 1) < 30)) = true)
    (h3 : (apos.endLine == cpos.line) = true) (h4 : backTo cpos (starEach [e] X.env) = [(false, eval e X.env)]) : M1 X o nm apos e cpos := ⟨h1, h2, h3, h4⟩
theorem ge_get1 (c : Cok w k X) {o e : Expr} {apos cpos : Pos} {f f' : EV} (ho : GE w X o f) (he : GE w X e f') (m : M1 X o "get" apos e cpos := by exact ⟨rfl, rfl, rfl, rfl⟩) : GE w X (.Call (.Attribute o "get" apos) [e] [] cpos) (kGet1 f f') := by
  refine pe_imp (pe_dget1 (by have := c.u; omega) ho he m) fun σ H Q => ?_
  rintro ⟨Hf, s, φ, l, s', gd, e, q⟩
  obtain ⟨⟨l1, s1⟩, h1, h2⟩ := R.bind_eq_ok.mp e
  obtain ⟨d0, h3, h4⟩ := R.bind_eq_ok.mp h2
  simp only at h4
  split at h4
  · rename_i hd0
    obtain ⟨⟨kd, s2⟩, h5, h6⟩ := R.bind_eq_ok.mp h4
    obtain ⟨d, h7, h8⟩ := R.bind_eq_ok.mp h6
    obtain ⟨l2, h9, h10, h11⟩ := kS_ok h5
    simp only at h8
    split at h8
    · rename_i kvs
      obtain ⟨e3, e4⟩ : s2 = s' ∧ L.d ((lookD kvs kd).getD .none) = l := by cases h8; exact ⟨rfl, rfl⟩
      subst e3 e4
      refine ⟨Hf, s, φ, l1, s1, gd, h1, fun v H1 Hf1 φ1 F1 g1 r1 k1 => ?_⟩
      have w1 := r1.rw g1 h3
      cases d0 with
      | dict k0 =>
        obtain ⟨a, vs, rfl, ha, _⟩ := w1.dict g1.sub
        refine ⟨a, rfl, .inl ⟨vs, .inl ha⟩, ⟨Hf1, s1, φ1, l2, s2, g1, h9, fun v' H2 Hf2 φ2 F2 g2 r2 k2 => ?_⟩⟩
        have w2 := (r1.stay (s' := s2) (φ' := φ2) k2 fun a => .inl).rw g2 h7
        obtain ⟨ky, rfl, rfl⟩ := (Vs.of (r2.rw g2 h10) h11).key
        obtain ⟨a', kvs', ea, ha', rk⟩ := w2.dict g2.sub
        cases ea
        have q2 := (q.later k1 (fun a => .inl) g1).later k2 (fun a => .inl) g2
        refine ⟨_, DGet.k ha', ?_⟩
        rcases rk.look ky with ⟨e1, e2⟩ | ⟨d', v', e1, e2, r3⟩
        · rw [e1] at q2; rw [e2]; exact q2.d g2 .non
        · rw [e1] at q2; rw [e2]; exact q2.d g2 r3
      | none => cases hd0
      | bool b => cases hd0
      | int b => cases hd0
      | str b => cases hd0
      | list b => cases hd0
      | tuple b => cases hd0
    · cases h8
  · cases h4
theorem ge_get2 (c : Cok w k X) {o e e2 : Expr} {apos cpos : Pos} {f f' f'' : EV} (ho : GE w X o f) (he : GE w X e f') (hx : GE w X e2 f'') (m : M2 X o "get" apos e e2 cpos := by exact ⟨rfl, rfl, rfl, rfl⟩) : GE w X (.Call (.Attribute o "get" apos) [e, e2] [] cpos) (kGet2 f f' f'') := by
  refine pe_imp (pe_dget2 (by have := c.u; omega) ho he hx m) fun σ H Q => ?_
  rintro ⟨Hf, s, φ, l, s', gd, e, q⟩
  obtain ⟨⟨l1, s1⟩, h1, h2⟩ := R.bind_eq_ok.mp e
  obtain ⟨d0, h3, h4⟩ := R.bind_eq_ok.mp h2
  simp only at h4
  split at h4
  · rename_i hd0
    obtain ⟨⟨kd, s2⟩, h5, h6⟩ := R.bind_eq_ok.mp h4
    obtain ⟨⟨xd, s3⟩, h7, h8⟩ := R.bind_eq_ok.mp h6
    obtain ⟨d, h9, h10⟩ := R.bind_eq_ok.mp h8
    obtain ⟨l2, h11, h12, h13⟩ := kS_ok h5
    simp only at h10
    split at h10
    · rename_i kvs
      obtain ⟨e3, e4⟩ : s3 = s' ∧ L.d ((lookD kvs kd).getD xd) = l := by cases h10; exact ⟨rfl, rfl⟩
      subst e3 e4
      refine ⟨Hf, s, φ, l1, s1, gd, h1, fun v H1 Hf1 φ1 F1 g1 r1 k1 => ?_⟩
      have w1 := r1.rw g1 h3
      cases d0 with
      | dict k0 =>
        obtain ⟨a, vs, rfl, ha, _⟩ := w1.dict g1.sub
        refine ⟨a, rfl, .inl ⟨vs, .inl ha⟩, ⟨Hf1, s1, φ1, l2, s2, g1, h11, fun v' H2 Hf2 φ2 F2 g2 r2 k2 => ?_⟩⟩
        obtain ⟨ky, rfl, rfl⟩ := (Vs.of (r2.rw g2 h12) h13).key
        refine tE_D g2 h7 fun v3 H3 Hf3 φ3 g3 r3 k3 => ?_
        have w3 := ((r1.stay (s' := s2) (φ' := φ2) k2 fun a => .inl).stay (s' := s3) (φ' := φ3) k3 fun _ => id).rw g3 h9
        obtain ⟨a', kvs', ea, ha', rk⟩ := w3.dict g3.sub
        cases ea
        have q3 := ((q.later k1 (fun a => .inl) g1).later k2 (fun a => .inl) g2).later k3 (fun _ => id) g3
        refine ⟨_, DGet.k ha', ?_⟩
        rcases rk.look ky with ⟨e1, e2⟩ | ⟨d', v', e1, e2, r4⟩
        · rw [e1] at q3; rw [e2]; exact q3.d g3 r3
        · rw [e1] at q3; rw [e2]; exact q3.d g3 r4
      | none => cases hd0
      | bool b => cases hd0
      | int b => cases hd0
      | str b => cases hd0
      | list b => cases hd0
      | tuple b => cases hd0
    · cases h10
  · cases h4
end
end KV

set_option Elab.async false
set_option linter.all false
set_option maxRecDepth 100000
set_option maxHeartbeats 2000000
/-! KVH: slots that are set, statements, targets, loops. -/
namespace KV
open PySem L2
open PySem.Spec PyProof.Rows

section
variable {w : Wd} {k : Nat} {X : Cx} {pos : Pos} {σ : L2.St} {H Hf : Hp} {s s' : Sl} {φ : Nat → List Addr} {Q : VK} {io : List Nat}

theorem set_at {i j : Nat} {t u : T} {s : Sl} (q : (s.set i (some t))[j]? = some (some u)) : (j = i ∧ u = t ∧ i < s.length) ∨ (j ≠ i ∧ s[j]? = some (some u)) := by
  by_cases z : j = i
  · subst z
    by_cases h : j < s.length
    · rw [List.getElem?_set_self h] at q
      cases q
      exact .inl ⟨rfl, rfl, h⟩
    · rw [List.getElem?_eq_none (by rw [List.length_set]; omega)] at q; cases q
  · rw [List.getElem?_set_ne (Ne.symm z)] at q
    exact .inr ⟨z, q⟩
theorem clr_at {i j : Nat} {u : T} {s : Sl} (q : (s.set i none)[j]? = some (some u)) : j ≠ i ∧ s[j]? = some (some u) := by
  by_cases z : j = i
  · subst z
    by_cases h : j < s.length
    · rw [List.getElem?_set_self h] at q; cases q
    · rw [List.getElem?_eq_none (by rw [List.length_set]; omega)] at q; cases q
  · rw [List.getElem?_set_ne (Ne.symm z)] at q
    exact ⟨z, q⟩
def phi (φ : Nat → List Addr) (i : Nat) (F : List Addr) : Nat → List Addr := fun j => if j = i then F else φ j
theorem phi_same {i : Nat} {F : List Addr} : phi φ i F i = F := if_pos rfl
theorem phi_ne {i j : Nat} {F : List Addr} (h : j ≠ i) : phi φ i F j = φ j := if_neg h
theorem Good.set {v : V} {t : T} {F : List Addr} {i : Nat} (g : Good w σ H Hf s φ) (r : OR w Hf H v t F) (c : ∀ a ∈ F, Hf a = none ∧ ∀ j u, j ≠ i → s[j]? = some (some u) → a ∉ φ j) :
    Good w (σ.set i (some v)) H Hf (s.set i (some t)) (phi φ i F) ∧ ∀ a, Own (s.set i (some t)) (phi φ i F) a → Own s φ a ∨ a ∈ F := by
  refine ⟨⟨g.sub, by rw [List.length_set, List.length_set]; exact g.len, fun j u q => ?_, fun j u a q m => ?_, fun j k u u' a q1 q2 m1 m2 => ?_⟩, fun a q => ?_⟩
  · rcases set_at q with ⟨rfl, rfl, h⟩ | ⟨z, q⟩
    · rw [phi_same]
      exact ⟨v, List.getElem?_set_self (by rw [← g.len]; exact h), r⟩
    · rw [phi_ne z]
      obtain ⟨v', e, r'⟩ := g.here j u q
      exact ⟨v', by rw [List.getElem?_set_ne (Ne.symm z)]; exact e, r'⟩
  · rcases set_at q with ⟨rfl, rfl, h⟩ | ⟨z, q⟩
    · rw [phi_same] at m; exact (c a m).1
    · rw [phi_ne z] at m; exact g.fr j u a q m
  · rcases set_at q1 with ⟨e1, _, _⟩ | ⟨z1, p1⟩
    · rcases set_at q2 with ⟨e2, _, _⟩ | ⟨z2, p2⟩
      · rw [e1, e2]
      · rw [e1, phi_same] at m1; rw [phi_ne z2] at m2
        exact ((c a m1).2 k u' z2 p2 m2).elim
    · rcases set_at q2 with ⟨e2, _, _⟩ | ⟨z2, p2⟩
      · rw [e2, phi_same] at m2; rw [phi_ne z1] at m1
        exact ((c a m2).2 j u z1 p1 m1).elim
      · rw [phi_ne z1] at m1; rw [phi_ne z2] at m2
        exact g.dj j k u u' a p1 p2 m1 m2
  · obtain ⟨j, u, q, m⟩ := q
    rcases set_at q with ⟨e, _, _⟩ | ⟨z, q⟩
    · rw [e, phi_same] at m; exact .inr m
    · rw [phi_ne z] at m; exact .inl ⟨j, u, q, m⟩
theorem Good.clr {i : Nat} (g : Good w σ H Hf s φ) : Good w σ H Hf (s.set i none) φ ∧ ∀ a, Own (s.set i none) φ a → Own s φ a :=
  ⟨⟨g.sub, by rw [List.length_set]; exact g.len, fun j u q => g.here j u (clr_at q).2, fun j u a q m => g.fr j u a (clr_at q).2 m, fun j k u u' a q1 q2 m1 m2 => g.dj j k u u' a (clr_at q1).2 (clr_at q2).2 m1 m2⟩,
    fun a ⟨j, u, q, m⟩ => ⟨j, u, (clr_at q).2, m⟩⟩
/-- an object of nobody's slot is written -/
theorem Good.updO {a : Addr} {o : HO} (g : Good w σ H Hf s φ) (hf : Hf a = none) (no : ¬ Own s φ a) : Good w σ (upd H a o) Hf s φ := by
  refine ⟨fun x u e => ?_, g.len, fun i t e => ?_, g.fr, g.dj⟩
  · have : x ≠ a := fun z => by rw [z, hf] at e; cases e
    rw [upd_ne this]; exact g.sub x u e
  · obtain ⟨v, e1, r⟩ := g.here i t e
    refine ⟨v, e1, r.stay (Sub.refl _) fun x hx u q => ?_⟩
    have : x ≠ a := fun z => no ⟨i, t, e, z ▸ hx⟩
    rw [upd_ne this]; exact q
/-- a slot's own object is written -/
theorem Good.updS {a : Addr} {o : HO} {i : Nat} {t t' : T} (g : Good w σ H Hf s φ) (h : s[i]? = some (some t)) (e : φ i = [a]) {v : V} (hv : σ[i]? = some (some v)) (r : OR w Hf (upd H a o) v t' [a]) :
    Good w σ (upd H a o) Hf (s.set i (some t')) φ ∧ ∀ x, Own (s.set i (some t')) φ x → Own s φ x := by
  have hf : Hf a = none := g.fr i t a h (by rw [e]; simp)
  refine ⟨⟨fun x u q => ?_, by rw [List.length_set]; exact g.len, fun j u q => ?_, fun j u x q m => ?_, fun j k u u' x q1 q2 m1 m2 => ?_⟩, fun x q => ?_⟩
  · have : x ≠ a := fun z => by rw [z, hf] at q; cases q
    rw [upd_ne this]; exact g.sub x u q
  · rcases set_at q with ⟨rfl, rfl, _⟩ | ⟨z, q⟩
    · rw [e]; exact ⟨v, hv, r⟩
    · obtain ⟨v', e1, r'⟩ := g.here j u q
      refine ⟨v', e1, r'.stay (Sub.refl _) fun x hx u' q' => ?_⟩
      have : x ≠ a := fun y => z (g.dj j i u t x q h hx (by rw [e, y]; simp))
      rw [upd_ne this]; exact q'
  · rcases set_at q with ⟨rfl, _, _⟩ | ⟨z, q⟩
    · exact g.fr _ t x h m
    · exact g.fr j u x q m
  · have fix : ∀ {j : Nat} {u : T}, (s.set i (some t'))[j]? = some (some u) → ∃ u0, s[j]? = some (some u0) := fun {j u} q => by
      rcases set_at q with ⟨rfl, _, _⟩ | ⟨_, q⟩
      · exact ⟨_, h⟩
      · exact ⟨_, q⟩
    obtain ⟨u1, q1⟩ := fix q1
    obtain ⟨u2, q2⟩ := fix q2
    exact g.dj j k u1 u2 x q1 q2 m1 m2
  · obtain ⟨j, u, q, m⟩ := q
    rcases set_at q with ⟨rfl, _, _⟩ | ⟨_, q⟩
    · exact ⟨_, _, h, m⟩
    · exact ⟨_, _, q, m⟩
theorem Stp.updO {H1 Hf1 : Hp} {P P1 : Addr → Prop} {a : Addr} {o : HO} (c : Stp H Hf P H1 Hf1 P1) (hp : P1 a) (hn : Hf1 a = none) : Stp H Hf P (upd H1 a o) Hf1 P1 := by
  refine ⟨c.sub, fun x u e n => ?_, c.new⟩
  have : x ≠ a := fun z => by
    subst z
    rcases c.new x (.inl hp) with q | q | q
    · exact n q
    · cases e1 : Hf x with
      | none => exact q e1
      | some u' => have := c.sub x u' e1; rw [hn] at this; cases this
    · rw [e] at q; cases q
  rw [upd_ne this]; exact c.keep x u e n

/-! ### a value comes into a slot -/
theorem RL.put {v : V} {l : L} {F : List Addr} {i : Nat} (r : RL w σ Hf H s φ v l F) (g : Good w σ H Hf s φ) (e : setL i l s = .ok s') :
    ∃ φ', Good w (σ.set i (some v)) H Hf s' φ' ∧ ∀ a, Own s' φ' a → Own s φ a ∨ a ∈ F := by
  cases r with
  | d r =>
    cases e
    exact ⟨_, g.set (.val r) fun a ha => nomatch ha⟩
  | t r c =>
    cases e
    exact ⟨_, g.set r fun a ha => ⟨(c a ha).1, fun j u _ q m => (c a ha).2 ⟨j, u, q, m⟩⟩⟩
  | o h =>
    rename_i j
    simp only [setL] at e
    split at e
    · rename_i t ht
      cases e
      obtain ⟨v', e1, r⟩ := g.here j t ht
      rw [h] at e1; cases e1
      obtain ⟨g1, o1⟩ := g.clr (i := j)
      obtain ⟨g2, o2⟩ := g1.set (i := i) r fun a ha => ⟨g.fr j t a ht ha, fun k u _ q m => (clr_at q).1 (g.dj k j u t a (clr_at q).2 ht m ha)⟩
      refine ⟨_, g2, fun a q => ?_⟩
      rcases o2 a q with q | q
      · exact .inl (o1 a q)
      · exact .inl ⟨j, t, ht, q⟩
    · cases e

/-! ### statements -/
/-- the slots io hold what they held -/
def Kp (io : List Nat) (σ σ' : L2.St) : Prop := ∀ i ∈ io, σ'[i]? = σ[i]?
theorem Kp.refl {io : List Nat} {σ : L2.St} : Kp io σ σ := fun _ _ => rfl
theorem Kp.trans {io : List Nat} {σ σ1 σ2 : L2.St} (a : Kp io σ σ1) (b : Kp io σ1 σ2) : Kp io σ σ2 := fun i h => (b i h).trans (a i h)
theorem Kp.set {io : List Nat} {σ : L2.St} {i : Nat} {v : Option V} (h : i ∉ io) : Kp io σ (σ.set i v) := fun j hj => List.getElem?_set_ne fun z => h (by rw [z]; exact hj)
theorem Kp.of {io ts : List Nat} {σ σ' : L2.St} (h : ∀ i, i ∉ ts → σ'[i]? = σ[i]?) (d : ∀ i ∈ ts, i ∉ io) : Kp io σ σ' := fun i hi => h i fun z => d i z hi
/-- what follows a statement -/
def PP (w : Wd) (io : List Nat) (σ : L2.St) (H Hf : Hp) (s : Sl) (φ : Nat → List Addr) (D : Ends) : Fl → Sl → Prop
  | .nx, s' => ∀ σ' H' Hf' φ', Good w σ' H' Hf' s' φ' → Stp H Hf (Own s φ) H' Hf' (Own s' φ') → Kp io σ σ' → D.nx σ' H'
  | .bk, s' => ∀ σ' H' Hf' φ', Good w σ' H' Hf' s' φ' → Stp H Hf (Own s φ) H' Hf' (Own s' φ') → Kp io σ σ' → D.bk σ' H'
  | .ct, s' => ∀ σ' H' Hf' φ', Good w σ' H' Hf' s' φ' → Stp H Hf (Own s φ) H' Hf' (Own s' φ') → Kp io σ σ' → D.ct σ' H'
  | .rt t, s' => ∀ v σ' H' Hf' φ' F, Good w σ' H' Hf' s' φ' → OR w Hf' H' v t F → (∀ a ∈ F, Hf' a = none ∧ ¬ Own s' φ' a) → Stp H Hf (Own s φ) H' Hf' (fun a => Own s' φ' a ∨ a ∈ F) → Kp io σ σ' → D.rt v H'
def tS (w : Wd) (io : List Nat) (f : SV) : TS := fun D σ H => ∃ Hf s φ fl s', Good w σ H Hf s φ ∧ f s = .ok (fl, s') ∧ PP w io σ H Hf s φ D fl s'
abbrev GS (w : Wd) (io : List Nat) (X : Cx) (st : Stmt) (f : SV) : Prop := PS X st (tS w io f)
abbrev GSs (w : Wd) (io : List Nat) (X : Cx) (sts : List Stmt) (f : SV) : Prop := PSs X sts (tS w io f)
theorem ps_imp {X : Cx} {st : Stmt} {t t' : TS} (h : PS X st t) (i : ∀ D σ H, t' D σ H → t D σ H) : PS X st t' := ⟨fun pins s σ H D I q => h.run pins s σ H D I (i D σ H q)⟩
theorem pss_imp {X : Cx} {st : List Stmt} {t t' : TS} (h : PSs X st t) (i : ∀ D σ H, t' D σ H → t D σ H) : PSs X st t' := ⟨fun pins s σ H D I q => h.run pins s σ H D I (i D σ H q)⟩
theorem PP.later {D : Ends} {fl : Fl} {s1 : Sl} {H1 Hf1 : Hp} {σ1 : L2.St} {φ1 : Nat → List Addr} {P1 : Addr → Prop} (q : PP w io σ H Hf s φ D fl s') (k : Stp H Hf (Own s φ) H1 Hf1 P1) (hp : ∀ a, Own s1 φ1 a → P1 a) (g1 : Good w σ1 H1 Hf1 s1 φ1) (kp : Kp io σ σ1 := by exact Kp.refl) : PP w io σ1 H1 Hf1 s1 φ1 D fl s' := by
  cases fl with
  | nx => exact fun σ' H' Hf' φ' g k' kp' => q σ' H' Hf' φ' g (k.trans k' hp fun x hx => g1.own_free hx) (kp.trans kp')
  | bk => exact fun σ' H' Hf' φ' g k' kp' => q σ' H' Hf' φ' g (k.trans k' hp fun x hx => g1.own_free hx) (kp.trans kp')
  | ct => exact fun σ' H' Hf' φ' g k' kp' => q σ' H' Hf' φ' g (k.trans k' hp fun x hx => g1.own_free hx) (kp.trans kp')
  | rt t => exact fun v σ' H' Hf' φ' F g r c k' kp' => q v σ' H' Hf' φ' F g r c (k.trans k' hp fun x hx => g1.own_free hx) (kp.trans kp')
theorem gss_nil : GSs w io X [] sNil := pss_imp pss_nil fun D σ H => by
  rintro ⟨Hf, s, φ, fl, s', g, e, q⟩
  cases e
  exact q σ H Hf φ g Stp.refl Kp.refl
theorem gs_pass : GS w io X (.Pass pos) sNil := ps_imp ps_pass fun D σ H => by
  rintro ⟨Hf, s, φ, fl, s', g, e, q⟩
  cases e
  exact q σ H Hf φ g Stp.refl Kp.refl
theorem gs_brk : GS w io X (.Break pos) sBrk := ps_imp ps_break fun D σ H => by
  rintro ⟨Hf, s, φ, fl, s', g, e, q⟩
  cases e
  exact q σ H Hf φ g Stp.refl Kp.refl
theorem gs_cnt : GS w io X (.Continue pos) sCnt := ps_imp ps_continue fun D σ H => by
  rintro ⟨Hf, s, φ, fl, s', g, e, q⟩
  cases e
  exact q σ H Hf φ g Stp.refl Kp.refl
theorem tS_seq {f g : SV} {D : Ends} : tS w io (sCons f g) D σ H → tSeq (tS w io f) (tS w io g) D σ H := by
  rintro ⟨Hf, s, φ, fl, s', gd, e, q⟩
  obtain ⟨⟨f1, s1⟩, h1, h2⟩ := R.bind_eq_ok.mp e
  refine ⟨Hf, s, φ, f1, s1, gd, h1, ?_⟩
  cases f1 with
  | nx => exact fun σ1 H1 Hf1 φ1 g1 k1 kp => ⟨Hf1, s1, φ1, fl, s', g1, h2, q.later k1 (fun _ => id) g1 kp⟩
  | bk => cases h2; exact q
  | ct => cases h2; exact q
  | rt t => cases h2; exact q
theorem gss_cons {st : Stmt} {rest : List Stmt} {f g : SV} (h1 : GS w io X st f) (h2 : GSs w io X rest g) : GSs w io X (st :: rest) (sCons f g) := pss_imp (pss_cons h1 h2) fun _ _ _ => tS_seq
theorem gss_one {st : Stmt} {f : SV} (h1 : GS w io X st f) : GSs w io X [st] f := pss_one h1
theorem gs_if {c : Expr} {a b : List Stmt} {fc : BV} {f g : SV} (hc : GB w X c fc) (ha : GSs w io X a f) (hb : GSs w io X b g) : GS w io X (.If c a b pos) (sIf fc f g) := ps_imp (ps_if hc ha hb) fun D σ H => by
  rintro ⟨Hf, s, φ, fl, s', gd, e, q⟩
  obtain ⟨⟨b1, s1⟩, h1, h2⟩ := R.bind_eq_ok.mp e
  refine ⟨Hf, s, φ, b1, s1, gd, h1, fun H1 Hf1 φ1 g1 k1 => ?_⟩
  cases b1 with
  | true => exact ⟨Hf1, s1, φ1, fl, s', g1, h2, q.later k1 (fun _ => id) g1⟩
  | false => exact ⟨Hf1, s1, φ1, fl, s', g1, h2, q.later k1 (fun _ => id) g1⟩
theorem gs_drop {e : Expr} {f : EV} (he : GE w X e f) (hs : swapsWith e none pos.line X.env = pure false := by rfl) : GS w io X (.Expr e pos) (sDrop f) := ps_imp (ps_expr he hs) fun D σ H => by
  rintro ⟨Hf, s, φ, fl, s', gd, e, q⟩
  obtain ⟨⟨l, s1⟩, h1, h2⟩ := R.bind_eq_ok.mp e
  cases h2
  exact ⟨Hf, s, φ, l, s1, gd, h1, fun v H1 Hf1 φ1 F1 g1 r1 k1 => q σ H1 Hf1 φ1 g1 (k1.weak fun a => .inl) Kp.refl⟩
theorem gs_retN : GS w io X (.Return none pos) sRetN := ps_imp ps_retN fun D σ H => by
  rintro ⟨Hf, s, φ, fl, s', gd, e, q⟩
  cases e
  exact q .non σ H Hf φ [] gd (.val .non) (fun a h => nomatch h) (Stp.refl.weak fun a h => h.elim id fun z => nomatch z) Kp.refl
theorem gs_ret {e : Expr} {f : EV} (he : GE w X e f) : GS w io X (.Return (some e) pos) (sRet f) := ps_imp (ps_ret he) fun D σ H => by
  rintro ⟨Hf, s, φ, fl, s', gd, e, q⟩
  obtain ⟨⟨l, s1⟩, h1, h2⟩ := R.bind_eq_ok.mp e
  obtain ⟨t, h3, h4⟩ := R.bind_eq_ok.mp h2
  cases h4
  refine ⟨Hf, s, φ, l, s1, gd, h1, fun v H1 Hf1 φ1 F1 g1 r1 k1 => ?_⟩
  cases r1 with
  | d r => cases h3; exact q v σ H1 Hf1 φ1 [] g1 (.val r) (fun a h => nomatch h) k1 Kp.refl
  | t r c => cases h3; exact q v σ H1 Hf1 φ1 F1 g1 r c k1 Kp.refl
  | o h =>
    rename_i j
    simp only [retL] at h3
    split at h3
    · rename_i u hu
      cases h3
      obtain ⟨v', e1, r⟩ := g1.here j t hu
      rw [h] at e1; cases e1
      obtain ⟨g2, o2⟩ := g1.clr (i := j)
      refine q v σ H1 Hf1 φ1 (φ1 j) g2 r (fun a ha => ⟨g1.fr j t a hu ha, fun ⟨k, u', q', m⟩ => (clr_at q').1 (g1.dj k j u' t a (clr_at q').2 hu m ha)⟩) (k1.weak fun a z => .inl ?_) Kp.refl
      rcases z with z | z
      · exact o2 a z
      · exact ⟨j, t, hu, z⟩
    · cases h3
/-- name = e -/
theorem gs_set (i : Nat) {x : Str} {e : Expr} {f : EV} {pos' : Pos} (hN : X.N.Nodup) (he : GE w X e f) (hio : i ∉ io := by decide) (hi : X.N[i]? = some x := by rfl) (hx : Loc X.env.scope x := by first | exact .inl rfl | exact .inr rfl) (hs : swapsWith e (some (.Name x pos')) pos.line X.env = pure false := by rfl)
    (hf : X.fn x = true ∨ X.env.scope.names.lookup x = some .local := by first | exact .inl rfl | exact .inr rfl) : GS w io X (.Assign [.Name x pos'] e pos) (sSet i f) := ps_imp (ps_set hN hi hx he hs hf) fun D σ H => by
  rintro ⟨Hf, s, φ, fl, s', gd, e, q⟩
  obtain ⟨⟨l, s1⟩, h1, h2⟩ := R.bind_eq_ok.mp e
  obtain ⟨s2, h3, h4⟩ := R.bind_eq_ok.mp h2
  cases h4
  refine ⟨Hf, s, φ, l, s1, gd, h1, fun v H1 Hf1 φ1 F1 g1 r1 k1 => ?_⟩
  obtain ⟨φ2, g2, o2⟩ := r1.put g1 h3
  exact q _ H1 Hf1 φ2 g2 (k1.weak o2) (Kp.set hio)

/-! ### targets -/
/-- a target of a value that may be shared; it sets the slots ts only -/
def tG (w : Wd) (g : GV) (ts : List Nat) : TG := fun v σ H Q => ∃ Hf s φ d s', Good w σ H Hf s φ ∧ Rp w.K Hf v d ∧ g d s = .ok s' ∧
  ∀ σ' φ', Good w σ' H Hf s' φ' → (∀ a, Own s' φ' a → Own s φ a) → σ'.length = σ.length → (∀ i, i ∉ ts → σ'[i]? = σ[i]?) → Q σ' H
/-- .., of a tuple -/
def tG2 (w : Wd) (K : PySem.W.Frag) (gs : List GV) (ts : List Nat) : TG := fun v σ H Q => ∃ a vs Hf s φ ds s', v = .ref a ∧ SqT K H a vs ∧ Good w σ H Hf s φ ∧ RpA w.K Hf vs ds ∧ gAll gs ds s = .ok s' ∧
  ∀ σ' φ', Good w σ' H Hf s' φ' → (∀ a, Own s' φ' a → Own s φ a) → σ'.length = σ.length → (∀ i, i ∉ ts → σ'[i]? = σ[i]?) → Q σ' H
def tGs (w : Wd) (gs : List GV) (ts : List Nat) : TGs := fun vs σ H Q => ∃ Hf s φ ds s', Good w σ H Hf s φ ∧ RpA w.K Hf vs ds ∧ gAll gs ds s = .ok s' ∧
  ∀ σ' φ', Good w σ' H Hf s' φ' → (∀ a, Own s' φ' a → Own s φ a) → σ'.length = σ.length → (∀ i, i ∉ ts → σ'[i]? = σ[i]?) → Q σ' H
abbrev GG (w : Wd) (X : Cx) (tg : Expr) (g : GV) (ts : List Nat) : Prop := PG X tg (tG w g ts)
abbrev GG2 (w : Wd) (X : Cx) (tg : Expr) (gs : List GV) (ts : List Nat) : Prop := PG X tg (tG2 w X.K gs ts)
abbrev GGs (w : Wd) (X : Cx) (tgs : List Expr) (gs : List GV) (ts : List Nat) : Prop := PGs X tgs (tGs w gs ts)
theorem pg_imp {X : Cx} {e : Expr} {t t' : TG} (h : PG X e t) (i : ∀ v σ H Q, t' v σ H Q → t v σ H Q) : PG X e t' := ⟨fun pins s σ H v u Q I r q => h.run pins s σ H v u Q I r (i v σ H Q q)⟩
theorem pgs_imp {X : Cx} {e : List Expr} {t t' : TGs} (h : PGs X e t) (i : ∀ v σ H Q, t' v σ H Q → t v σ H Q) : PGs X e t' := ⟨fun pins s σ H v u Q I r q => h.run pins s σ H v u Q I r (i v σ H Q q)⟩
theorem gg_n (i : Nat) {x : Str} (hN : X.N.Nodup) (hi : X.N[i]? = some x := by rfl) (hx : Loc X.env.scope x := by first | exact .inl rfl | exact .inr rfl) (hf : X.fn x = true ∨ X.env.scope.names.lookup x = some .local := by first | exact .inl rfl | exact .inr rfl) : GG w X (.Name x pos) (gN i) [i] :=
  pg_imp (pg_name hN hi hx hf) fun v σ H Q => by
    rintro ⟨Hf, s, φ, d, s', gd, r, e, q⟩
    cases e
    obtain ⟨g1, o1⟩ := gd.set (i := i) (.val r) fun a ha => nomatch ha
    exact q _ _ g1 (fun a z => (o1 a z).elim id fun z => nomatch z) (by rw [List.length_set]) fun j hj => List.getElem?_set_ne (fun z => hj (by simp [z]))
theorem ggs_nil : GGs w X [] [] [] := pgs_imp pgs_nil fun v σ H Q => by
  rintro ⟨Hf, s, φ, ds, s', gd, r, e, q⟩
  cases r with
  | nil => cases e; exact ⟨rfl, q σ φ gd (fun _ => id) rfl fun _ _ => rfl⟩
  | cons _ _ => cases e
theorem ggs_cons {e : Expr} {es : List Expr} {g : GV} {gs : List GV} {ts us : List Nat} (h1 : GG w X e g ts) (h2 : GGs w X es gs us) (hs : (assignEach (e :: es) X.env).map (·.2) = assign e X.env :: (assignEach es X.env).map (·.2) := by rfl) : GGs w X (e :: es) (g :: gs) (ts ++ us) :=
  pgs_imp (pgs_cons h1 h2 hs) fun v σ H Q => by
    rintro ⟨Hf, s, φ, ds, s', gd, r, e, q⟩
    cases r with
    | nil => cases e
    | cons r rr =>
      obtain ⟨s1, h1, h2⟩ := R.bind_eq_ok.mp e
      refine ⟨_, _, rfl, Hf, s, φ, _, s1, gd, r, h1, fun σ1 φ1 g1 o1 l1 k1 => ⟨Hf, s1, φ1, _, s', g1, rr, h2, fun σ2 φ2 g2 o2 l2 k2 => ?_⟩⟩
      exact q σ2 φ2 g2 (fun a z => o1 a (o2 a z)) (l2.trans l1) fun i hi => by
        rw [List.mem_append, not_or] at hi
        exact (k2 i hi.2).trans (k1 i hi.1)
theorem gAll_len : ∀ {gs : List GV} {ds : List D} {s s' : Sl}, gAll gs ds s = .ok s' → ds.length = gs.length
  | [], [], _, _, _ => rfl
  | g :: gs, d :: ds, s, s', e => by
    obtain ⟨s1, _, h⟩ := R.bind_eq_ok.mp e
    rw [List.length_cons, List.length_cons, gAll_len h]
  | [], _ :: _, _, _, e => nomatch e
  | _ :: _, [], _, _, e => nomatch e
theorem gg_2 {es : List Expr} {k1 n : Nat} {gs : List GV} {ts : List Nat} (hc : X.calm = true) (h : GGs w X es gs ts) (hn : (assignEach es X.env).length = n := by rfl) (hl : gs.length = n := by rfl) (hst : (assignEach es X.env).findIdx? (·.1) = none := by rfl) : GG2 w X (.Tuple es k1 pos) gs ts :=
  pg_imp (pg_tup hc h hn hst) fun v σ H Q => by
    rintro ⟨a, vs, Hf, s, φ, ds, s', rfl, hq, gd, r, e, q⟩
    exact ⟨a, vs, rfl, hq, by rw [r.length, gAll_len e, hl], Hf, s, φ, ds, s', gd, r, e, q⟩
theorem gg_t {es : List Expr} {k1 n : Nat} {gs : List GV} {ts : List Nat} (c : Cok w k X) (h : GGs w X es gs ts) (hn : (assignEach es X.env).length = n := by rfl) (hl : gs.length = n := by rfl) (hst : (assignEach es X.env).findIdx? (·.1) = none := by rfl) : GG w X (.Tuple es k1 pos) (gT gs) ts :=
  pg_imp (gg_2 c.calm h hn hl hst) fun v σ H Q => by
    rintro ⟨Hf, s, φ, d, s', gd, r, e, q⟩
    cases r with
    | tup hs ra => exact ⟨_, _, Hf, s, φ, _, s', rfl, by rw [c.K]; exact gd.sub.sqT hs.sq, gd, ra, e, q⟩
    | non => cases e
    | bl _ => cases e
    | int _ => cases e
    | str _ => cases e
    | lst _ _ => cases e
    | dct _ _ => cases e
/-- a, b, .. = e -/
theorem gs_unp {tg e : Expr} {f : EV} {g : GV} {ts : List Nat} (he : GE w X e f) (hg : GG w X tg g ts) (hio : ∀ i ∈ ts, i ∉ io := by decide) (hs : swapsWithSole [tg] e pos.line X.env = pure false := by rfl) (hw : swappedStores [tg] e X.env = pure none := by rfl)
    (h1 : (assignEach [tg] X.env).map (·.2) = [assign tg X.env] := by rfl) : GS w io X (.Assign [tg] e pos) (sUnp g f) := ps_imp (ps_asg he hg hs hw h1) fun D σ H => by
  rintro ⟨Hf, s, φ, fl, s', gd, e, q⟩
  obtain ⟨⟨d, s1⟩, h1, h2⟩ := R.bind_eq_ok.mp e
  obtain ⟨s2, h3, h4⟩ := R.bind_eq_ok.mp h2
  cases h4
  exact tE_D gd h1 fun v H1 Hf1 φ1 g1 r1 k1 => ⟨Hf1, s1, φ1, d, _, g1, r1, h3, fun σ' φ' g' o' _ n' => q σ' H1 Hf1 φ' g' (k1.weak o') (Kp.of n' hio)⟩
end
end KV

set_option Elab.async false
set_option linter.all false
set_option maxRecDepth 100000
set_option maxHeartbeats 2000000
/-! KVI: what changes a list or a dict that a slot owns; assignments side by side; loops; comprehensions. -/
namespace KV
open PySem L2
open PySem.Spec PyProof.Rows

/-! ### denotations -/
def kApp (i : Nat) (f : EV) : EV := fun s => match s[i]? with
  | some (some (.lst _)) => (kD f s).bind fun r => (match r.2[i]? with
    | some (some (.lst xs)) => if szOk (xs.length + 1) then .ok (.d .none, r.2.set i (some (.lst (xs ++ [r.1])))) else .no
    | _ => .no)
  | _ => .no
def kExt (i : Nat) (f : EV) : EV := fun s => match s[i]? with
  | some (some (.lst _)) => (kD f s).bind fun r => (seqOf r.1).bind fun ys => (match r.2[i]? with
    | some (some (.lst xs)) => if szOk (xs.length + ys.length) then .ok (.d .none, r.2.set i (some (.lst (xs ++ ys)))) else .no
    | _ => .no)
  | _ => .no
def kPopL (i : Nat) : EV := fun s => match s[i]? with
  | some (some (.lst xs)) => (match xs[xs.length - 1]? with
    | some d => .ok (.d d, s.set i (some (.lst xs.dropLast)))
    | none => .no)
  | _ => .no
def kPopJ (i : Nat) (f : EV) : EV := fun s => match s[i]? with
  | some (some (.lst _)) => (kS f s).bind fun r => (match r.2[i]?, r.1 with
    | some (some (.lst xs)), .int j => if 0 ≤ j ∧ szOk xs.length = true then (match xs[j.toNat]? with
      | some d => .ok (.d d, r.2.set i (some (.lst (xs.eraseIdx j.toNat))))
      | none => .no) else .no
    | _, _ => .no)
  | _ => .no
/-- a value; what a slot owned is shared -/
def kF (f : EV) : EV := fun s => (f s).bind fun r => match r.1 with
  | .o i => (L.take (.o i) r.2).bind fun q => .ok (.d q.1, q.2)
  | l => .ok (l, r.2)
/-- x[k] = e -/
def sPt (i : Nat) (k f : EV) : SV := fun s => match s[i]? with
  | some (some _) => (kD f s).bind fun r => (kD k r.2).bind fun q => (match q.2[i]? with
    | some (some (.lst xs)) => (match q.1 with
      | .int j => (match ixD xs.length j with
        | some m => .ok (.nx, q.2.set i (some (.lst (xs.set m r.1))))
        | none => .no)
      | _ => .no)
    | some (some (.dct kvs)) => if (keyOf q.1).isSome && szOk (kvs.length + 1) then .ok (.nx, q.2.set i (some (.dct (putD kvs q.1 r.1)))) else .no
    | _ => .no)
  | _ => .no
abbrev LV := Sl → R (List L × Sl)
def lNil : LV := fun s => .ok ([], s)
def lCons (f : EV) (g : LV) : LV := fun s => (kF f s).bind fun r => (g r.2).bind fun q => .ok (r.1 :: q.1, q.2)
def putL : List Nat → List L → Sl → R Sl
  | [], [], s => .ok s
  | i :: is, .d x :: ls, s => putL is ls (s.set i (some (.val x)))
  | i :: is, .t x :: ls, s => putL is ls (s.set i (some x))
  | _, _, _ => .no
/-- a, b, .. = e, f, .. -/
def sPar (is : List Nat) (g : LV) : SV := fun s => (g s).bind fun r => (putL is r.1 r.2).bind fun s' => .ok (.nx, s')

section
variable {w : Wd} {k : Nat} {X : Cx} {pos : Pos} {σ : L2.St} {H Hf : Hp} {s s' : Sl} {φ : Nat → List Addr} {Q : VK} {io : List Nat}

theorem Good.lst (g : Good w σ H Hf s φ) {i : Nat} {xs : List D} (h : s[i]? = some (some (.lst xs))) : ∃ a vs, σ[i]? = some (some (.ref a)) ∧ φ i = [a] ∧ H a = some (.lst vs) ∧ RpA w.K Hf vs xs := by
  obtain ⟨v, e, r⟩ := g.here i _ h
  generalize hF : φ i = F at r
  cases r with
  | lst h r => exact ⟨_, _, e, rfl, h, r⟩
theorem Good.dct (g : Good w σ H Hf s φ) {i : Nat} {xs : List (D × D)} (h : s[i]? = some (some (.dct xs))) : ∃ a kvs, σ[i]? = some (some (.ref a)) ∧ φ i = [a] ∧ H a = some (.dK kvs) ∧ RpKv w.K Hf kvs xs := by
  obtain ⟨v, e, r⟩ := g.here i _ h
  generalize hF : φ i = F at r
  cases r with
  | dct h r => exact ⟨_, _, e, rfl, h, r⟩
/-- the slot's own list is written: what follows -/
theorem PQ.wr {i : Nat} {xs ys : List D} {a : Addr} {us : List V} {l : L} {v : V} {H1 Hf1 : Hp} {s1 : Sl} {φ1 : Nat → List Addr} (q : PQ w σ H Hf s φ (s1.set i (some (.lst ys))) l Q) (g1 : Good w σ H1 Hf1 s1 φ1) (k1 : Stp H Hf (Own s φ) H1 Hf1 (Own s1 φ1)) (h : s1[i]? = some (some (.lst xs)))
    (e : σ[i]? = some (some (.ref a))) (p : φ1 i = [a]) (r : RpA w.K Hf1 us ys) (hl : ∀ H', RL w σ Hf1 H' (s1.set i (some (.lst ys))) φ1 v l []) : Q v (upd H1 a (.lst us)) := by
  obtain ⟨g2, o2⟩ := g1.updS (o := .lst us) h p e (.lst upd_same r)
  exact q v _ Hf1 φ1 [] g2 (hl _) ((k1.updO ⟨i, _, h, by rw [p]; simp⟩ (g1.fr i _ a h (by rw [p]; simp))).weak fun x z => z.elim (o2 x) fun z => nomatch z)

section
variable {e : Expr} {f : EV} {x : Str} {px apos cpos : Pos}
theorem ge_app (i : Nat) (he : GE w X e f) (hN : X.N[i]? = some x := by rfl) (hv : Vis X.env.scope x := by first | exact Or.inl rfl | exact Or.inr (Or.inl rfl) | exact Or.inr (Or.inr rfl)) (hd : (x == ("__debug__" : Str)) = false := by decide) (hcd : (x == ("__classdict__" : Str)) = false := by decide)
    (hbase : attributeBase (.Name x px) "append" X.env (eval (.Name x px) X.env) = eval (.Name x px) X.env := by rfl)
    (hfew : ((backTo cpos (starEach [e] X.env)).all (fun x => !x.1) && (backToKw cpos (keywordEach [] X.env)).all (fun x => x.1.isSome)
      && decide ([e].length + ([] : List Keyword).length + (if ([] : List Keyword).isEmpty then 0 else 1) < 30)) = true := by rfl)
    (hline : (apos.endLine == cpos.line) = true := by rfl) (hs : starEach [e] X.env = (false, eval e X.env) :: starEach [] X.env := by rfl) (hplain : (backTo cpos (starEach [] X.env)).any (·.1) = false := by rfl) :
    GE w X (.Call (.Attribute (.Name x px) "append" apos) [e] [] cpos) (kApp i f) := by
  refine pe_imp (pe_bm PySem.F.plainAttrs_list PySem.F.slot_list_append PySem.F.type_list_append mt_append (pv i hN hv hd hcd) (pa_cons he pa_nil hs) hbase hfew hline hs hplain) fun σ H Q => ?_
  rintro ⟨Hf, s, φ, l, s', g, e, q⟩
  unfold kApp at e
  split at e
  · rename_i xs0 h0
    obtain ⟨⟨d, s1⟩, h1, h2⟩ := R.bind_eq_ok.mp e
    simp only at h2
    split at h2
    · rename_i xs hx
      split at h2
      · rename_i hz
        cases h2
        obtain ⟨a, vs0, e0, p0, a0, r0⟩ := g.lst h0
        refine ⟨.ref a, e0, .inl ⟨rfl, vs0, SqL.of a0⟩, tE_D g h1 fun v H1 Hf1 φ1 g1 r1 k1 => ?_⟩
        obtain ⟨a', vs, e1, p1, a1, r2⟩ := g1.lst hx
        rw [e0] at e1; cases e1
        exact ⟨a, vs, v, rfl, rfl, a1, by have := sz_line (szOk_le hz); rw [r2.length]; omega, q.wr g1 k1 hx e0 p1 (r2.append (.cons r1 .nil)) fun _ => .d .non⟩
      · cases h2
    · cases h2
  · cases e
theorem ge_pop (i : Nat) (hN : X.N[i]? = some x := by rfl) (hv : Vis X.env.scope x := by first | exact Or.inl rfl | exact Or.inr (Or.inl rfl) | exact Or.inr (Or.inr rfl)) (hd : (x == ("__debug__" : Str)) = false := by decide) (hcd : (x == ("__classdict__" : Str)) = false := by decide)
    (hbase : attributeBase (.Name x px) "pop" X.env (eval (.Name x px) X.env) = eval (.Name x px) X.env := by rfl) (hline : (apos.endLine == cpos.line) = true := by rfl) :
    GE w X (.Call (.Attribute (.Name x px) "pop" apos) [] [] cpos) (kPopL i) := by
  refine pe_imp (pe_bm0 PySem.F.plainAttrs_list PySem.F.slot_list_pop PySem.F.type_list_pop mt_pop (pv i hN hv hd hcd) hbase hline) fun σ H Q => ?_
  rintro ⟨Hf, s, φ, l, s', g, e, q⟩
  unfold kPopL at e
  split at e
  · rename_i xs h0
    split at e
    · rename_i d hd
      cases e
      obtain ⟨a, vs, e0, p0, a0, r0⟩ := g.lst h0
      obtain ⟨v, hv1, rv⟩ := r0.get hd
      exact ⟨.ref a, e0, .inl ⟨rfl, vs, SqL.of a0⟩, a, vs, v, rfl, rfl, a0, by rw [r0.length]; exact hv1, q.wr g Stp.refl h0 e0 p0 r0.dropLast fun _ => .d rv⟩
    · cases e
  · cases e
theorem ge_popJ (i : Nat) (he : GE w X e f) (hN : X.N[i]? = some x := by rfl) (hv : Vis X.env.scope x := by first | exact Or.inl rfl | exact Or.inr (Or.inl rfl) | exact Or.inr (Or.inr rfl)) (hd : (x == ("__debug__" : Str)) = false := by decide) (hcd : (x == ("__classdict__" : Str)) = false := by decide)
    (hbase : attributeBase (.Name x px) "pop" X.env (eval (.Name x px) X.env) = eval (.Name x px) X.env := by rfl)
    (hfew : ((backTo cpos (starEach [e] X.env)).all (fun x => !x.1) && (backToKw cpos (keywordEach [] X.env)).all (fun x => x.1.isSome)
      && decide ([e].length + ([] : List Keyword).length + (if ([] : List Keyword).isEmpty then 0 else 1) < 30)) = true := by rfl)
    (hline : (apos.endLine == cpos.line) = true := by rfl) (hs : starEach [e] X.env = (false, eval e X.env) :: starEach [] X.env := by rfl) (hplain : (backTo cpos (starEach [] X.env)).any (·.1) = false := by rfl) :
    GE w X (.Call (.Attribute (.Name x px) "pop" apos) [e] [] cpos) (kPopJ i f) := by
  refine pe_imp (pe_bm PySem.F.plainAttrs_list PySem.F.slot_list_pop PySem.F.type_list_pop mt_popAt (pv i hN hv hd hcd) (pa_cons he pa_nil hs) hbase hfew hline hs hplain) fun σ H Q => ?_
  rintro ⟨Hf, s, φ, l, s', g, e, q⟩
  unfold kPopJ at e
  split at e
  · rename_i xs0 h0
    obtain ⟨⟨d, s1⟩, h1, h2⟩ := R.bind_eq_ok.mp e
    obtain ⟨l2, h3, h4, hsc⟩ := kS_ok h1
    simp only at h2
    split at h2
    · rename_i _ xs j hx
      split at h2
      · rename_i hc
        split at h2
        · rename_i d hd
          cases h2
          obtain ⟨a, vs0, e0, p0, a0, r0⟩ := g.lst h0
          refine ⟨.ref a, e0, .inl ⟨rfl, vs0, SqL.of a0⟩, ⟨Hf, s, φ, l2, _, g, h3, fun v H1 Hf1 φ1 F1 g1 r1 k1 => ?_⟩⟩
          obtain ⟨a', vs, e1, p1, a1, r2⟩ := g1.lst hx
          rw [e0] at e1; cases e1
          cases (r1.rw g1 h4).int
          obtain ⟨y, hy, ry⟩ := r2.get hd
          have hlt : j.toNat < vs.length := (List.getElem?_eq_some_iff.mp hy).1
          have hle : xs.length ≤ 16000000 := szOk_le hc.2
          have hl := r2.length
          refine ⟨a, vs, j, j.toNat, y, rfl, rfl, a1, by omega, by omega, ?_, hy, q.wr g1 (k1.weak fun _ => .inl) hx e0 p1 (r2.erase _) fun _ => .d ry⟩
          exact seqIndex_of hc.1 (by omega)
        · cases h2
      · cases h2
    · cases h2
  · cases e

/-! ### extend, also by a tuple -/
theorem ext_tup (l : Addr) (items : Array Value) (n : Nat) (b : Addr) (items2 : Array Value) (n2 : Nat) (dd : Option Addr) (sl : Array (Option Value)) (hs0 : ¬(!items.isEmpty && Builtin.List.listTooLong (items.size + items2.size)) = true) (hs1 : items.size ≤ sizeLine) (hs2 : items.size + items2.size ≤ sizeLine + 1) :
    Meets (Builtin.«list.extend» ⟨[.ref l, .ref b], []⟩) (fun _ R s => s.heap.get? l = some { cls := .type "list", dict := none, data := .seq items n, slots := #[] } ∧ s.heap.get? b = some { cls := .type "tuple", dict := dd, data := .seq items2 n2, slots := sl } ∧
      R (.ok (.ret Value.none)) { s with heap := s.heap.update l (Obj.mapSeq fun x => x ++ items2), toks := s.toks }) :=
  .of_wp fun prog w A R s h => by
    obtain ⟨hp, g, d, tk, os⟩ := s
    obtain ⟨hl, hb, h⟩ := h
    have f1 := AutoSeq1.idx_int
    have f2 := AutoSeq1.sub_tuple_tuple
    have f3 := AutoSeq1.sub_list_list
    have f4 := AutoSeq1.sub_tuple_list
    have f5 := AutoSeq1.sub_list_tuple
    have hz' : (items ++ items2).size ≤ sizeLine + 1 := by rw [Array.size_append]; exact hs2
    wp_walk using (wpAny_updateSeq hl rfl (hz := hs1) (_hz' := hz')), AutoSeq1.wpAny_loadPart' hl, AutoSeq1.wpAny_loadPart' hb
    exact ⟨_, rfl, h⟩
def rExtA (K : PySem.W.Frag) : V → List V → Hp → VK → Prop := fun x vs H Q => ∃ l b xs zs, x = .ref l ∧ vs = [.ref b] ∧ H l = some (.lst xs) ∧ (H b = some (.lst zs) ∨ STup K H b zs) ∧ xs.length + zs.length ≤ sizeLine ∧ Q .non (upd H l (.lst (xs ++ zs)))
theorem mt_extA : MtR X "list.extend" (rExtA X.K) := by
  intro pins s σ H x vs v us Q I rx rv h
  obtain ⟨l, b, xs, zs, rfl, rfl, hH, hB, hz, q⟩ := h
  rcases hB with hB | hB
  · exact mt_extend pins s σ H _ _ v us Q I rx rv ⟨l, b, xs, zs, rfl, rfl, hH, hB, hz, q⟩
  · cases rx
    obtain ⟨u, rfl, ru⟩ := rv.one
    cases ru
    obtain ⟨z, its, n, r, hl, e⟩ := I.lstM hH
    obtain ⟨its2, r2, ⟨⟨cls, dd, data, sls⟩, ho, hc, n2, hd⟩, hz2⟩ := I.tuple hB.sq
    simp only at hc hd
    subst hc hd
    have hl2 := r2.length
    have hsz : its.toArray.size + its2.toArray.size ≤ sizeLine := by rw [List.size_toArray, List.size_toArray]; omega
    have hlong : ¬ (!its.toArray.isEmpty && Builtin.List.listTooLong (its.toArray.size + its2.toArray.size)) = true := by
      rw [notLongL hsz, Bool.and_false]
      exact Bool.false_ne_true
    refine call_meets PySem.F.slot_list_extend ⟨_, e, rfl⟩ PySem.F.entry_list_extend (PySem.F.args_list_extend_2 _ _) (ext_tup l its.toArray n b its2.toArray n2 dd sls hlong (by rw [List.size_toArray]; omega) (by omega)) ⟨e, ho, ?_⟩
    refine ⟨.non, _, I.lset (its' := its ++ its2) hH e (by simp) (r.append r2) ?_, rfl, q⟩
    rw [List.length_append]
    omega
theorem ge_ext (c : Cok w k X) (i : Nat) (he : GE w X e f) (hN : X.N[i]? = some x := by rfl) (hv : Vis X.env.scope x := by first | exact Or.inl rfl | exact Or.inr (Or.inl rfl) | exact Or.inr (Or.inr rfl)) (hd : (x == ("__debug__" : Str)) = false := by decide) (hcd : (x == ("__classdict__" : Str)) = false := by decide)
    (hbase : attributeBase (.Name x px) "extend" X.env (eval (.Name x px) X.env) = eval (.Name x px) X.env := by rfl)
    (hfew : ((backTo cpos (starEach [e] X.env)).all (fun x => !x.1) && (backToKw cpos (keywordEach [] X.env)).all (fun x => x.1.isSome)
      && decide ([e].length + ([] : List Keyword).length + (if ([] : List Keyword).isEmpty then 0 else 1) < 30)) = true := by rfl)
    (hline : (apos.endLine == cpos.line) = true := by rfl) (hs : starEach [e] X.env = (false, eval e X.env) :: starEach [] X.env := by rfl) (hplain : (backTo cpos (starEach [] X.env)).any (·.1) = false := by rfl) :
    GE w X (.Call (.Attribute (.Name x px) "extend" apos) [e] [] cpos) (kExt i f) := by
  refine pe_imp (pe_bm PySem.F.plainAttrs_list PySem.F.slot_list_extend PySem.F.type_list_extend mt_extA (pv i hN hv hd hcd) (pa_cons he pa_nil hs) hbase hfew hline hs hplain) fun σ H Q => ?_
  rintro ⟨Hf, s, φ, l, s', g, e, q⟩
  unfold kExt at e
  split at e
  · rename_i xs0 h0
    obtain ⟨⟨d, s1⟩, h1, h2⟩ := R.bind_eq_ok.mp e
    obtain ⟨ys, h3, h4⟩ := R.bind_eq_ok.mp h2
    simp only at h4
    split at h4
    · rename_i xs hx
      split at h4
      · rename_i hz
        cases h4
        obtain ⟨a, vs0, e0, p0, a0, r0⟩ := g.lst h0
        refine ⟨.ref a, e0, .inl ⟨rfl, vs0, SqL.of a0⟩, tE_D g h1 fun v H1 Hf1 φ1 g1 r1 k1 => ?_⟩
        obtain ⟨a', vs, e1, p1, a1, r2⟩ := g1.lst hx
        rw [e0] at e1; cases e1
        obtain ⟨b, zs, rfl, hb, rz⟩ : ∃ b zs, v = .ref b ∧ (H1 b = some (.lst zs) ∨ STup w.K H1 b zs) ∧ RpA w.K Hf1 zs ys := by
          rcases seqOf_ok h3 with rfl | rfl
          · cases r1 with
            | lst hb rz => exact ⟨_, _, rfl, .inl (g1.sub _ _ hb), rz⟩
          · cases r1 with
            | tup hb rz => exact ⟨_, _, rfl, .inr (g1.sub.stup hb), rz⟩
        exact ⟨a, b, vs, zs, rfl, rfl, a1, by rw [c.K]; exact hb, by have := sz_line (szOk_le hz); rw [r2.length, rz.length]; omega, q.wr g1 k1 hx e0 p1 (r2.append rz) fun _ => .d .non⟩
      · cases h4
    · cases h4
  · cases e
end

/-! ### x[k] = e -/
def rSetA : TSet := fun o i v H Q => rSetL o i v H Q ∨ ∃ a H', o = .ref a ∧ DPut H a i v H' ∧ Q H'
theorem set_any (c : Cok w k X) : PSet X rSetA := by
  intro pins s σ H o i v ov iv u Q I ro ri rv h
  rcases h with h | ⟨a, H', rfl, g, q⟩
  · exact set_list pins s σ H o i v ov iv u Q I ro ri rv h
  · obtain rfl : ov = Value.ref a := ro
    exact d_setItem (by have := c.u; omega) I g ri rv fun s4 I4 => ⟨H', I4, q⟩
theorem gs_put (c : Cok w k X) (i : Nat) {x : Str} {px spos : Pos} {ek e : Expr} {fk f : EV} (he : GE w X e f) (hk : GE w X ek fk) (hN : X.N[i]? = some x := by rfl) (hv : Vis X.env.scope x := by first | exact Or.inl rfl | exact Or.inr (Or.inl rfl) | exact Or.inr (Or.inr rfl))
    (hd : (x == ("__debug__" : Str)) = false := by decide) (hcd : (x == ("__classdict__" : Str)) = false := by decide)
    (ha : ∀ v, assign (.Subscript (.Name x px) ek spos) X.env v = (do
      let ov ← holding [v] (eval (.Name x px) X.env)
      let iv ← holding [v, ov] (eval ek X.env)
      standAt spos
      holding [v, ov, iv] (setItem ov iv v)
      release [v, ov, iv] []) := by intro _; rfl)
    (hs : swapsWithSole [.Subscript (.Name x px) ek spos] e pos.line X.env = pure false := by rfl) (hw : swappedStores [.Subscript (.Name x px) ek spos] e X.env = pure none := by rfl) (h1 : (assignEach [.Subscript (.Name x px) ek spos] X.env).map (·.2) = [assign (.Subscript (.Name x px) ek spos) X.env] := by rfl) :
    GS w io X (.Assign [.Subscript (.Name x px) ek spos] e pos) (sPt i fk f) := by
  refine ps_imp (ps_asg he (pg_sub (pv i hN hv hd hcd) hk (set_any c) ha) hs hw h1) fun D σ H => ?_
  rintro ⟨Hf, s, φ, fl, s', g, e, q⟩
  unfold sPt at e
  split at e
  · rename_i t0 h0
    obtain ⟨v0, e0, _⟩ := g.here i t0 h0
    obtain ⟨⟨d, s1⟩, h1, h2⟩ := R.bind_eq_ok.mp e
    obtain ⟨⟨kd, s2⟩, h3, h4⟩ := R.bind_eq_ok.mp h2
    refine tE_D g h1 fun v H1 Hf1 φ1 g1 r1 k1 => ⟨v0, e0, tE_D g1 h3 fun v2 H2 Hf2 φ2 g2 r2 k2 => ?_⟩
    have rv := r1.mono k2.sub
    have k12 := k1.trans k2 (fun _ => id) fun x hx => g1.own_free hx
    simp only at h4
    split at h4
    · rename_i xs hx
      split at h4
      · rename_i j
        split at h4
        · rename_i m hm
          cases h4
          obtain ⟨a, vs, e1, p1, a1, r3⟩ := g2.lst hx
          rw [e0] at e1; cases e1
          cases r2
          obtain ⟨g3, o3⟩ := g2.updS (o := .lst (vs.set m v)) (t' := .lst (xs.set m d)) hx p1 e0 (.lst upd_same (r3.set rv m))
          exact .inl ⟨a, vs, _, m, rfl, rfl, a1, by rw [r3.length]; exact hm, q σ _ Hf2 φ2 g3 ((k12.updO ⟨i, _, hx, by rw [p1]; simp⟩ (g2.fr i _ a hx (by rw [p1]; simp))).weak o3) Kp.refl⟩
        · cases h4
      · cases h4
    · rename_i kvs hx
      split at h4
      · rename_i hc
        cases h4
        obtain ⟨a, vs, e1, p1, a1, r3⟩ := g2.dct hx
        rw [e0] at e1; cases e1
        rw [Bool.and_eq_true] at hc
        obtain ⟨ky, hky⟩ := Option.isSome_iff_exists.mp hc.1
        have ek := keyOf_some hky
        subst ek
        have ev := (Rw.st (H := H2) r2).key
        subst ev
        obtain ⟨g3, o3⟩ := g2.updS (o := .dK (putK vs ky v)) (t' := .dct (putD kvs (keyD ky) d)) hx p1 e0 (.dct upd_same (r3.put ky rv))
        refine .inr ⟨a, _, rfl, DPut.k a1 (by have := sz_line (szOk_le hc.2); rw [r3.length]; omega), q σ _ Hf2 φ2 g3 ((k12.updO ⟨i, _, hx, by rw [p1]; simp⟩ (g2.fr i _ a hx (by rw [p1]; simp))).weak o3) Kp.refl⟩
      · cases h4
    · cases h4
  · cases e

/-! ### assignments side by side -/
inductive RLs (w : Wd) (σ : L2.St) (Hf H : Hp) (s : Sl) (φ : Nat → List Addr) : List V → List L → List Addr → Prop
  | nil : RLs w σ Hf H s φ [] [] []
  | cons {v : V} {l : L} {F F' : List Addr} {vs : List V} {ls : List L} : RL w σ Hf H s φ v l F → RLs w σ Hf H s φ vs ls F' → (∀ a ∈ F, a ∉ F') → RLs w σ Hf H s φ (v :: vs) (l :: ls) (F ++ F')
def tL (w : Wd) (g : LV) : TA := fun σ H Q => ∃ Hf s φ ls s', Good w σ H Hf s φ ∧ g s = .ok (ls, s') ∧
  ∀ vs H' Hf' φ' F, Good w σ H' Hf' s' φ' → RLs w σ Hf' H' s' φ' vs ls F → Stp H Hf (Own s φ) H' Hf' (fun a => Own s' φ' a ∨ a ∈ F) → Q vs H'
abbrev GL (w : Wd) (X : Cx) (es : List Expr) (g : LV) : Prop := PA X es (tL w g)
theorem tE_F {f : EV} {l : L} {Z : V → Hp → Prop} (g : Good w σ H Hf s φ) (e : kF f s = .ok (l, s'))
    (h : ∀ v H' Hf' φ' F, Good w σ H' Hf' s' φ' → RL w σ Hf' H' s' φ' v l F → Stp H Hf (Own s φ) H' Hf' (fun a => Own s' φ' a ∨ a ∈ F) → Z v H') : tE w f σ H Z := by
  obtain ⟨⟨l1, s1⟩, h1, h2⟩ := R.bind_eq_ok.mp e
  refine ⟨Hf, s, φ, l1, s1, g, h1, fun v H1 Hf1 φ1 F1 g1 r1 k1 => ?_⟩
  cases l1 with
  | d x => cases h2; exact h v H1 Hf1 φ1 F1 g1 r1 k1
  | t x => cases h2; exact h v H1 Hf1 φ1 F1 g1 r1 k1
  | o i =>
    obtain ⟨⟨d, s2⟩, h3, h4⟩ := R.bind_eq_ok.mp h2
    cases h4
    obtain ⟨Hf2, φ2, rp, g2, k2⟩ := r1.take g1 h3
    refine h v H1 Hf2 φ2 [] g2 (.d rp) ((k1.trans k2 (fun _ => id) fun x hx => ?_).weak fun a z => z.elim id fun z => nomatch z)
    rcases hx with hx | hx
    · exact g1.own_free hx
    · cases r1; cases hx
theorem gl_nil : GL w X [] lNil := pa_imp pa_nil fun σ H Q => by
  rintro ⟨Hf, s, φ, ds, s', g, e, q⟩
  cases e
  exact q [] H Hf φ [] g .nil (Stp.refl.weak fun a z => z.elim id fun z => nomatch z)
theorem gl_cons {e : Expr} {es : List Expr} {f : EV} {g : LV} (he : GE w X e f) (hr : GL w X es g) (hs : starEach (e :: es) X.env = (false, eval e X.env) :: starEach es X.env := by rfl) : GL w X (e :: es) (lCons f g) := by
  refine pa_imp (pa_cons he hr hs) fun σ H Q => ?_
  rintro ⟨Hf, s, φ, ds, s', gd, e, q⟩
  obtain ⟨⟨l, s1⟩, h1, h2⟩ := R.bind_eq_ok.mp e
  obtain ⟨⟨ls, s2⟩, h3, h4⟩ := R.bind_eq_ok.mp h2
  cases h4
  refine tE_F gd h1 fun v H1 Hf1 φ1 F1 g1 r1 k1 => ⟨Hf1, s1, φ1, ls, _, g1, h3, fun vs H2 Hf2 φ2 F2 g2 r2 k2 => ?_⟩
  have new1 : ∀ a, a ∈ F1 → (∃ o, H1 a = some o) ∧ Hf1 a = none ∧ ¬ Own s1 φ1 a := fun a ha => by
    cases r1 with
    | d _ => cases ha
    | o _ => cases ha
    | t r c => exact ⟨r.there a ha, c a ha⟩
  have nof : ∀ a, a ∈ F1 → ¬ (Own s2 φ2 a ∨ a ∈ F2) := fun a ha z => by
    obtain ⟨⟨o, e1⟩, e2, e3⟩ := new1 a ha
    rcases k2.new a (.inl z) with z | z | z
    · exact e3 z
    · exact z e2
    · rw [e1] at z; cases z
  refine q (v :: vs) H2 Hf2 φ2 (F1 ++ F2) g2 (.cons (r1.stay k2 fun a => .inl) r2 fun a ha z => nof a ha (.inr z)) ?_
  refine ⟨k1.sub.trans k2.sub, fun a o h n => k2.keep a o (k1.keep a o h n) fun z => ?_, fun a z => ?_⟩
  · rcases k1.new a (.inl (.inl z)) with z | z | z
    · exact n z
    · cases e1 : Hf a with
      | none => exact z e1
      | some u =>
        have := k1.sub a u e1
        rw [g1.own_free (by assumption)] at this; cases this
    · rw [h] at z; cases z
  · have back : ∀ x, (Own s1 φ1 x ∨ x ∈ F1) ∨ Hf1 x ≠ none → Own s φ x ∨ Hf x ≠ none ∨ H x = none := fun x => k1.new x
    have main : (Own s2 φ2 a ∨ a ∈ F2) ∨ Hf2 a ≠ none → Own s φ a ∨ Hf a ≠ none ∨ H a = none := fun z => by
      rcases k2.new a z with z | z | z
      · exact back a (.inl (.inl z))
      · exact back a (.inr z)
      · by_cases n : Own s φ a
        · exact .inl n
        · cases e : H a with
          | none => exact .inr (.inr rfl)
          | some u => rw [k1.keep a u e n] at z; cases z
    rcases z with (z | z) | z
    · exact main (.inl (.inl z))
    · rcases List.mem_append.mp z with z | z
      · exact back a (.inl (.inr z))
      · exact main (.inl (.inr z))
    · exact main (.inr z)
theorem RLs.free {vs : List V} {ls : List L} {F : List Addr} (r : RLs w σ Hf H s φ vs ls F) : ∀ a ∈ F, ¬ Own s φ a := by
  induction r with
  | nil => exact fun a h => nomatch h
  | cons r _ _ ih =>
    intro a h
    rcases List.mem_append.mp h with h | h
    · cases r with
      | d _ => cases h
      | o _ => cases h
      | t _ c => exact (c a h).2
    · exact ih a h
theorem RLs.moved {vs : List V} {ls : List L} {F : List Addr} {σ1 : L2.St} {s1 : Sl} {φ1 : Nat → List Addr} (r : RLs w σ Hf H s φ vs ls F) (no : ∀ l ∈ ls, ∀ j, l ≠ .o j) (h : ∀ a ∈ F, ¬ Own s1 φ1 a) : RLs w σ1 Hf H s1 φ1 vs ls F := by
  induction r with
  | nil => exact .nil
  | cons r _ dj ih =>
    refine .cons ?_ (ih (fun l hl => no l (List.mem_cons_of_mem _ hl)) fun a ha => h a (List.mem_append_right _ ha)) dj
    cases r with
    | d r => exact .d r
    | o _ => exact (no _ (List.mem_cons_self ..) _ rfl).elim
    | t r c => exact .t r fun a ha => ⟨(c a ha).1, h a (List.mem_append_left _ ha)⟩
theorem putL_no : ∀ {is : List Nat} {ls : List L} {s s' : Sl}, putL is ls s = .ok s' → ∀ l ∈ ls, ∀ j, l ≠ .o j
  | [], [], _, _, _ => fun l hl => nomatch hl
  | i :: is, .d x :: ls, s, s', e => fun l hl j z => by
    rcases List.mem_cons.mp hl with h | h
    · subst h; cases z
    · exact putL_no (is := is) (ls := ls) e l h j z
  | i :: is, .t x :: ls, s, s', e => fun l hl j z => by
    rcases List.mem_cons.mp hl with h | h
    · subst h; cases z
    · exact putL_no (is := is) (ls := ls) e l h j z
  | [], _ :: _, _, _, e => nomatch e
  | _ :: _, [], _, _, e => nomatch e
  | _ :: _, .o _ :: _, _, _, e => nomatch e
def setsV : List Nat → List V → L2.St → L2.St
  | i :: is, v :: vs, σ => setsV is vs (σ.set i (some v))
  | _, _, σ => σ
theorem Kp.sets : ∀ {is : List Nat} {vs : List V} {σ : L2.St}, (∀ i ∈ is, i ∉ io) → Kp io σ (setsV is vs σ)
  | [], _, _, _ => Kp.refl
  | _ :: _, [], _, _ => Kp.refl
  | i :: is, v :: vs, σ, h => (Kp.set (v := some v) (h i (List.mem_cons_self ..))).trans (Kp.sets (is := is) (vs := vs) fun j hj => h j (List.mem_cons_of_mem _ hj))
theorem RLs.put {vs : List V} {ls : List L} {F : List Addr} : ∀ {is : List Nat} {σ : L2.St} {s s' : Sl} {φ : Nat → List Addr}, RLs w σ Hf H s φ vs ls F → Good w σ H Hf s φ → putL is ls s = .ok s' →
    ∃ φ', is.length = vs.length ∧ Good w (setsV is vs σ) H Hf s' φ' ∧ ∀ a, Own s' φ' a → Own s φ a ∨ a ∈ F := by
  induction vs generalizing ls F with
  | nil =>
    intro is σ s s' φ r g e
    cases r
    cases is with
    | nil => cases e; exact ⟨φ, rfl, g, fun a => .inl⟩
    | cons _ _ => cases e
  | cons v vs ih =>
    intro is σ s s' φ r g e
    cases r with
    | cons r rr dj =>
      rename_i l F1 F2 ls
      cases is with
      | nil => cases e
      | cons i is =>
        have key : ∀ s1, setL i l s = .ok s1 → putL is ls s1 = .ok s' → ∃ φ', (i :: is).length = (v :: vs).length ∧ Good w (setsV (i :: is) (v :: vs) σ) H Hf s' φ' ∧ ∀ a, Own s' φ' a → Own s φ a ∨ a ∈ F1 ++ F2 := by
          intro s1 e1 e2
          obtain ⟨φ1, g1, o1⟩ := r.put g e1
          have rr1 : RLs w (σ.set i (some v)) Hf H s1 φ1 vs ls F2 := rr.moved (putL_no e2) fun a ha z => by
            rcases o1 a z with z | z
            · exact rr.free a ha z
            · exact dj a z ha
          obtain ⟨φ2, l2, g2, o2⟩ := ih rr1 g1 e2
          refine ⟨φ2, by rw [List.length_cons, List.length_cons, l2], g2, fun a z => ?_⟩
          rcases o2 a z with z | z
          · rcases o1 a z with z | z
            · exact .inl z
            · exact .inr (List.mem_append_left _ z)
          · exact .inr (List.mem_append_right _ z)
        cases l with
        | d x => exact key _ rfl e
        | t x => exact key _ rfl e
        | o j => cases e
theorem gs_par2 (hN : X.N.Nodup) (c : Cok w k X) (i j : Nat) {x y : Str} {a b : Expr} {g : LV} {px py pt : Pos} {kt k2 : Nat} {pt2 : Pos} (ha : GL w X [a, b] g) (hio : ∀ m ∈ [i, j], m ∉ io := by decide) (hi : X.N[i]? = some x := by rfl) (hj : X.N[j]? = some y := by rfl) (hij : i ≠ j := by decide)
    (hx : X.env.scope.names.lookup x = some .local := by rfl) (hy : X.env.scope.names.lookup y = some .local := by rfl)
    (hw : swappedStores [.Tuple [.Name x px, .Name y py] kt pt] (.Tuple [a, b] k2 pt2) X.env = pure (some [x, y]) := by rfl)
    (hs : swapsWithSole [.Tuple [.Name x px, .Name y py] kt pt] (.Tuple [a, b] k2 pt2) pos.line X.env = pure false := by rfl) :
    GS w io X (.Assign [.Tuple [.Name x px, .Name y py] kt pt] (.Tuple [a, b] k2 pt2) pos) (sPar [i, j] g) := ps_imp (ps_par c.calm hN hi hj hij hx hy ha hw hs) fun D σ H => by
  rintro ⟨Hf, s, φ, fl, s', gd, e, q⟩
  obtain ⟨⟨ls, s1⟩, h1, h2⟩ := R.bind_eq_ok.mp e
  obtain ⟨s2, h3, h4⟩ := R.bind_eq_ok.mp h2
  cases h4
  refine ⟨Hf, s, φ, ls, s1, gd, h1, fun vs H1 Hf1 φ1 F1 g1 r1 k1 => ?_⟩
  obtain ⟨φ2, hl, g2, o2⟩ := r1.put g1 h3
  match vs, hl with
  | [v, u], _ => exact ⟨v, u, rfl, q _ H1 Hf1 φ2 g2 (k1.weak o2) (Kp.sets (vs := [v, u]) hio)⟩
theorem gs_par3 (hN : X.N.Nodup) (c : Cok w k X) (i j l : Nat) {x y z : Str} {a b d : Expr} {g : LV} {px py pz pt : Pos} {kt k2 : Nat} {pt2 : Pos} (ha : GL w X [a, b, d] g) (hio : ∀ m ∈ [i, j, l], m ∉ io := by decide) (hi : X.N[i]? = some x := by rfl) (hj : X.N[j]? = some y := by rfl) (hl : X.N[l]? = some z := by rfl) (hij : i ≠ j := by decide) (hil : i ≠ l := by decide) (hjl : j ≠ l := by decide)
    (hx : X.env.scope.names.lookup x = some .local := by rfl) (hy : X.env.scope.names.lookup y = some .local := by rfl) (hz : X.env.scope.names.lookup z = some .local := by rfl)
    (hw : swappedStores [.Tuple [.Name x px, .Name y py, .Name z pz] kt pt] (.Tuple [a, b, d] k2 pt2) X.env = pure (some [x, y, z]) := by rfl)
    (hs : swapsWithSole [.Tuple [.Name x px, .Name y py, .Name z pz] kt pt] (.Tuple [a, b, d] k2 pt2) pos.line X.env = pure false := by rfl) :
    GS w io X (.Assign [.Tuple [.Name x px, .Name y py, .Name z pz] kt pt] (.Tuple [a, b, d] k2 pt2) pos) (sPar [i, j, l] g) := ps_imp (ps_par3 c.calm hN hi hj hl hij hil hjl hx hy hz ha hw hs) fun D σ H => by
  rintro ⟨Hf, s, φ, fl, s', gd, e, q⟩
  obtain ⟨⟨ls, s1⟩, h1, h2⟩ := R.bind_eq_ok.mp e
  obtain ⟨s2, h3, h4⟩ := R.bind_eq_ok.mp h2
  cases h4
  refine ⟨Hf, s, φ, ls, s1, gd, h1, fun vs H1 Hf1 φ1 F1 g1 r1 k1 => ?_⟩
  obtain ⟨φ2, hl, g2, o2⟩ := r1.put g1 h3
  match vs, hl with
  | [v, u, t], _ => exact ⟨v, u, t, rfl, q _ H1 Hf1 φ2 g2 (k1.weak o2) (Kp.sets (vs := [v, u, t]) hio)⟩
/-- .., by a new tuple (names that are not plain locals, four and more) -/
def tNames (is : List Nat) : TGs := fun vs σ H Q => is.length = vs.length ∧ Q (setsV is vs σ) H
theorem pgs_n0 : PGs X [] (tNames []) := pgs_imp pgs_nil fun vs σ H Q => by
  rintro ⟨h, q⟩
  cases vs with
  | nil => exact ⟨rfl, q⟩
  | cons _ _ => cases h
theorem pgs_n (i : Nat) {x : Str} {px : Pos} {es : List Expr} {is : List Nat} (hN : X.N.Nodup) (hr : PGs X es (tNames is)) (hi : X.N[i]? = some x := by rfl) (hx : Loc X.env.scope x := by first | exact .inl rfl | exact .inr rfl) (hf : X.fn x = true ∨ X.env.scope.names.lookup x = some .local := by first | exact .inl rfl | exact .inr rfl)
    (hs : (assignEach (.Name x px :: es) X.env).map (·.2) = assign (.Name x px) X.env :: (assignEach es X.env).map (·.2) := by rfl) : PGs X (.Name x px :: es) (tNames (i :: is)) :=
  pgs_imp (pgs_cons (pg_name hN hi hx hf) hr hs) fun vs σ H Q => by
    rintro ⟨h, q⟩
    cases vs with
    | nil => cases h
    | cons v vs => exact ⟨v, vs, rfl, by simpa using h, q⟩
theorem gs_parN (hN : X.N.Nodup) (c : Cok w k X) {es ts : List Expr} {is : List Nat} {g : LV} {pt : Pos} {kt k2 n : Nat} {pt2 : Pos} (ha : GL w X es g) (ht : PGs X ts (tNames is)) (hio : ∀ m ∈ is, m ∉ io := by decide) (hn : (assignEach ts X.env).length = n := by rfl) (hl : is.length = n := by rfl) (hz : is.length ≤ 100 := by decide) (hst : (assignEach ts X.env).findIdx? (·.1) = none := by rfl)
    (hw : swappedStores [.Tuple ts kt pt] (.Tuple es k2 pt2) X.env = pure none := by rfl) (hs : swapsWithSole [.Tuple ts kt pt] (.Tuple es k2 pt2) pos.line X.env = pure false := by rfl) (h1 : (assignEach [.Tuple ts kt pt] X.env).map (·.2) = [assign (.Tuple ts kt pt) X.env] := by rfl) :
    GS w io X (.Assign [.Tuple ts kt pt] (.Tuple es k2 pt2) pos) (sPar is g) := ps_imp (ps_asg (pe_tupF ha) (pg_tup c.calm ht hn hst) hs hw h1) fun D σ H => by
  rintro ⟨Hf, s, φ, fl, s', gd, e, q⟩
  obtain ⟨⟨ls, s1⟩, h1, h2⟩ := R.bind_eq_ok.mp e
  obtain ⟨s2, h3, h4⟩ := R.bind_eq_ok.mp h2
  cases h4
  refine ⟨Hf, s, φ, ls, s1, gd, h1, fun vs H1 Hf1 φ1 F1 g1 r1 k1 => ?_⟩
  obtain ⟨φ2, hv, g2, o2⟩ := r1.put g1 h3
  refine ⟨sz_line (by omega), fun p hp o ho => ⟨p, vs, rfl, .inl (.inr ⟨o, upd_same⟩), by rw [← hv, hl], hv, ?_⟩⟩
  exact q _ _ Hf1 φ2 (g2.updH hp) ((k1.weak o2).trans (Stp.updH hp fun a => .inl) (fun _ => id) fun x hx => g2.own_free hx) (Kp.sets hio)
end
end KV

set_option Elab.async false
set_option linter.all false
set_option maxRecDepth 100000
set_option maxHeartbeats 2000000
/-! KVJ: what is walked; for, while, comprehensions. -/
namespace KV
open PySem L2
open PySem.Spec PyProof.Rows

section
variable {w : Wd} {k : Nat} {X : Cx} {pos : Pos} {σ : L2.St} {H Hf : Hp} {s s' : Sl} {φ : Nat → List Addr} {Q : VK} {io : List Nat}

/-- J walks ds, values that may be shared -/
structure Wk (w : Wd) (J : It) (ds : List D) (Hf : Hp) : Prop where
  goes : ∀ i H Hf2, Sub Hf Hf2 → Sub Hf2 H → i < ds.length → J.go i H
  stops : ∀ H Hf2, Sub Hf Hf2 → Sub Hf2 H → J.stop ds.length H
  yields : ∀ i H Hf2 x H' d, Sub Hf Hf2 → Sub Hf2 H → ds[i]? = some d → J.yld i H x H' → H' = H ∧ Rp w.K Hf2 x d
/-- .., as new tuples -/
structure Wk2 (w : Wd) (J : It) (ds : List D) (Hf : Hp) : Prop where
  goes : ∀ i H Hf2, Sub Hf Hf2 → Sub Hf2 H → i < ds.length → J.go i H
  stops : ∀ H Hf2, Sub Hf Hf2 → Sub Hf2 H → J.stop ds.length H
  yields : ∀ i H Hf2 x H' d, Sub Hf Hf2 → Sub Hf2 H → ds[i]? = some d → J.yld i H x H' → ∃ p vs es, x = .ref p ∧ H p = none ∧ H' = upd H p (.tup vs) ∧ d = .tuple es ∧ RpA w.K Hf2 vs es
def tI (w : Wd) (it : IV) : TI := fun σ H Rv => ∃ Hf s φ ds s', Good w σ H Hf s φ ∧ it s = .ok (ds, s') ∧ ∀ J H' Hf' φ', Good w σ H' Hf' s' φ' → Stp H Hf (Own s φ) H' Hf' (Own s' φ') → Wk w J ds Hf' → Rv J H'
def tI2 (w : Wd) (it : IV) : TI := fun σ H Rv => ∃ Hf s φ ds s', Good w σ H Hf s φ ∧ it s = .ok (ds, s') ∧ ∀ J H' Hf' φ', Good w σ H' Hf' s' φ' → Stp H Hf (Own s φ) H' Hf' (Own s' φ') → Wk2 w J ds Hf' → Rv J H'
abbrev GI (w : Wd) (X : Cx) (tg it : Expr) (f : IV) : Prop := PI X tg it (tI w f)
abbrev GI2 (w : Wd) (X : Cx) (tg it : Expr) (f : IV) : Prop := PI X tg it (tI2 w f)
theorem pi_imp {X : Cx} {tg e : Expr} {t t' : TI} (h : PI X tg e t) (i : ∀ σ H Rv, t' σ H Rv → t σ H Rv) : PI X tg e t' := ⟨fun pins s σ H Rv I q => h.run pins s σ H Rv I (i σ H Rv q)⟩

/-! ### for -/
/-- a turn's target and body, the walk's next place wanted behind it -/
theorem turn_for {tg : TG} {g : GV} {b : SV} {D0 : Ends} {fl : Fl} {x0 : D} {xs : List D} {σ1 : L2.St} {H1 Hf1 H1' : Hp} {s1 : Sl} {φ1 : Nat → List Addr} {N : L2.St → Hp → Prop} {v : V}
    (e : forD g b (x0 :: xs) s1 = .ok (fl, s')) (q : PP w io σ H Hf s φ D0 fl s') (g1 : Good w σ1 H1 Hf1 s1 φ1) (k1 : Stp H Hf (Own s φ) H1 Hf1 (Own s1 φ1))
    (hN : ∀ σ2 H2 Hf2 s2 φ2, Good w σ2 H2 Hf2 s2 φ2 → Stp H Hf (Own s φ) H2 Hf2 (Own s2 φ2) → Kp io σ σ2 → forD g b xs s2 = .ok (fl, s') → N σ2 H2) :
    ∃ s2, g x0 s1 = .ok s2 ∧ ∀ σ2 φ2 H2, Good w σ2 H2 Hf1 s2 φ2 → Stp H Hf (Own s φ) H2 Hf1 (Own s2 φ2) → Kp io σ σ2 → tS w io b { D0 with nx := N, ct := N, bk := D0.nx } σ2 H2 := by
  obtain ⟨s2, h1, h2⟩ := R.bind_eq_ok.mp e
  obtain ⟨⟨f1, s3⟩, h3, h4⟩ := R.bind_eq_ok.mp h2
  refine ⟨s2, h1, fun σ2 φ2 H2 g2 k2 kp => ⟨Hf1, s2, φ2, f1, s3, g2, h3, ?_⟩⟩
  cases f1 with
  | nx => exact fun σ3 H3 Hf3 φ3 g3 k3 kp3 => hN σ3 H3 Hf3 s3 φ3 g3 (k2.trans k3 (fun _ => id) fun x hx => g2.own_free hx) (kp.trans kp3) h4
  | ct => exact fun σ3 H3 Hf3 φ3 g3 k3 kp3 => hN σ3 H3 Hf3 s3 φ3 g3 (k2.trans k3 (fun _ => id) fun x hx => g2.own_free hx) (kp.trans kp3) h4
  | bk =>
    cases h4
    exact q.later k2 (fun _ => id) g2 kp
  | rt t =>
    cases h4
    exact q.later k2 (fun _ => id) g2 kp
theorem drop_at {ds : List D} {i : Nat} (h : i < ds.length) : ds.drop i = ds[i] :: ds.drop (i + 1) := List.drop_eq_getElem_cons h
theorem for_1 {J : It} {g : GV} {b : SV} {ts : List Nat} {D0 : Ends} {fl : Fl} {ds : List D} (hio : ∀ i ∈ ts, i ∉ io) (gd : Good w σ H Hf s φ) (wk : Wk w J ds Hf) (e : forD g b ds s = .ok (fl, s')) (q : PP w io σ H Hf s φ D0 fl s') :
    ∃ W : Nat → Nat → L2.St → Hp → Prop, (∃ m, W 0 m σ H) ∧ ∀ i m σ H, W i m σ H → (J.stop i H ∧ D0.nx σ H) ∨ (J.go i H ∧ ∃ N : L2.St → Hp → Prop, (∀ σ' H', N σ' H' → ∃ m', m' < m ∧ W (i + 1) m' σ' H') ∧
      ∀ x H', J.yld i H x H' → tG w g ts x σ H' fun σ2 H2 => tS w io b { D0 with nx := N, ct := N, bk := D0.nx } σ2 H2) := by
  refine ⟨fun i m σ1 H1 => m = ds.length - i ∧ i ≤ ds.length ∧ ∃ Hf1 s1 φ1, Good w σ1 H1 Hf1 s1 φ1 ∧ Stp H Hf (Own s φ) H1 Hf1 (Own s1 φ1) ∧ Kp io σ σ1 ∧ forD g b (ds.drop i) s1 = .ok (fl, s'), ⟨ds.length, by simp, Nat.zero_le _, Hf, s, φ, gd, Stp.refl, Kp.refl, e⟩, ?_⟩
  rintro i m σ1 H1 ⟨rfl, hi, Hf1, s1, φ1, g1, k1, kp1, e1⟩
  by_cases hlt : i < ds.length
  · rw [drop_at hlt] at e1
    refine .inr ⟨wk.goes i H1 Hf1 k1.sub g1.sub hlt, fun σ2 H2 => ds.length - (i + 1) = ds.length - (i + 1) ∧ i + 1 ≤ ds.length ∧ ∃ Hf1 s1 φ1, Good w σ2 H2 Hf1 s1 φ1 ∧ Stp H Hf (Own s φ) H2 Hf1 (Own s1 φ1) ∧ Kp io σ σ2 ∧ forD g b (ds.drop (i + 1)) s1 = .ok (fl, s'),
      fun σ' H' n => ⟨ds.length - (i + 1), by omega, n⟩, fun x H' y => ?_⟩
    obtain ⟨rfl, rx⟩ := wk.yields i H1 Hf1 x H' ds[i] k1.sub g1.sub (List.getElem?_eq_getElem hlt) y
    obtain ⟨s2, h2, h3⟩ := turn_for (tg := tG w g ts) (v := x) (H1' := H') (N := fun σ2 H2 => ds.length - (i + 1) = ds.length - (i + 1) ∧ i + 1 ≤ ds.length ∧ ∃ Hf1 s1 φ1, Good w σ2 H2 Hf1 s1 φ1 ∧ Stp H Hf (Own s φ) H2 Hf1 (Own s1 φ1) ∧ Kp io σ σ2 ∧ forD g b (ds.drop (i + 1)) s1 = .ok (fl, s'))
      e1 q g1 k1 fun σ2 H2 Hf2 s2 φ2 g2 k2 kp2 e2 => ⟨rfl, hlt, Hf2, s2, φ2, g2, k2, kp2, e2⟩
    exact ⟨Hf1, s1, φ1, ds[i], s2, g1, rx, h2, fun σ2 φ2 g2 o2 _ n2 => h3 σ2 φ2 _ g2 (k1.weak o2) (kp1.trans (Kp.of n2 hio))⟩
  · have : i = ds.length := by omega
    subst this
    rw [List.drop_length] at e1
    cases e1
    exact .inl ⟨wk.stops H1 Hf1 k1.sub g1.sub, q σ1 H1 Hf1 φ1 g1 k1 kp1⟩
theorem for_2 {J : It} {K : PySem.W.Frag} {gs : List GV} {b : SV} {ts : List Nat} {D0 : Ends} {fl : Fl} {ds : List D} (hio : ∀ i ∈ ts, i ∉ io) (gd : Good w σ H Hf s φ) (wk : Wk2 w J ds Hf) (e : forD (gT gs) b ds s = .ok (fl, s')) (q : PP w io σ H Hf s φ D0 fl s') :
    ∃ W : Nat → Nat → L2.St → Hp → Prop, (∃ m, W 0 m σ H) ∧ ∀ i m σ H, W i m σ H → (J.stop i H ∧ D0.nx σ H) ∨ (J.go i H ∧ ∃ N : L2.St → Hp → Prop, (∀ σ' H', N σ' H' → ∃ m', m' < m ∧ W (i + 1) m' σ' H') ∧
      ∀ x H', J.yld i H x H' → tG2 w K gs ts x σ H' fun σ2 H2 => tS w io b { D0 with nx := N, ct := N, bk := D0.nx } σ2 H2) := by
  refine ⟨fun i m σ1 H1 => m = ds.length - i ∧ i ≤ ds.length ∧ ∃ Hf1 s1 φ1, Good w σ1 H1 Hf1 s1 φ1 ∧ Stp H Hf (Own s φ) H1 Hf1 (Own s1 φ1) ∧ Kp io σ σ1 ∧ forD (gT gs) b (ds.drop i) s1 = .ok (fl, s'), ⟨ds.length, by simp, Nat.zero_le _, Hf, s, φ, gd, Stp.refl, Kp.refl, e⟩, ?_⟩
  rintro i m σ1 H1 ⟨rfl, hi, Hf1, s1, φ1, g1, k1, kp1, e1⟩
  by_cases hlt : i < ds.length
  · rw [drop_at hlt] at e1
    refine .inr ⟨wk.goes i H1 Hf1 k1.sub g1.sub hlt, fun σ2 H2 => ds.length - (i + 1) = ds.length - (i + 1) ∧ i + 1 ≤ ds.length ∧ ∃ Hf1 s1 φ1, Good w σ2 H2 Hf1 s1 φ1 ∧ Stp H Hf (Own s φ) H2 Hf1 (Own s1 φ1) ∧ Kp io σ σ2 ∧ forD (gT gs) b (ds.drop (i + 1)) s1 = .ok (fl, s'),
      fun σ' H' n => ⟨ds.length - (i + 1), by omega, n⟩, fun x H' y => ?_⟩
    obtain ⟨p, vs, es, rfl, hp, rfl, ed, rx⟩ := wk.yields i H1 Hf1 x H' ds[i] k1.sub g1.sub (List.getElem?_eq_getElem hlt) y
    obtain ⟨s2, h2, h3⟩ := turn_for (tg := tG2 w K gs ts) (v := .ref p) (H1' := H1) (N := fun σ2 H2 => ds.length - (i + 1) = ds.length - (i + 1) ∧ i + 1 ≤ ds.length ∧ ∃ Hf1 s1 φ1, Good w σ2 H2 Hf1 s1 φ1 ∧ Stp H Hf (Own s φ) H2 Hf1 (Own s1 φ1) ∧ Kp io σ σ2 ∧ forD (gT gs) b (ds.drop (i + 1)) s1 = .ok (fl, s'))
      e1 q g1 k1 fun σ2 H2 Hf2 s2 φ2 g2 k2 kp2 e2 => ⟨rfl, hlt, Hf2, s2, φ2, g2, k2, kp2, e2⟩
    rw [ed] at h2
    refine ⟨p, vs, Hf1, s1, φ1, es, s2, rfl, .inl (.inl upd_same), g1.updH hp, rx, h2, fun σ2 φ2 g2 o2 _ n2 => h3 σ2 φ2 _ g2 ?_ (kp1.trans (Kp.of n2 hio))⟩
    exact (k1.trans (Stp.updH hp fun a => .inl) (fun _ => id) fun x hx => g1.own_free hx).weak o2
  · have : i = ds.length := by omega
    subst this
    rw [List.drop_length] at e1
    cases e1
    exact .inl ⟨wk.stops H1 Hf1 k1.sub g1.sub, q σ1 H1 Hf1 φ1 g1 k1 kp1⟩
theorem gs_for {tg it : Expr} {body : List Stmt} {fi : IV} {g : GV} {ts : List Nat} {b : SV} (c : Cok w k X) (hp : PassesOwn (model X.prog X.w) X.A X.env X.xe) (hi : GI w X tg it fi) (hg : GG w X tg g ts) (hb : GSs w io X body b) (hio : ∀ i ∈ ts, i ∉ io := by decide)
    (hs : ∀ x, foldedSetIterable it X.env x = pure x := by intro _; rfl) : GS w io X (.For tg it body [] pos) (sFor fi g b) := ps_imp (ps_for hp c.calm hi hg hb hs) fun D0 σ H => by
  rintro ⟨Hf, s, φ, fl, s', gd, e, q⟩
  obtain ⟨⟨ds, s1⟩, h1, h2⟩ := R.bind_eq_ok.mp e
  exact ⟨Hf, s, φ, ds, s1, gd, h1, fun J H1 Hf1 φ1 g1 k1 wk => for_1 hio g1 wk h2 (q.later k1 (fun _ => id) g1)⟩
theorem gs_for2 {tg it : Expr} {body : List Stmt} {fi : IV} {gs : List GV} {ts : List Nat} {b : SV} (c : Cok w k X) (hp : PassesOwn (model X.prog X.w) X.A X.env X.xe) (hi : GI2 w X tg it fi) (hg : GG2 w X tg gs ts) (hb : GSs w io X body b) (hio : ∀ i ∈ ts, i ∉ io := by decide)
    (hs : ∀ x, foldedSetIterable it X.env x = pure x := by intro _; rfl) : GS w io X (.For tg it body [] pos) (sFor fi (gT gs) b) := ps_imp (ps_for hp c.calm hi hg hb hs) fun D0 σ H => by
  rintro ⟨Hf, s, φ, fl, s', gd, e, q⟩
  obtain ⟨⟨ds, s1⟩, h1, h2⟩ := R.bind_eq_ok.mp e
  exact ⟨Hf, s, φ, ds, s1, gd, h1, fun J H1 Hf1 φ1 g1 k1 wk => for_2 hio g1 wk h2 (q.later k1 (fun _ => id) g1)⟩

/-! ### while -/
theorem gs_while {ce : Expr} {body : List Stmt} {fc : BV} {b : SV} (hp : PassesOwn (model X.prog X.w) X.A X.env X.xe) (hc : GB w X ce fc) (hb : GSs w io X body b) : GS w io X (.While ce body [] pos) (sWhile fc b) := ps_imp (ps_while hp hc hb) fun D0 σ H => by
  rintro ⟨Hf, s, φ, fl, s', gd, e, q⟩
  refine ⟨fun m σ1 H1 => ∃ Hf1 s1 φ1, Good w σ1 H1 Hf1 s1 φ1 ∧ Stp H Hf (Own s φ) H1 Hf1 (Own s1 φ1) ∧ Kp io σ σ1 ∧ whileD fc b m s1 = .ok (fl, s'), ⟨fuel, Hf, s, φ, gd, Stp.refl, Kp.refl, e⟩, ?_⟩
  rintro m σ1 H1 ⟨Hf1, s1, φ1, g1, k1, kp1, e1⟩
  cases m with
  | zero => cases e1
  | succ m =>
    obtain ⟨⟨t, s2⟩, h1, h2⟩ := R.bind_eq_ok.mp e1
    refine ⟨Hf1, s1, φ1, t, s2, g1, h1, fun H2 Hf2 φ2 g2 k2 => ?_⟩
    have k12 := k1.trans k2 (fun _ => id) fun x hx => g1.own_free hx
    cases t with
    | false =>
      cases h2
      exact q σ1 H2 Hf2 φ2 g2 k12 kp1
    | true =>
      obtain ⟨⟨f1, s3⟩, h3, h4⟩ := R.bind_eq_ok.mp h2
      simp only [if_true]
      refine ⟨fun σ3 H3 => ∃ Hf1 s1 φ1, Good w σ3 H3 Hf1 s1 φ1 ∧ Stp H Hf (Own s φ) H3 Hf1 (Own s1 φ1) ∧ Kp io σ σ3 ∧ whileD fc b m s1 = .ok (fl, s'), fun σ' H' n => ⟨m, by omega, n⟩, Hf2, s2, φ2, f1, s3, g2, h3, ?_⟩
      cases f1 with
      | nx => exact fun σ3 H3 Hf3 φ3 g3 k3 kp3 => ⟨Hf3, s3, φ3, g3, k12.trans k3 (fun _ => id) fun x hx => g2.own_free hx, kp1.trans kp3, h4⟩
      | ct => exact fun σ3 H3 Hf3 φ3 g3 k3 kp3 => ⟨Hf3, s3, φ3, g3, k12.trans k3 (fun _ => id) fun x hx => g2.own_free hx, kp1.trans kp3, h4⟩
      | bk => cases h4; exact q.later k12 (fun _ => id) g2 kp1
      | rt t => cases h4; exact q.later k12 (fun _ => id) g2 kp1
end
end KV

set_option Elab.async false
set_option linter.all false
set_option maxRecDepth 100000
set_option maxHeartbeats 2000000
/-! KVK: what is walked: lists and tuples, ranges, enumerate, zip. -/
namespace KV
open PySem L2
open PySem.Spec PyProof.Rows

/-! ### enumerate(a tuple) -/
theorem enum_newT {v : Value} {o : Obj} {Z : Heap → Prop} (B : Begins v o Z) :
    Meets (Builtin.«enumerate.__new__» ⟨[.type "enumerate", v], []⟩) (fun _ R s => Z s.heap ∧
      R (.ok (.ret (.ref (s.heap.push o).objs.size))) { s with heap := (s.heap.push o).push { cls := .type "enumerate", data := .fields #[.none, .bool false, .ref s.heap.objs.size, rawInt 0, .none, .none] } }) :=
  .of_wp fun prog w A R s h => by
    obtain ⟨hp, g, d, tk, os⟩ := s
    obtain ⟨h1, h⟩ := h
    have hsub := sub_enumerate
    have q1 : ∀ {A' : Around} {E : Value → Shared → Prop} {Q : Value → Shared → Prop}, Q (.ref hp.objs.size) ⟨hp.push o, g, d, tk, os⟩ → wpAny (model prog w) A' (pyIter v) Q E ⟨hp, g, d, tk, os⟩ :=
      fun q => B.iter prog w _ _ ⟨hp, g, d, tk, os⟩ _ h1 q
    wp_walk using q1
    refine wpAny_stack_any fun st => wpAny_pure ?_
    split
    · rename_i c _ _ _ _ _
      cases (c == Value.type "enumerate")
      · wp_walk using q1
        exact ⟨_, rfl, h⟩
      · wp_walk using q1
        exact ⟨_, rfl, h⟩
    · wp_walk using q1
      exact ⟨_, rfl, h⟩
theorem call_enumT {prog : Program} {w : World} {A : Around} {E : Value → Shared → Prop} {s : Shared} {v : Value} {o : Obj} {Z : Heap → Prop} {Q : Value → Shared → Prop} (B : Begins v o Z) (h1 : Z s.heap)
    (h : ∀ h', IsEnum h' (s.heap.objs.size + 1) s.heap.objs.size 0 .none → h'.get? s.heap.objs.size = some o → (∀ b o, s.heap.get? b = some o → h'.get? b = some o) → Q (.ref (s.heap.objs.size + 1)) { s with heap := h' }) :
    wpAny (model prog w) A (call (.type "enumerate") [v]) Q E s := by
  refine callType_new PySem.F.called_enumerate (by decide) (PySem.F.typeCall_enumerate_1 _) (PySem.F.newCall_enumerate_1 _) (fun obj => PySem.F.args_object_init_2 obj _) PySem.F.entry_enumerate_new (enum_newT B) ⟨h1, ?_⟩
  have hz : (s.heap.push o).objs.size = s.heap.objs.size + 1 := Heap.size_push ..
  show _ ∧ _
  rw [hz]
  have he : IsEnum ((s.heap.push o).push { cls := .type "enumerate", data := .fields #[.none, .bool false, .ref s.heap.objs.size, rawInt 0, .none, .none] }) (s.heap.objs.size + 1) s.heap.objs.size 0 .none := by
    have := Heap.get?_push_size (s.heap.push o) (o := { cls := .type "enumerate", data := .fields #[.none, .bool false, .ref s.heap.objs.size, rawInt 0, .none, .none] }) rfl
    rw [hz] at this; exact this
  exact ⟨⟨_, he, rfl⟩, h _ he (Heap.get?_push_of_some _ (Heap.get?_push_size _ B.free)) fun b o x => Heap.get?_push_of_some _ (Heap.get?_push_of_some _ x)⟩
def IteT (K : PySem.W.Frag) (a : Addr) : It :=
  ⟨fun i H => ∃ (xs : List V) (x : V), SqT K H a xs ∧ xs[i]? = some x, fun i H v H' => ∃ T x, v = .ref T ∧ H T = none ∧ H' = upd H T (.tup [.int (i : Nat), x]) ∧ ∀ xs, SqT K H a xs → xs[i]? = some x, fun i H => ∃ xs : List V, SqT K H a xs ∧ xs.length = i⟩
theorem turn_enumT {P : Program} {w : World} {K : PySem.W.Frag} {elts : List Expr} {kk : Nat} {tpos : Pos} (a e it : Addr) :
    Turn P w K (.Tuple elts kk tpos) (IteT K a) [e, it] e (fun i h => (∃ old, IsEnum h e it ((i : Nat) : Int) old) ∧ h.IsTupleIter it a i ∧ e ≠ it ∧ a ≠ it ∧ a ≠ e) where
  mem := by simp
  obj := fun i h st b hb => by
    obtain ⟨⟨old, he⟩, ⟨o, ho, hc, hd⟩, _⟩ := st
    have e' : b = e ∨ b = it := by simpa using hb
    rcases e' with z | z
    · rw [z]; exact ⟨_, he, fun v q => nomatch q⟩
    · rw [z]; exact ⟨o, ho, fun v q => by rw [hd] at q; cases q⟩
  keep := fun i h h' st k => let ⟨⟨old, he⟩, hi, hne⟩ := st; ⟨⟨old, k e (by simp) _ he⟩, hi.at fun o q => k it (by simp) o q, hne⟩
  item := by
    intro X hP hw hK hc i pins s σ H E I hf st hg
    subst hP hw hK
    obtain ⟨⟨old, he⟩, hit, hne, ha1, ha2⟩ := st
    obtain ⟨xs, x, hq, hx⟩ := hg
    obtain ⟨its, rv, p, hz⟩ := I.tuple hq
    obtain ⟨u, hu, ru⟩ := rv.get hx
    have hel : e < s.heap.objs.size := Heap.lt_size he
    have hil : it < s.heap.objs.size := by obtain ⟨_, q, _⟩ := hit; exact Heap.lt_size q
    have hlt : i < its.toArray.size := by
      have := (List.getElem?_eq_some_iff.mp hu).1
      simpa using this
    refine wpAny_pyNext_enum_itemD (A := X.A) (Draws.tuple (A := X.A.in1) (show X.A.in1.handled = none from I.ok.hd hc) it a ha1 its.toArray) he ⟨hit, p⟩ hlt hne (by simp [hne, Ne.symm ha2]) fun x' h' tk hP ho hst' hT hsz hk => ?_
    have eu : x' = u := by
      have h1 : its[i]? = some x' := by simpa using hP
      rw [hu] at h1
      exact (Option.some.inj h1).symm
    subst eu
    refine ⟨_, rfl, wpAny_letOwnedTupleGo_enum (s := { s with heap := h', toks := tk + 1 }) ho fun h'' he' sb => ?_⟩
    have hT2 : h''.get? s.heap.objs.size = some { cls := .type "tuple", data := .seq #[.int i tk, x'] } := (sb.2 _ (Nat.ne_of_gt hel)).trans hT
    have new : ObjOk X.prog X.w (upd H s.heap.objs.size (.tup [.int (i : Nat), x])) h'' s.heap.objs.size (.tup [.int (i : Nat), x]) :=
      ⟨by show 2 ≤ sizeLine; decide, [.int i tk, x'], .cons ⟨_, rfl⟩ (.cons ru .nil), ⟨_, hT2, rfl, _, rfl⟩⟩
    have I1 : Inv X pins σ (upd H s.heap.objs.size (.tup [.int (i : Nat), x])) { s with heap := h'', toks := tk + 1 } :=
      I.turnedNew (ch := [e, it]) (fun b ob hb q => (sb.2 b (fun z => hb (by simp [z]))).trans (hk b ob (fun z => hb (by simp [z])) (fun z => hb (by simp [z])) q)) hf (Nat.le_refl _) new
    refine ⟨.ref s.heap.objs.size, _, I1, rfl, ⟨_, x, rfl, I.hok.fresh (Nat.le_refl _), rfl, fun ys hy => by rw [I.tuple_inj hy hq]; exact hx⟩, ⟨⟨x', ?_⟩, hst'.1.at fun o q => (sb.2 it (Ne.symm hne)).trans q, hne, ha1, ha2⟩, fun b hb => ?_⟩
    · have e1 : ((i + 1 : Nat) : Int) = (i : Int) + 1 := by omega
      rw [e1]; exact he'
    · have hb' : b < s.heap.objs.size := by
        have e' : b = e ∨ b = it := by simpa using hb
        rcases e' with z | z
        · rw [z]; exact hel
        · rw [z]; exact hil
      rw [upd_ne (Nat.ne_of_lt hb')]
      exact (hf b hb).1
  done := by
    intro X hP hw hK hc i pins s σ H E I hf st hg
    subst hP hw hK
    obtain ⟨⟨old, he⟩, hit, hne, ha1, ha2⟩ := st
    obtain ⟨xs, hq, hx⟩ := hg
    obtain ⟨its, rv, p, hz⟩ := I.tuple hq
    obtain ⟨f0, f1, f2, f3, f4, f5⟩ := hf it (by simp)
    have hn : its.toArray.size = i := by rw [List.size_toArray, ← rv.length, hx]
    subst hn
    exact wpAny_pyNext_enum_endD (A := X.A) (Draws.tuple (A := X.A.in1) (show X.A.in1.handled = none from I.ok.hd hc) it a ha1 its.toArray) he ⟨hit, p⟩ fun h' eb => ⟨rfl, I.turned (t' := s.toks) (fun b o hb q => eb b o hb q) f0 f1 f3 f4 f5⟩
  self := fun _ _ _ _ _ st h => let ⟨⟨_, he⟩, _⟩ := st; wpAny_pyIter_enum he h
def iEnumA (K : PySem.W.Frag) (te : TE) : TI := fun σ H Rv => te σ H fun v H1 => ∃ u, [v] = [u] ∧ ∃ a xs, u = .ref a ∧ ((SqL K H1 a xs ∧ Rv (Ite K a) H1) ∨ (SqT K H1 a xs ∧ Rv (IteT K a) H1))
theorem pi_enumA {X : Cx} {e : Expr} {te : TE} {p pos tpos : Pos} {elts : List Expr} {kk : Nat} (hg : Gl X "enumerate") (hm : X.mg "enumerate" = none) (he : PE X e te) (hs : starEach [e] X.env = [(false, eval e X.env)]) :
    PI X (.Tuple elts kk tpos) (.Call (.Name "enumerate" p) [e] [] pos) (iEnumA X.K te) := by
  refine ⟨fun pins s σ H R I h => ?_⟩
  have h0 : tCons te tNil σ H (fun vs H1 => ∃ v, vs = [v] ∧ ∃ a xs, v = .ref a ∧ ((SqL X.K H1 a xs ∧ R (Ite X.K a) H1) ∨ (SqT X.K H1 a xs ∧ R (IteT X.K a) H1))) := h
  refine Call_ (ld_blt I hg hm boot_enumerate (PyProof.Rows.callWith_type1 (thn ((pa_cons he pa_nil hs).run pos pins s σ H _ I h0) fun us s1 ⟨vs, H1, I1, r1, q1⟩ => ?_) hs rfl))
  obtain ⟨v, rfl, a, xs, rfl, q⟩ := q1
  cases r1 with
  | cons r rr =>
    cases rr
    cases r
    have fresh : ∀ b ∈ [s1.heap.objs.size + 1, s1.heap.objs.size], FpOk X pins H1 b := fun b hb => by
      have e' : b = s1.heap.objs.size + 1 ∨ b = s1.heap.objs.size := by simpa using hb
      have hle : s1.heap.objs.size ≤ b := by
        rcases e' with z | z
        · rw [z]; exact Nat.le_add_right _ _
        · rw [z]; exact Nat.le_refl _
      exact I1.fpOk hle (I1.hok.fresh hle)
    rcases q with ⟨hq, q⟩ | ⟨hq, q⟩
    · obtain ⟨its, rv, p', hz⟩ := I1.list hq
      refine call_enumerate_list p'.isList fun h' he hit hsz hk => wpAny_pyIter_enum he ?_
      have I2 : Inv X pins σ H1 { s1 with heap := h' } := I1.kept (t' := s1.toks) hk
      exact ⟨s1.heap.objs.size + 1, [s1.heap.objs.size + 1, s1.heap.objs.size], _, _, H1, rfl, I2, turn_enum a (s1.heap.objs.size + 1) s1.heap.objs.size, ⟨⟨.none, he⟩, hit, Nat.succ_ne_self _⟩, fresh, q⟩
    · obtain ⟨its, rv, p', hz⟩ := I1.tuple hq
      have hlt : a < s1.heap.objs.size := by obtain ⟨_, e, _⟩ := p'; exact Heap.lt_size e
      refine call_enumT (begins_tuple a its.toArray) p' fun h' he hit hk => wpAny_pyIter_enum he ?_
      have I2 : Inv X pins σ H1 { s1 with heap := h' } := I1.kept (t' := s1.toks) hk
      exact ⟨s1.heap.objs.size + 1, [s1.heap.objs.size + 1, s1.heap.objs.size], _, _, H1, rfl, I2, turn_enumT a (s1.heap.objs.size + 1) s1.heap.objs.size, ⟨⟨.none, he⟩, ⟨_, hit, rfl, rfl⟩, Nat.succ_ne_self _, Nat.ne_of_lt hlt, Nat.ne_of_lt (Nat.lt_succ_of_lt hlt)⟩, fresh, q⟩

section
variable {w : Wd} {k : Nat} {X : Cx} {pos : Pos} {σ : L2.St} {H Hf : Hp} {s s' : Sl} {φ : Nat → List Addr} {Q : VK}
/-! ### a list, a tuple -/
def iAny (K : PySem.W.Frag) (te : TE) : TI := fun σ H Rv => te σ H fun v H1 => ∃ a xs, v = .ref a ∧ ((SqL K H1 a xs ∧ Rv (Itl K a) H1) ∨ (SqT K H1 a xs ∧ Rv (Itt K a) H1))
theorem pi_any {tg l : Expr} {tl : TE} (hl : PE X l tl) : PI X tg l (iAny X.K tl) := by
  refine ⟨fun pins s σ H R I h => ?_⟩
  refine thn (hl.run pins s σ H _ I h) fun v s1 ⟨x, H1, I1, r1, q1⟩ => ?_
  obtain ⟨a, xs, e, q⟩ := q1
  subst e
  cases r1
  rcases q with ⟨hq, q⟩ | ⟨hq, q⟩
  · obtain ⟨its, rv, p, hz⟩ := I1.list hq
    refine wpAny_pyIter_list p.isList ?_
    refine ⟨s1.heap.objs.size, [s1.heap.objs.size], _, _, H1, rfl, I1.kept (t' := s1.toks) fun b o e => Heap.get?_push_of_some _ e, turn_list a _, ⟨_, Heap.get?_push_size _ rfl, rfl, rfl⟩, fun b hb => ?_, q⟩
    have e : b = s1.heap.objs.size := by simpa using hb
    subst e
    exact I1.fpOk (Nat.le_refl _) (I1.hok.fresh (Nat.le_refl _))
  · obtain ⟨its, rv, p, hz⟩ := I1.tuple hq
    refine wpAny_pyIter_tuple (show s1.heap.IsTuple a its.toArray from p) ?_
    refine ⟨s1.heap.objs.size, [s1.heap.objs.size], _, _, H1, rfl, I1.kept (t' := s1.toks) fun b o e => Heap.get?_push_of_some _ e, turn_tuple a _, ⟨_, Heap.get?_push_size _ rfl, rfl, rfl⟩, fun b hb => ?_, q⟩
    have e : b = s1.heap.objs.size := by simpa using hb
    subst e
    exact I1.fpOk (Nat.le_refl _) (I1.hok.fresh (Nat.le_refl _))
theorem wk_list {a : Addr} {vs : List V} {ds : List D} (h : Hf a = some (.lst vs)) (r : RpA w.K Hf vs ds) : Wk w (Itl w.K a) ds Hf := by
  refine ⟨fun i H Hf2 s1 s2 hi => ?_, fun H Hf2 s1 s2 => ?_, fun i H Hf2 x H' d s1 s2 hd y => ?_⟩
  · obtain ⟨v, hv, _⟩ := r.get (List.getElem?_eq_getElem hi)
    exact ⟨vs, v, SqL.of (s2 _ _ (s1 _ _ h)), hv⟩
  · exact ⟨vs, SqL.of (s2 _ _ (s1 _ _ h)), by rw [r.length]; exact Nat.le_refl _⟩
  · obtain ⟨v, hv, rv⟩ := r.get hd
    have := y.2 vs (SqL.of (s2 _ _ (s1 _ _ h)))
    rw [hv] at this
    cases this
    exact ⟨y.1, rv.mono s1⟩
theorem wk_tup {a : Addr} {vs : List V} {ds : List D} (h : STup w.K Hf a vs) (r : RpA w.K Hf vs ds) : Wk w (Itt w.K a) ds Hf := by
  refine ⟨fun i H Hf2 s1 s2 hi => ?_, fun H Hf2 s1 s2 => ?_, fun i H Hf2 x H' d s1 s2 hd y => ?_⟩
  · obtain ⟨v, hv, _⟩ := r.get (List.getElem?_eq_getElem hi)
    exact ⟨vs, v, (s2.stup (s1.stup h)).sq, hv⟩
  · exact ⟨vs, (s2.stup (s1.stup h)).sq, by rw [r.length]; exact Nat.le_refl _⟩
  · obtain ⟨v, hv, rv⟩ := r.get hd
    have := y.2 vs (s2.stup (s1.stup h)).sq
    rw [hv] at this
    cases this
    exact ⟨y.1, rv.mono s1⟩
theorem gi_seq (c : Cok w k X) {tg e : Expr} {f : EV} (he : GE w X e f) : GI w X tg e (iSeq f) := by
  refine pi_imp (pi_any he) fun σ H Rv => ?_
  rintro ⟨Hf, s, φ, ds, s', gd, e, q⟩
  obtain ⟨⟨d, s1⟩, h1, h2⟩ := R.bind_eq_ok.mp e
  obtain ⟨xs, h3, h4⟩ := R.bind_eq_ok.mp h2
  cases h4
  refine tE_D gd h1 fun v H1 Hf1 φ1 g1 r1 k1 => ?_
  rcases seqOf_ok h3 with rfl | rfl
  · cases r1 with
    | lst h r => exact ⟨_, _, rfl, .inl ⟨SqL.of (g1.sub _ _ h), by rw [c.K]; exact q _ H1 Hf1 φ1 g1 k1 (wk_list h r)⟩⟩
  · cases r1 with
    | tup h r => exact ⟨_, _, rfl, .inr ⟨by rw [c.K]; exact (g1.sub.stup h).sq, by rw [c.K]; exact q _ H1 Hf1 φ1 g1 k1 (wk_tup h r)⟩⟩

/-! ### ranges -/
theorem intR_len {lo : Int} {n : Nat} : (intR lo n).length = n := by simp [intR]
theorem intR_at {lo : Int} {n i : Nat} {d : D} (h : (intR lo n)[i]? = some d) : d = .int (lo + (i : Nat)) ∧ i < n := by
  simp only [intR, List.getElem?_map, List.getElem?_range, Option.map_eq_some_iff] at h
  obtain ⟨j, h1, rfl⟩ := h
  have h2 := List.getElem?_eq_some_iff.mp h1
  obtain ⟨h3, h4⟩ := h2
  simp at h3 h4
  subst h4
  exact ⟨rfl, h3⟩
theorem wk_rng {lo : Int} {n : Nat} : Wk w (Itr lo n) (intR lo n) Hf := by
  refine ⟨fun i H Hf2 s1 s2 hi => by rw [intR_len] at hi; exact hi, fun H Hf2 s1 s2 => by rw [intR_len]; exact Nat.le_refl _, fun i H Hf2 x H' d s1 s2 hd y => ?_⟩
  obtain ⟨rfl, _⟩ := intR_at hd
  obtain ⟨rfl, rfl⟩ := y
  exact ⟨rfl, .int _⟩
theorem gi_rg1 {tg a : Expr} {f : EV} {p : Pos} (hm : X.mg "range" = none) (ha : GE w X a f) (hg : Gl X "range" := by rfl) (hs : starEach [a] X.env = [(false, eval a X.env)] := by rfl) : GI w X tg (.Call (.Name "range" p) [a] [] pos) (iRg1 f) := by
  refine pi_imp (pi_range1 hg hm (pa_cons ha pa_nil hs) hs) fun σ H Rv => ?_
  rintro ⟨Hf, s, φ, ds, s', gd, e, q⟩
  obtain ⟨⟨d, s1⟩, h1, h2⟩ := R.bind_eq_ok.mp e
  refine tE_D gd h1 fun v H1 Hf1 φ1 g1 r1 k1 => ?_
  simp only at h2
  split at h2
  · split at h2
    · rename_i hb
      cases h2
      cases r1
      exact ⟨_, rfl, by omega, by omega, q _ H1 Hf1 φ1 g1 k1 wk_rng⟩
    · cases h2
  · cases h2
theorem gi_rg2 {tg a b : Expr} {f f' : EV} {p : Pos} (hm : X.mg "range" = none) (ha : GE w X a f) (hb : GE w X b f') (hg : Gl X "range" := by rfl) (hs : starEach [a, b] X.env = [(false, eval a X.env), (false, eval b X.env)] := by rfl) (hs2 : starEach [b] X.env = [(false, eval b X.env)] := by rfl) :
    GI w X tg (.Call (.Name "range" p) [a, b] [] pos) (iRg2 f f') := by
  refine pi_imp (pi_range2 hg hm (pa_cons ha (pa_cons hb pa_nil hs2) (by rw [hs, hs2])) hs hs2) fun σ H Rv => ?_
  rintro ⟨Hf, s, φ, ds, s', gd, e, q⟩
  obtain ⟨⟨d, s1⟩, h1, h2⟩ := R.bind_eq_ok.mp e
  obtain ⟨⟨d2, s2⟩, h3, h4⟩ := R.bind_eq_ok.mp h2
  refine tE_D gd h1 fun v H1 Hf1 φ1 g1 r1 k1 => tE_D g1 h3 fun v2 H2 Hf2 φ2 g2 r2 k2 => ?_
  simp only at h4
  split at h4
  · split at h4
    · rename_i hb
      cases h4
      cases r1
      cases r2
      exact ⟨_, _, rfl, by omega, q _ H2 Hf2 φ2 g2 (k1.trans k2 (fun _ => id) fun x hx => g1.own_free hx) wk_rng⟩
    · cases h4
  · cases h4

/-! ### enumerate -/
theorem enumD_at : ∀ {ds : List D} {k i : Nat} {d : D}, (enumD k ds)[i]? = some d → ∃ x, ds[i]? = some x ∧ d = .tuple [.int ((k + i : Nat) : Int), x]
  | [], k, i, d, h => by simp [enumD] at h
  | x :: r, k, 0, d, h => by
    simp [enumD] at h
    exact ⟨x, rfl, by simp [← h]⟩
  | x :: r, k, i + 1, d, h => by
    obtain ⟨y, h1, h2⟩ := enumD_at (ds := r) (k := k + 1) (i := i) (by simpa [enumD] using h)
    exact ⟨y, by simpa using h1, by rw [h2]; simp [Nat.add_assoc, Nat.add_comm 1 i]⟩
theorem enumD_len : ∀ {ds : List D} {k : Nat}, (enumD k ds).length = ds.length
  | [], _ => rfl
  | _ :: r, k => by rw [enumD, List.length_cons, List.length_cons, enumD_len]
theorem wk_enumL {a : Addr} {vs : List V} {ds : List D} (h : Hf a = some (.lst vs)) (r : RpA w.K Hf vs ds) : Wk2 w (Ite w.K a) (enumD 0 ds) Hf := by
  refine ⟨fun i H Hf2 s1 s2 hi => ?_, fun H Hf2 s1 s2 => ?_, fun i H Hf2 x H' d s1 s2 hd y => ?_⟩
  · rw [enumD_len] at hi
    obtain ⟨v, hv, _⟩ := r.get (List.getElem?_eq_getElem hi)
    exact ⟨vs, v, SqL.of (s2 _ _ (s1 _ _ h)), hv⟩
  · exact ⟨vs, SqL.of (s2 _ _ (s1 _ _ h)), by rw [enumD_len, r.length]; exact Nat.le_refl _⟩
  · obtain ⟨z, hz, rfl⟩ := enumD_at hd
    obtain ⟨v, hv, rv⟩ := r.get hz
    obtain ⟨p, x', rfl, hp, rfl, hx⟩ := y
    have := hx vs (SqL.of (s2 _ _ (s1 _ _ h)))
    rw [hv] at this
    cases this
    exact ⟨p, _, _, rfl, hp, rfl, rfl, by rw [Nat.zero_add]; exact .cons (.int _) (.cons (rv.mono s1) .nil)⟩
theorem wk_enumT {a : Addr} {vs : List V} {ds : List D} (h : STup w.K Hf a vs) (r : RpA w.K Hf vs ds) : Wk2 w (IteT w.K a) (enumD 0 ds) Hf := by
  refine ⟨fun i H Hf2 s1 s2 hi => ?_, fun H Hf2 s1 s2 => ?_, fun i H Hf2 x H' d s1 s2 hd y => ?_⟩
  · rw [enumD_len] at hi
    obtain ⟨v, hv, _⟩ := r.get (List.getElem?_eq_getElem hi)
    exact ⟨vs, v, (s2.stup (s1.stup h)).sq, hv⟩
  · exact ⟨vs, (s2.stup (s1.stup h)).sq, by rw [enumD_len, r.length]⟩
  · obtain ⟨z, hz, rfl⟩ := enumD_at hd
    obtain ⟨v, hv, rv⟩ := r.get hz
    obtain ⟨p, x', rfl, hp, rfl, hx⟩ := y
    have := hx vs (s2.stup (s1.stup h)).sq
    rw [hv] at this
    cases this
    exact ⟨p, _, _, rfl, hp, rfl, rfl, by rw [Nat.zero_add]; exact .cons (.int _) (.cons (rv.mono s1) .nil)⟩
theorem gi_enum (c : Cok w k X) {e : Expr} {f : EV} {p tpos : Pos} {elts : List Expr} {kk : Nat} (hm : X.mg "enumerate" = none) (he : GE w X e f) (hg : Gl X "enumerate" := by rfl) (hs : starEach [e] X.env = [(false, eval e X.env)] := by rfl) :
    GI2 w X (.Tuple elts kk tpos) (.Call (.Name "enumerate" p) [e] [] pos) (iEnum f) := by
  refine pi_imp (pi_enumA hg hm he hs) fun σ H Rv => ?_
  rintro ⟨Hf, s, φ, ds, s', gd, e, q⟩
  obtain ⟨⟨xs, s1⟩, e1, e2⟩ := R.bind_eq_ok.mp e
  cases e2
  obtain ⟨⟨d, s1⟩, h1, h2⟩ := R.bind_eq_ok.mp e1
  obtain ⟨xs, h3, h4⟩ := R.bind_eq_ok.mp h2
  cases h4
  refine tE_D gd h1 fun v H1 Hf1 φ1 g1 r1 k1 => ?_
  rcases seqOf_ok h3 with rfl | rfl
  · cases r1 with
    | lst h r => exact ⟨_, rfl, _, _, rfl, .inl ⟨SqL.of (g1.sub _ _ h), by rw [c.K]; exact q _ H1 Hf1 φ1 g1 k1 (wk_enumL h r)⟩⟩
  · cases r1 with
    | tup h r => exact ⟨_, rfl, _, _, rfl, .inr ⟨by rw [c.K]; exact (g1.sub.stup h).sq, by rw [c.K]; exact q _ H1 Hf1 φ1 g1 k1 (wk_enumT h r)⟩⟩

/-! ### zip -/
theorem zipD_at : ∀ {ds es : List D} {i : Nat} {d : D}, (zipD ds es)[i]? = some d → ∃ x y, ds[i]? = some x ∧ es[i]? = some y ∧ d = .tuple [x, y]
  | [], es, i, d, h => by simp [zipD] at h
  | x :: r, [], i, d, h => by simp [zipD] at h
  | x :: r, y :: t, 0, d, h => by
    simp [zipD] at h
    exact ⟨x, y, rfl, rfl, by simp [← h]⟩
  | x :: r, y :: t, i + 1, d, h => by
    obtain ⟨a, b, h1, h2, h3⟩ := zipD_at (ds := r) (es := t) (i := i) (by simpa [zipD] using h)
    exact ⟨a, b, by simpa using h1, by simpa using h2, h3⟩
theorem zipD_len : ∀ {ds es : List D}, (zipD ds es).length = min ds.length es.length
  | [], es => by simp [zipD]
  | x :: r, [] => by simp [zipD]
  | x :: r, y :: t => by simp [zipD, zipD_len (ds := r) (es := t)]
theorem wk_zipL {a b : Addr} {vs us : List V} {ds es : List D} (h : Hf a = some (.lst vs)) (r : RpA w.K Hf vs ds) (h' : Hf b = some (.lst us)) (r' : RpA w.K Hf us es) : Wk2 w (Itz w.K a b) (zipD ds es) Hf := by
  refine ⟨fun i H Hf2 s1 s2 hi => ?_, fun H Hf2 s1 s2 => ?_, fun i H Hf2 x H' d s1 s2 hd y => ?_⟩
  · rw [zipD_len] at hi
    obtain ⟨v, hv, _⟩ := r.get (List.getElem?_eq_getElem (show i < ds.length by omega))
    obtain ⟨u, hu, _⟩ := r'.get (List.getElem?_eq_getElem (show i < es.length by omega))
    exact ⟨vs, us, v, u, SqL.of (s2 _ _ (s1 _ _ h)), SqL.of (s2 _ _ (s1 _ _ h')), hv, hu⟩
  · refine ⟨vs, us, SqL.of (s2 _ _ (s1 _ _ h)), SqL.of (s2 _ _ (s1 _ _ h')), ?_⟩
    rw [zipD_len, r.length, r'.length]
    omega
  · obtain ⟨z, z', hz, hz', rfl⟩ := zipD_at hd
    obtain ⟨v, hv, rv⟩ := r.get hz
    obtain ⟨u, hu, ru⟩ := r'.get hz'
    obtain ⟨p, x', y', rfl, hp, rfl, hx, hy⟩ := y
    have e1 := hx vs (SqL.of (s2 _ _ (s1 _ _ h)))
    have e2 := hy us (SqL.of (s2 _ _ (s1 _ _ h')))
    rw [hv] at e1
    rw [hu] at e2
    cases e1
    cases e2
    exact ⟨p, _, _, rfl, hp, rfl, rfl, .cons (rv.mono s1) (.cons (ru.mono s1) .nil)⟩
theorem wk_zipT {a b : Addr} {vs us : List V} {ds es : List D} (h : STup w.K Hf a vs) (r : RpA w.K Hf vs ds) (h' : STup w.K Hf b us) (r' : RpA w.K Hf us es) : Wk2 w (RZ.ItzT w.K a b) (zipD ds es) Hf := by
  refine ⟨fun i H Hf2 s1 s2 hi => ?_, fun H Hf2 s1 s2 => ?_, fun i H Hf2 x H' d s1 s2 hd y => ?_⟩
  · rw [zipD_len] at hi
    obtain ⟨v, hv, _⟩ := r.get (List.getElem?_eq_getElem (show i < ds.length by omega))
    obtain ⟨u, hu, _⟩ := r'.get (List.getElem?_eq_getElem (show i < es.length by omega))
    exact ⟨vs, us, v, u, (s2.stup (s1.stup h)).sq, (s2.stup (s1.stup h')).sq, hv, hu⟩
  · refine ⟨vs, us, (s2.stup (s1.stup h)).sq, (s2.stup (s1.stup h')).sq, ?_⟩
    rw [zipD_len, r.length, r'.length]
    omega
  · obtain ⟨z, z', hz, hz', rfl⟩ := zipD_at hd
    obtain ⟨v, hv, rv⟩ := r.get hz
    obtain ⟨u, hu, ru⟩ := r'.get hz'
    obtain ⟨p, x', y', rfl, hp, rfl, hx, hy⟩ := y
    have e1 := hx vs (s2.stup (s1.stup h)).sq
    have e2 := hy us (s2.stup (s1.stup h')).sq
    rw [hv] at e1
    rw [hu] at e2
    cases e1
    cases e2
    exact ⟨p, _, _, rfl, hp, rfl, rfl, .cons (rv.mono s1) (.cons (ru.mono s1) .nil)⟩
theorem gi_zip (c : Cok w k X) {e e2 : Expr} {f f' : EV} {p tpos : Pos} {elts : List Expr} {kk : Nat} (hm : X.mg "zip" = none) (he : GE w X e f) (he2 : GE w X e2 f') (hg : Gl X "zip" := by rfl)
    (hs : starEach [e, e2] X.env = (false, eval e X.env) :: starEach [e2] X.env := by rfl) (hs2 : starEach [e2] X.env = (false, eval e2 X.env) :: starEach [] X.env := by rfl) (hpl : (backTo pos (starEach [e2] X.env)).any (·.1) = false := by rfl) :
    GI2 w X (.Tuple elts kk tpos) (.Call (.Name "zip" p) [e, e2] [] pos) (iZip f f') := by
  refine pi_imp (RZ.pi_zipA hg hm (pa_cons he (pa_cons he2 pa_nil hs2) hs) hs hpl) fun σ H Rv => ?_
  rintro ⟨Hf, s, φ, ds, s', gd, e, q⟩
  obtain ⟨⟨d, s1⟩, h1, h2⟩ := R.bind_eq_ok.mp e
  obtain ⟨⟨d2, s2⟩, h3, h4⟩ := R.bind_eq_ok.mp h2
  refine tE_D gd h1 fun v H1 Hf1 φ1 g1 r1 k1 => tE_D g1 h3 fun v2 H2 Hf2 φ2 g2 r2 k2 => ?_
  have k12 := k1.trans k2 (fun _ => id) fun x hx => g1.own_free hx
  have r1' := r1.mono k2.sub
  simp only at h4
  split at h4
  · cases h4
    cases r1' with
    | lst h r =>
      cases r2 with
      | lst h' r' => exact ⟨_, _, _, _, rfl, .inl ⟨SqL.of (g2.sub _ _ h), SqL.of (g2.sub _ _ h'), by rw [c.K]; exact q _ H2 Hf2 φ2 g2 k12 (wk_zipL h r h' r')⟩⟩
  · cases h4
    cases r1' with
    | tup h r =>
      cases r2 with
      | tup h' r' => exact ⟨_, _, _, _, rfl, .inr ⟨by rw [c.K]; exact (g2.sub.stup h).sq, by rw [c.K]; exact (g2.sub.stup h').sq, by rw [c.K]; exact q _ H2 Hf2 φ2 g2 k12 (wk_zipT h r h' r')⟩⟩
  · cases h4
end
end KV

set_option Elab.async false
set_option linter.all false
set_option maxRecDepth 100000
set_option maxHeartbeats 2000000
/-! KVL: comprehensions. -/
namespace KV
open PySem L2
open PySem.Spec PyProof.Rows

section
variable {w : Wd} {k : Nat} {X : Cx} {pos : Pos} {σ : L2.St} {H Hf : Hp} {s s' : Sl} {φ : Nat → List Addr} {Q : VK}

theorem Cok.blk (c : Cok w k X) {s0 : Shared} {H0 : Hp} {scope : Scope} {cenv : Env} {fp : List Addr} : Cok w k (X.blk s0 H0 scope cenv fp) := ⟨c.K, c.calm, c.nd, c.room, c.gd⟩
theorem wipeD_length (s : Sl) : ∀ vs : List Nat, (wipeD s vs).length = s.length
  | [] => rfl
  | v :: vs => by unfold wipeD; rw [List.length_set, wipeD_length s vs]
theorem wipeD_some {s : Sl} {i : Nat} {x : T} : ∀ {vs : List Nat}, (wipeD s vs)[i]? = some (some x) → s[i]? = some (some x) ∧ i ∉ vs
  | [], h => ⟨h, by simp⟩
  | v :: vs, h => by
    unfold wipeD at h
    obtain ⟨z, h⟩ := clr_at h
    obtain ⟨h1, h2⟩ := wipeD_some h
    exact ⟨h1, by simp only [List.mem_cons, not_or]; exact ⟨z, h2⟩⟩
theorem wipe_out {σ : L2.St} {i : Nat} : ∀ {vs : List Nat}, i ∉ vs → (wipe σ vs)[i]? = σ[i]?
  | [], _ => rfl
  | v :: vs, h => by
    simp only [List.mem_cons, not_or] at h
    unfold wipe
    rw [List.getElem?_set_ne (Ne.symm h.1), wipe_out h.2]
theorem wipe_in {σ : L2.St} {i : Nat} : ∀ {vs : List Nat}, i ∈ vs → (wipe σ vs)[i]? = if i < σ.length then some none else none
  | [], h => nomatch h
  | v :: vs, h => by
    unfold wipe
    by_cases e : v = i
    · subst e
      by_cases hl : v < σ.length
      · rw [List.getElem?_set_self (by rw [wipe_length]; exact hl), if_pos hl]
      · rw [List.getElem?_eq_none (by rw [List.length_set, wipe_length]; omega), if_neg hl]
    · rw [List.getElem?_set_ne e]
      exact wipe_in ((List.mem_cons.mp h).resolve_left fun z => e z.symm)
theorem wipe_eq {σ σ2 : L2.St} {vs ts : List Nat} (hl : σ2.length = (wipe σ vs).length) (h : ∀ i, i ∉ ts → σ2[i]? = (wipe σ vs)[i]?) (ht : ∀ i ∈ ts, i ∈ vs) : wipe σ2 vs = wipe σ vs := by
  apply List.ext_getElem?
  intro i
  by_cases hi : i ∈ vs
  · rw [wipe_in hi, wipe_in hi, hl, wipe_length]
  · rw [wipe_out hi]
    exact h i fun z => hi (ht i z)
theorem Good.wipe {σ' : L2.St} {vs : List Nat} (g : Good w σ H Hf s φ) (hl : σ'.length = σ.length) (h : ∀ i, i ∉ vs → σ'[i]? = σ[i]?) : Good w σ' H Hf (wipeD s vs) φ ∧ ∀ a, Own (wipeD s vs) φ a → Own s φ a := by
  refine ⟨⟨g.sub, by rw [wipeD_length, g.len, hl], fun i t e => ?_, fun i t a e m => g.fr i t a (wipeD_some e).1 m, fun i j t u a e1 e2 m1 m2 => g.dj i j t u a (wipeD_some e1).1 (wipeD_some e2).1 m1 m2⟩, fun a ⟨i, t, e, m⟩ => ⟨i, t, (wipeD_some e).1, m⟩⟩
  obtain ⟨e1, e2⟩ := wipeD_some e
  obtain ⟨v, h1, h2⟩ := g.here i t e1
  exact ⟨v, by rw [h i e2]; exact h1, h2⟩
def tC (w : Wd) : Option BV → TT
  | none => tYes
  | some b => tB w b
def bOf : Option BV → BV
  | none => fun s => .ok (true, s)
  | some b => b
theorem compD_cons {g : GV} {c : Option BV} {f : EV} {own : List Nat} {x : D} {xs : List D} : compD g c f own (x :: xs) s = (g x (wipeD s own)).bind fun s1 => (bOf c s1).bind fun r =>
      if r.1 then (kD f r.2).bind fun q => (compD g c f own xs (wipeD q.2 own)).bind fun t => .ok (q.1 :: t.1, t.2)
      else compD g c f own xs (wipeD r.2 own) := by
  cases c <;> rfl
theorem tC_of {c : Option BV} {b : Bool} {P : Bool → Hp → Prop} (g : Good w σ H Hf s φ) (e : bOf c s = .ok (b, s')) (h : ∀ H' Hf' φ', Good w σ H' Hf' s' φ' → Stp H Hf (Own s φ) H' Hf' (Own s' φ') → P b H') : tC w c σ H P := by
  cases c with
  | none => cases e; exact h H Hf φ g Stp.refl
  | some f => exact ⟨Hf, s, φ, b, s', g, e, h⟩
/-- where a comprehension stands: its list at A holds das -/
structure At (w : Wd) (σ : L2.St) (H0 Hf0 : Hp) (P0 : Addr → Prop) (A : Addr) (das : List D) (H Hf : Hp) (s : Sl) (φ : Nat → List Addr) : Prop where
  g : Good w σ H Hf s φ
  r : RL w σ Hf H s φ (.ref A) (.t (.lst das)) [A]
  k : Stp H0 Hf0 P0 H Hf (fun a => Own s φ a ∨ a ∈ [A])
theorem At.lst {H0 Hf0 : Hp} {P0 : Addr → Prop} {A : Addr} {das : List D} (a : At w σ H0 Hf0 P0 A das H Hf s φ) : ∃ acc, H A = some (.lst acc) ∧ RpA w.K Hf acc das ∧ Hf A = none ∧ ¬ Own s φ A := by
  cases a.r with
  | t r c =>
    obtain ⟨c1, c2⟩ := c A (by simp)
    cases r with
    | lst h r => exact ⟨_, h, r, c1, c2⟩
theorem At.step {σ2 : L2.St} {H0 Hf0 : Hp} {P0 : Addr → Prop} {A : Addr} {das : List D} {H1 Hf1 : Hp} {s1 : Sl} {φ1 : Nat → List Addr} (a : At w σ H0 Hf0 P0 A das H Hf s φ) (g1 : Good w σ2 H1 Hf1 s1 φ1) (k1 : Stp H Hf (Own s φ) H1 Hf1 (Own s1 φ1)) : At w σ2 H0 Hf0 P0 A das H1 Hf1 s1 φ1 := by
  obtain ⟨acc, h1, h2, h3, h4⟩ := a.lst
  have r1 : RL w σ2 Hf H s φ (.ref A) (.t (.lst das)) [A] := .t (.lst h1 h2) fun x hx => by rw [List.mem_singleton] at hx; subst hx; exact ⟨h3, h4⟩
  have hA : H1 A = some (.lst acc) := k1.keep A _ h1 h4
  have noP : ¬ (Own s1 φ1 A ∨ Hf1 A ≠ none) := fun z => by
    rcases k1.new A z with z | z | z
    · exact h4 z
    · exact z h3
    · rw [h1] at z; cases z
  refine ⟨g1, r1.stay (s' := s1) (φ' := φ1) k1 fun _ => id, ⟨a.k.sub.trans k1.sub, fun x o e n => ?_, fun x z => ?_⟩⟩
  · have e1 := a.k.keep x o e n
    refine k1.keep x o e1 fun q => ?_
    rcases a.k.new x (.inl (.inl q)) with z | z | z
    · exact n z
    · have := a.g.own_free q
      cases e2 : Hf0 x with
      | none => exact z e2
      | some u => have e3 := a.k.sub x u e2; rw [this] at e3; cases e3
    · rw [e] at z; cases z
  · rcases z with (z | z) | z
    · rcases k1.new x (.inl z) with z | z | z
      · exact a.k.new x (.inl (.inl z))
      · exact a.k.new x (.inr z)
      · by_cases n : P0 x
        · exact .inl n
        · cases e : H0 x with
          | none => exact .inr (.inr rfl)
          | some u => rw [a.k.keep x u e n] at z; cases z
    · exact a.k.new x (.inl (.inr z))
    · rcases k1.new x (.inr z) with z | z | z
      · exact a.k.new x (.inl (.inl z))
      · exact a.k.new x (.inr z)
      · by_cases n : P0 x
        · exact .inl n
        · cases e : H0 x with
          | none => exact .inr (.inr rfl)
          | some u => rw [a.k.keep x u e n] at z; cases z
theorem At.push {H0 Hf0 : Hp} {P0 : Addr → Prop} {A : Addr} {das : List D} {acc : List V} {v : V} {d : D} (a : At w σ H0 Hf0 P0 A das H Hf s φ) (h : H A = some (.lst acc)) (r : Rp w.K Hf v d) : At w σ H0 Hf0 P0 A (das ++ [d]) (upd H A (.lst (acc ++ [v]))) Hf s φ := by
  obtain ⟨acc', h1, h2, h3, h4⟩ := a.lst
  rw [h] at h1
  cases h1
  refine ⟨a.g.updO h3 h4, .t (.lst upd_same (h2.append (.cons r .nil))) fun x hx => by rw [List.mem_singleton] at hx; subst hx; exact ⟨h3, h4⟩, a.k.updO (.inr (by simp)) h3⟩
theorem At.wipe {σ' : L2.St} {vs : List Nat} {H0 Hf0 : Hp} {P0 : Addr → Prop} {A : Addr} {das : List D} (a : At w σ H0 Hf0 P0 A das H Hf s φ) (hl : σ'.length = σ.length) (h : ∀ i, i ∉ vs → σ'[i]? = σ[i]?) : At w σ' H0 Hf0 P0 A das H Hf (wipeD s vs) φ := by
  obtain ⟨g, o⟩ := a.g.wipe hl h
  exact a.step g (Stp.refl.weak o)
/-- a turn, behind its target -/
theorem turn_lc {g : GV} {c : Option BV} {f : EV} {vs : List Nat} {x0 : D} {xs das rest : List D} {σ2 : L2.St} {H0 Hf0 : Hp} {P0 : Addr → Prop} {A : Addr} {send : Sl} {Nx : Hp → Prop}
    (e : compD g c f vs (x0 :: xs) s = .ok (rest, send)) (hz : das.length + rest.length ≤ 16000000)
    (hN : ∀ das' rest' H3 Hf3 s3 φ3, At w σ H0 Hf0 P0 A das' H3 Hf3 s3 φ3 → compD g c f vs xs s3 = .ok (rest', send) → das' ++ rest' = das ++ rest → Nx H3) :
    ∃ s2, g x0 (wipeD s vs) = .ok s2 ∧ ∀ H2 Hf2 φ2, At w σ2 H0 Hf0 P0 A das H2 Hf2 s2 φ2 → wipe σ2 vs = wipe σ vs →
      tC w c σ2 H2 fun b H3 => if b = true then tE w f σ2 H3 (fun y H4 => ∃ acc, H4 A = some (.lst acc) ∧ acc.length < sizeLine ∧ Nx (upd H4 A (.lst (acc ++ [y])))) else Nx H3 := by
  rw [compD_cons] at e
  obtain ⟨s2, h1, h2⟩ := R.bind_eq_ok.mp e
  obtain ⟨⟨b, s3⟩, h3, h4⟩ := R.bind_eq_ok.mp h2
  refine ⟨s2, h1, fun H2 Hf2 φ2 a2 hw => tC_of a2.g h3 fun H3 Hf3 φ3 g3 k3 => ?_⟩
  have a3 := a2.step g3 k3
  have hlen : σ.length = σ2.length := by
    have := congrArg List.length hw
    rw [wipe_length, wipe_length] at this
    exact this.symm
  have hout : ∀ i, i ∉ vs → σ[i]? = σ2[i]? := fun i hi => by
    have := congrArg (fun z : L2.St => z[i]?) hw
    simp only [wipe_out hi] at this
    exact this.symm
  cases b with
  | false =>
    simp only [Bool.false_eq_true, if_false] at h4 ⊢
    exact hN das rest H3 Hf3 _ φ3 (a3.wipe hlen hout) h4 rfl
  | true =>
    simp only [if_true] at h4 ⊢
    obtain ⟨⟨d, s4⟩, h5, h6⟩ := R.bind_eq_ok.mp h4
    obtain ⟨⟨rest', s5⟩, h7, h8⟩ := R.bind_eq_ok.mp h6
    cases h8
    refine tE_D g3 h5 fun v H4 Hf4 φ4 g4 r4 k4 => ?_
    have a4 := a3.step g4 k4
    obtain ⟨acc, e1, e2, _, _⟩ := a4.lst
    refine ⟨acc, e1, ?_, hN (das ++ [d]) rest' _ Hf4 _ φ4 ((a4.push e1 r4).wipe hlen hout) h7 (by simp)⟩
    rw [e2.length, sizeLine_eq]
    rw [List.length_cons] at hz
    omega
theorem lc_1 {J : It} {g : GV} {c : Option BV} {f : EV} {vs ts : List Nat} {ds rest : List D} {H1 Hf1 : Hp} {s1 : Sl} {φ1 : Nat → List Addr} {A : Addr} (g1 : Good w σ H1 Hf1 s1 φ1) (k1 : Stp H Hf (Own s φ) H1 Hf1 (Own s1 φ1)) (hA : H1 A = none) (wk : Wk w J ds Hf1) (ht : ∀ i ∈ ts, i ∈ vs)
    (e : compD g c f vs ds s1 = .ok (rest, s')) (hz : rest.length ≤ 16000000) (q : PQ w σ H Hf s φ s' (.t (.lst rest)) Q) :
    ∃ W : Nat → Nat → Hp → Prop, (∃ m, W 0 m (upd H1 A (.lst []))) ∧ ∀ i m H, W i m H → (J.stop i H ∧ Q (.ref A) H) ∨ (J.go i H ∧ ∃ Nx : Hp → Prop, (∀ H', Nx H' → ∃ m', m' < m ∧ W (i + 1) m' H') ∧
      ∀ x H', J.yld i H x H' → tG w g ts x (wipe σ vs) H' fun σ2 H2 => wipe σ2 vs = wipe σ vs ∧ tC w c σ2 H2 fun b H3 => if b = true then tE w f σ2 H3 (fun y H4 => ∃ acc, H4 A = some (.lst acc) ∧ acc.length < sizeLine ∧ Nx (upd H4 A (.lst (acc ++ [y])))) else Nx H3) := by
  have kA : Stp H Hf (Own s φ) (upd H1 A (.lst [])) Hf1 (fun a => Own s1 φ1 a ∨ a ∈ [A]) := k1.trans (Stp.updH hA fun a z => z.imp id fun z => by simpa using z) (fun _ => id) fun x hx => g1.own_free hx
  have fA : ∀ x, (Own s1 φ1 x ∨ x ∈ [A]) → Hf1 x = none := fun x z => by
    rcases z with z | z
    · exact g1.own_free z
    · rw [List.mem_singleton] at z; subst z; exact g1.hf_none hA
  have at0 : At w σ (upd H1 A (.lst [])) Hf1 (fun a => Own s1 φ1 a ∨ a ∈ [A]) A [] (upd H1 A (.lst [])) Hf1 s1 φ1 :=
    ⟨g1.updH hA, .t (.lst upd_same .nil) fun x hx => by rw [List.mem_singleton] at hx; subst hx; exact ⟨g1.hf_none hA, g1.own_ne hA⟩, Stp.refl⟩
  let Inv1 : Nat → Hp → Prop := fun i Hc => ∃ das rest' Hfc sc φc, At w σ (upd H1 A (.lst [])) Hf1 (fun a => Own s1 φ1 a ∨ a ∈ [A]) A das Hc Hfc sc φc ∧ compD g c f vs (ds.drop i) sc = .ok (rest', s') ∧ das ++ rest' = rest
  refine ⟨fun i m Hc => m = ds.length - i ∧ i ≤ ds.length ∧ Inv1 i Hc, ⟨ds.length, by simp, Nat.zero_le _, [], rest, Hf1, s1, φ1, at0, e, rfl⟩, ?_⟩
  rintro i m Hc ⟨rfl, hi, das, rest', Hfc, sc, φc, ac, ec, er⟩
  by_cases hlt : i < ds.length
  · rw [drop_at hlt] at ec
    refine .inr ⟨wk.goes i Hc Hfc ac.k.sub ac.g.sub hlt, fun H' => Inv1 (i + 1) H', fun H' n => ⟨ds.length - (i + 1), by omega, rfl, hlt, n⟩, fun x H' y => ?_⟩
    have hz2 : das.length + rest'.length ≤ 16000000 := by rw [← er, List.length_append] at hz; exact hz
    obtain ⟨rfl, rx⟩ := wk.yields i Hc Hfc x H' ds[i] ac.k.sub ac.g.sub (List.getElem?_eq_getElem hlt) y
    obtain ⟨gw, ow⟩ := ac.g.wipe (σ' := wipe σ vs) (vs := vs) (wipe_length _ _) fun i hi => wipe_out hi
    have key := fun σ2 => turn_lc (σ := σ) (σ2 := σ2) (das := das) (A := A) (H0 := upd H1 A (.lst [])) (Hf0 := Hf1) (P0 := fun a => Own s1 φ1 a ∨ a ∈ [A]) (Nx := fun H' => Inv1 (i + 1) H') (w := w) ec hz2 fun das' rest'' H3 Hf3 s3 φ3 a3 e3 er3 => ⟨das', rest'', Hf3, s3, φ3, a3, e3, er3.trans er⟩
    obtain ⟨s2, h2, _⟩ := key σ
    refine ⟨Hfc, _, φc, ds[i], s2, gw, rx, h2, fun σ2 φ2 g2 o2 l2 n2 => ?_⟩
    have hw := wipe_eq l2 n2 ht
    refine ⟨hw, ?_⟩
    obtain ⟨s2', h2', h3⟩ := key σ2
    rw [h2] at h2'
    cases h2'
    exact h3 H' Hfc φ2 (ac.step g2 (Stp.refl.weak fun a z => ow a (o2 a z))) hw
  · have : i = ds.length := by omega
    subst this
    rw [List.drop_length] at ec
    cases ec
    rw [List.append_nil] at er
    subst er
    exact .inl ⟨wk.stops Hc Hfc ac.k.sub ac.g.sub, q _ Hc Hfc φc [A] ac.g ac.r (kA.trans ac.k (fun _ => id) fA)⟩
theorem lc_2 {J : It} {K : PySem.W.Frag} {gs : List GV} {c : Option BV} {f : EV} {vs ts : List Nat} {ds rest : List D} {H1 Hf1 : Hp} {s1 : Sl} {φ1 : Nat → List Addr} {A : Addr} (g1 : Good w σ H1 Hf1 s1 φ1) (k1 : Stp H Hf (Own s φ) H1 Hf1 (Own s1 φ1)) (hA : H1 A = none) (wk : Wk2 w J ds Hf1) (ht : ∀ i ∈ ts, i ∈ vs)
    (e : compD (gT gs) c f vs ds s1 = .ok (rest, s')) (hz : rest.length ≤ 16000000) (q : PQ w σ H Hf s φ s' (.t (.lst rest)) Q) :
    ∃ W : Nat → Nat → Hp → Prop, (∃ m, W 0 m (upd H1 A (.lst []))) ∧ ∀ i m H, W i m H → (J.stop i H ∧ Q (.ref A) H) ∨ (J.go i H ∧ ∃ Nx : Hp → Prop, (∀ H', Nx H' → ∃ m', m' < m ∧ W (i + 1) m' H') ∧
      ∀ x H', J.yld i H x H' → tG2 w K gs ts x (wipe σ vs) H' fun σ2 H2 => wipe σ2 vs = wipe σ vs ∧ tC w c σ2 H2 fun b H3 => if b = true then tE w f σ2 H3 (fun y H4 => ∃ acc, H4 A = some (.lst acc) ∧ acc.length < sizeLine ∧ Nx (upd H4 A (.lst (acc ++ [y])))) else Nx H3) := by
  have kA : Stp H Hf (Own s φ) (upd H1 A (.lst [])) Hf1 (fun a => Own s1 φ1 a ∨ a ∈ [A]) := k1.trans (Stp.updH hA fun a z => z.imp id fun z => by simpa using z) (fun _ => id) fun x hx => g1.own_free hx
  have fA : ∀ x, (Own s1 φ1 x ∨ x ∈ [A]) → Hf1 x = none := fun x z => by
    rcases z with z | z
    · exact g1.own_free z
    · rw [List.mem_singleton] at z; subst z; exact g1.hf_none hA
  have at0 : At w σ (upd H1 A (.lst [])) Hf1 (fun a => Own s1 φ1 a ∨ a ∈ [A]) A [] (upd H1 A (.lst [])) Hf1 s1 φ1 :=
    ⟨g1.updH hA, .t (.lst upd_same .nil) fun x hx => by rw [List.mem_singleton] at hx; subst hx; exact ⟨g1.hf_none hA, g1.own_ne hA⟩, Stp.refl⟩
  let Inv1 : Nat → Hp → Prop := fun i Hc => ∃ das rest' Hfc sc φc, At w σ (upd H1 A (.lst [])) Hf1 (fun a => Own s1 φ1 a ∨ a ∈ [A]) A das Hc Hfc sc φc ∧ compD (gT gs) c f vs (ds.drop i) sc = .ok (rest', s') ∧ das ++ rest' = rest
  refine ⟨fun i m Hc => m = ds.length - i ∧ i ≤ ds.length ∧ Inv1 i Hc, ⟨ds.length, by simp, Nat.zero_le _, [], rest, Hf1, s1, φ1, at0, e, rfl⟩, ?_⟩
  rintro i m Hc ⟨rfl, hi, das, rest', Hfc, sc, φc, ac, ec, er⟩
  by_cases hlt : i < ds.length
  · rw [drop_at hlt] at ec
    refine .inr ⟨wk.goes i Hc Hfc ac.k.sub ac.g.sub hlt, fun H' => Inv1 (i + 1) H', fun H' n => ⟨ds.length - (i + 1), by omega, rfl, hlt, n⟩, fun x H' y => ?_⟩
    have hz2 : das.length + rest'.length ≤ 16000000 := by rw [← er, List.length_append] at hz; exact hz
    obtain ⟨p, us, es, rfl, hp, rfl, ed, rx⟩ := wk.yields i Hc Hfc x H' ds[i] ac.k.sub ac.g.sub (List.getElem?_eq_getElem hlt) y
    obtain ⟨gw, ow⟩ := ac.g.wipe (σ' := wipe σ vs) (vs := vs) (wipe_length _ _) fun i hi => wipe_out hi
    have key := fun σ2 => turn_lc (σ := σ) (σ2 := σ2) (das := das) (A := A) (H0 := upd H1 A (.lst [])) (Hf0 := Hf1) (P0 := fun a => Own s1 φ1 a ∨ a ∈ [A]) (Nx := fun H' => Inv1 (i + 1) H') (w := w) ec hz2 fun das' rest'' H3 Hf3 s3 φ3 a3 e3 er3 => ⟨das', rest'', Hf3, s3, φ3, a3, e3, er3.trans er⟩
    obtain ⟨s2, h2, _⟩ := key σ
    have h2e := h2
    rw [ed] at h2e
    refine ⟨p, us, Hfc, _, φc, es, s2, rfl, .inl (.inl upd_same), gw.updH hp, rx, h2e, fun σ2 φ2 g2 o2 l2 n2 => ?_⟩
    have hw := wipe_eq l2 n2 ht
    refine ⟨hw, ?_⟩
    obtain ⟨s2', h2', h3⟩ := key σ2
    rw [h2] at h2'
    cases h2'
    exact h3 _ Hfc φ2 (ac.step g2 ((Stp.updH hp fun a => .inl).weak fun a z => ow a (o2 a z))) hw
  · have : i = ds.length := by omega
    subst this
    rw [List.drop_length] at ec
    cases ec
    rw [List.append_nil] at er
    subst er
    exact .inl ⟨wk.stops Hc Hfc ac.k.sub ac.g.sub, q _ Hc Hfc φc [A] ac.g ac.r (kA.trans ac.k (fun _ => id) fA)⟩

abbrev GC (w : Wd) (X : Cx) (ifs : List Expr) (c : Option BV) : Prop := PTs X ifs (tC w c)
theorem gc_no : GC w X [] none := pts_nil
theorem gc_if {e : Expr} {b : BV} (h : GB w X e b) : GC w X [e] (some b) := pts_one h
theorem tLc_1 {it : IV} {g : GV} {c : Option BV} {f : EV} {vs ts : List Nat} (ht : ∀ i ∈ ts, i ∈ vs) : tE w (kComp it g c f vs) σ H Q → tLc (tI w it) (tG w g ts) (tC w c) (tE w f) vs σ H Q := by
  rintro ⟨Hf, s, φ, l, s', gd, e, q⟩
  obtain ⟨⟨ds, s1⟩, h1, h2⟩ := R.bind_eq_ok.mp e
  obtain ⟨⟨rest, s2⟩, h3, h4⟩ := R.bind_eq_ok.mp h2
  simp only at h4
  split at h4
  · rename_i hz
    cases h4
    exact ⟨Hf, s, φ, ds, s1, gd, h1, fun J H1 Hf1 φ1 g1 k1 wk A hA => lc_1 g1 k1 hA wk ht h3 (szOk_le hz) q⟩
  · cases h4
theorem tLc_2 {it : IV} {K : PySem.W.Frag} {gs : List GV} {c : Option BV} {f : EV} {vs ts : List Nat} (ht : ∀ i ∈ ts, i ∈ vs) : tE w (kComp it (gT gs) c f vs) σ H Q → tLc (tI2 w it) (tG2 w K gs ts) (tC w c) (tE w f) vs σ H Q := by
  rintro ⟨Hf, s, φ, l, s', gd, e, q⟩
  obtain ⟨⟨ds, s1⟩, h1, h2⟩ := R.bind_eq_ok.mp e
  obtain ⟨⟨rest, s2⟩, h3, h4⟩ := R.bind_eq_ok.mp h2
  simp only at h4
  split at h4
  · rename_i hz
    cases h4
    exact ⟨Hf, s, φ, ds, s1, gd, h1, fun J H1 Hf1 φ1 g1 k1 wk A hA => lc_2 g1 k1 hA wk ht h3 (szOk_le hz) q⟩
  · cases h4
section
variable {elt tg iter : Expr} {ifs : List Expr} {scope : Scope} {fi : IV} {g : GV} {gs : List GV} {c0 : Option BV} {f : EV} {ts : List Nat}
/-- what the parts of a comprehension are told in -/
structure Blk (w : Wd) (k : Nat) (X Y : Cx) (scope : Scope) : Prop where
  c : Cok w k Y
  K : Y.K = X.K
theorem ge_lc (own : List (Str × Nat)) (c : Cok w k X) (hi : GI w X tg iter fi) (ok : blkC X.N X.env.scope scope own = true)
    (hg : ∀ (s : Shared) (H : Hp) (C : Addr) (cl : List (Str × Addr)) (fp : List Addr), GG w (X.blk s H scope (compEnvC scope cl C X.env) fp) tg g ts) (ht : ∀ (s : Shared) (H : Hp) (C : Addr) (cl : List (Str × Addr)) (fp : List Addr), GC w (X.blk s H scope (compEnvC scope cl C X.env) fp) ifs c0)
    (he : ∀ (s : Shared) (H : Hp) (C : Addr) (cl : List (Str × Addr)) (fp : List Addr), GE w (X.blk s H scope (compEnvC scope cl C X.env) fp) elt f) (hts : ∀ i ∈ ts, i ∈ own.map (·.2) := by decide) (hs : ∀ x, foldedSetIterable iter X.env x = pure x := by intro _; rfl) :
    GE w X (.ListComp elt [⟨tg, iter, ifs, 0⟩] scope pos) (kComp fi g c0 f (own.map (·.2))) := pe_imp (pe_lc c.calm c.nd hi (blkOk_by ok) hg ht he hs) fun _ _ _ => tLc_1 hts
theorem ge_lc2 (own : List (Str × Nat)) (c : Cok w k X) (hi : GI2 w X tg iter fi) (ok : blkC X.N X.env.scope scope own = true)
    (hg : ∀ (s : Shared) (H : Hp) (C : Addr) (cl : List (Str × Addr)) (fp : List Addr), GG2 w (X.blk s H scope (compEnvC scope cl C X.env) fp) tg gs ts) (ht : ∀ (s : Shared) (H : Hp) (C : Addr) (cl : List (Str × Addr)) (fp : List Addr), GC w (X.blk s H scope (compEnvC scope cl C X.env) fp) ifs c0)
    (he : ∀ (s : Shared) (H : Hp) (C : Addr) (cl : List (Str × Addr)) (fp : List Addr), GE w (X.blk s H scope (compEnvC scope cl C X.env) fp) elt f) (hts : ∀ i ∈ ts, i ∈ own.map (·.2) := by decide) (hs : ∀ x, foldedSetIterable iter X.env x = pure x := by intro _; rfl) :
    GE w X (.ListComp elt [⟨tg, iter, ifs, 0⟩] scope pos) (kComp fi (gT gs) c0 f (own.map (·.2))) := pe_imp (pe_lc c.calm c.nd hi (blkOk_by ok) hg ht he hs) fun _ _ _ => tLc_2 hts
/-- name = [..] on one line -/
theorem tS_set {io : List Nat} {i : Nat} {f : EV} {D0 : Ends} (hio : i ∉ io) : tS w io (sSet i f) D0 σ H → tAsg (tE w f) (gName i) D0 σ H := by
  rintro ⟨Hf, s, φ, fl, s', gd, e, q⟩
  obtain ⟨⟨l, s1⟩, h1, h2⟩ := R.bind_eq_ok.mp e
  obtain ⟨s2, h3, h4⟩ := R.bind_eq_ok.mp h2
  cases h4
  refine ⟨Hf, s, φ, l, s1, gd, h1, fun v H1 Hf1 φ1 F1 g1 r1 k1 => ?_⟩
  obtain ⟨φ2, g2, o2⟩ := r1.put g1 h3
  exact q _ H1 Hf1 φ2 g2 (k1.weak o2) (Kp.set hio)
theorem ps_setLcI {io : List Nat} {i : Nat} {y : Str} {py : Pos} {own : List (Str × Nat)} {spos : Pos} {wi : TI} {tg0 : TG} {tt : TT} (hio : i ∉ io) (hc : X.calm = true) (hN : X.N.Nodup) (hy : X.N[i]? = some y) (hyl : X.env.scope.names.lookup y = some .local)
    (hsw : swapsWith (.ListComp elt [⟨tg, iter, ifs, 0⟩] scope pos) (some (.Name y py)) spos.line X.env = pure true) (hi : PI X tg iter wi) (ok : BlkOk X.N X.env.scope scope own)
    (hg : ∀ (s : Shared) (H : Hp) (C : Addr) (cl : List (Str × Addr)) (fp : List Addr), PG (X.blk s H scope (compEnvC scope cl C X.env) fp) tg tg0) (ht : ∀ (s : Shared) (H : Hp) (C : Addr) (cl : List (Str × Addr)) (fp : List Addr), PTs (X.blk s H scope (compEnvC scope cl C X.env) fp) ifs tt)
    (he : ∀ (s : Shared) (H : Hp) (C : Addr) (cl : List (Str × Addr)) (fp : List Addr), GE w (X.blk s H scope (compEnvC scope cl C X.env) fp) elt f) (hs : ∀ x, foldedSetIterable iter X.env x = pure x) {kf : EV} (im : ∀ σ H Q, tE w kf σ H Q → tLc wi tg0 tt (tE w f) (own.map (·.2)) σ H Q) :
    GS w io X (.Assign [.Name y py] (.ListComp elt [⟨tg, iter, ifs, 0⟩] scope pos) spos) (sSet i kf) :=
  ps_imp (ps_setLc hc hN hy hyl hsw hi ok hg ht he hs) fun D0 σ H h => by
    have h1 := tS_set hio h
    exact im σ H _ h1
theorem gs_setLc {io : List Nat} (i : Nat) (own : List (Str × Nat)) {y : Str} {py : Pos} {spos : Pos} (c : Cok w k X) (hi : GI w X tg iter fi) (ok : blkC X.N X.env.scope scope own = true)
    (hg : ∀ (s : Shared) (H : Hp) (C : Addr) (cl : List (Str × Addr)) (fp : List Addr), GG w (X.blk s H scope (compEnvC scope cl C X.env) fp) tg g ts) (ht : ∀ (s : Shared) (H : Hp) (C : Addr) (cl : List (Str × Addr)) (fp : List Addr), GC w (X.blk s H scope (compEnvC scope cl C X.env) fp) ifs c0)
    (he : ∀ (s : Shared) (H : Hp) (C : Addr) (cl : List (Str × Addr)) (fp : List Addr), GE w (X.blk s H scope (compEnvC scope cl C X.env) fp) elt f) (hio : i ∉ io := by decide) (hy : X.N[i]? = some y := by rfl) (hyl : X.env.scope.names.lookup y = some .local := by rfl)
    (hsw : swapsWith (.ListComp elt [⟨tg, iter, ifs, 0⟩] scope pos) (some (.Name y py)) spos.line X.env = pure true := by rfl) (hts : ∀ i ∈ ts, i ∈ own.map (·.2) := by decide) (hs : ∀ x, foldedSetIterable iter X.env x = pure x := by intro _; rfl) :
    GS w io X (.Assign [.Name y py] (.ListComp elt [⟨tg, iter, ifs, 0⟩] scope pos) spos) (sSet i (kComp fi g c0 f (own.map (·.2)))) :=
  ps_setLcI hio c.calm c.nd hy hyl hsw hi (blkOk_by ok) hg ht he hs fun _ _ _ => tLc_1 hts
theorem gs_setLc2 {io : List Nat} (i : Nat) (own : List (Str × Nat)) {y : Str} {py : Pos} {spos : Pos} (c : Cok w k X) (hi : GI2 w X tg iter fi) (ok : blkC X.N X.env.scope scope own = true)
    (hg : ∀ (s : Shared) (H : Hp) (C : Addr) (cl : List (Str × Addr)) (fp : List Addr), GG2 w (X.blk s H scope (compEnvC scope cl C X.env) fp) tg gs ts) (ht : ∀ (s : Shared) (H : Hp) (C : Addr) (cl : List (Str × Addr)) (fp : List Addr), GC w (X.blk s H scope (compEnvC scope cl C X.env) fp) ifs c0)
    (he : ∀ (s : Shared) (H : Hp) (C : Addr) (cl : List (Str × Addr)) (fp : List Addr), GE w (X.blk s H scope (compEnvC scope cl C X.env) fp) elt f) (hio : i ∉ io := by decide) (hy : X.N[i]? = some y := by rfl) (hyl : X.env.scope.names.lookup y = some .local := by rfl)
    (hsw : swapsWith (.ListComp elt [⟨tg, iter, ifs, 0⟩] scope pos) (some (.Name y py)) spos.line X.env = pure true := by rfl) (hts : ∀ i ∈ ts, i ∈ own.map (·.2) := by decide) (hs : ∀ x, foldedSetIterable iter X.env x = pure x := by intro _; rfl) :
    GS w io X (.Assign [.Name y py] (.ListComp elt [⟨tg, iter, ifs, 0⟩] scope pos) spos) (sSet i (kComp fi (gT gs) c0 f (own.map (·.2)))) :=
  ps_setLcI hio c.calm c.nd hy hyl hsw hi (blkOk_by ok) hg ht he hs fun _ _ _ => tLc_2 hts
end
end
end KV

set_option Elab.async false
set_option linter.all false
set_option maxRecDepth 100000
set_option maxHeartbeats 2000000
/-! KVM: calls of defs of the text. -/
namespace KV
open PySem L2
open PySem.Spec PyProof.Rows

/-- a slot that is lent -/
def cMv (i : Nat) (g : CV) : CV := fun s => match s[i]? with
  | some (some _) => (g s).bind fun q => .ok (.io i :: q.1, q.2)
  | _ => .no
def isIo : AR → Bool
  | .io _ => true
  | _ => false
/-- the places of what is lent -/
def ioAt : Nat → List Bool → List Nat
  | _, [] => []
  | n, true :: r => n :: ioAt (n + 1) r
  | n, false :: r => ioAt (n + 1) r

section
variable {w : Wd} {k : Nat} {X : Cx} {pos : Pos} {σ : L2.St} {H Hf : Hp} {s s' : Sl} {φ : Nat → List Addr} {Q : VK} {io : List Nat}

inductive RA1 (w : Wd) (σ : L2.St) (Hf H : Hp) : V → AR → Prop
  | v {v : V} {d : D} : Rp w.K Hf v d → RA1 w σ Hf H v (.v d)
  | io {v : V} {i : Nat} : σ[i]? = some (some v) → RA1 w σ Hf H v (.io i)
  | f {v : V} {t : T} : OR w Hf H v t [] → RA1 w σ Hf H v (.f t)
inductive RAs (w : Wd) (σ : L2.St) (Hf H : Hp) : List V → List AR → Prop
  | nil : RAs w σ Hf H [] []
  | cons {v : V} {a : AR} {vs : List V} {as : List AR} : RA1 w σ Hf H v a → RAs w σ Hf H vs as → RAs w σ Hf H (v :: vs) (a :: as)
theorem RA1.mono {v : V} {a : AR} {H1 Hf1 : Hp} (r : RA1 w σ Hf H v a) (s : Sub Hf Hf1) : RA1 w σ Hf1 H1 v a := by
  cases r with
  | v r => exact .v (r.mono s)
  | io e => exact .io e
  | f r => exact .f (r.stay s fun a h => nomatch h)
theorem RAs.length : ∀ {vs : List V} {as : List AR}, RAs w σ Hf H vs as → vs.length = as.length
  | _, _, .nil => rfl
  | _, _, .cons _ r => by simp [RAs.length r]
def tR (w : Wd) (g : CV) (p : List Bool) : TA := fun σ H Q => ∃ Hf s φ as s', Good w σ H Hf s φ ∧ g s = .ok (as, s') ∧
  ∀ vs H' Hf' φ', Good w σ H' Hf' s' φ' → RAs w σ Hf' H' vs as → as.map isIo = p → Stp H Hf (Own s φ) H' Hf' (Own s' φ') → Q vs H'
abbrev GR (w : Wd) (X : Cx) (es : List Expr) (g : CV) (p : List Bool) : Prop := PA X es (tR w g p)
theorem gr_nil : GR w X [] cNil [] := pa_imp pa_nil fun σ H Q => by
  rintro ⟨Hf, s, φ, as, s', g, e, q⟩
  cases e
  exact q [] H Hf φ g .nil rfl Stp.refl
theorem gr_v {e : Expr} {es : List Expr} {f : EV} {g : CV} {p : List Bool} (he : GE w X e f) (hr : GR w X es g p) (hs : starEach (e :: es) X.env = (false, eval e X.env) :: starEach es X.env := by rfl) : GR w X (e :: es) (cV f g) (false :: p) := by
  refine pa_imp (pa_cons he hr hs) fun σ H Q => ?_
  rintro ⟨Hf, s, φ, as, s', gd, e, q⟩
  obtain ⟨⟨d, s1⟩, h1, h2⟩ := R.bind_eq_ok.mp e
  obtain ⟨⟨as', s2⟩, h3, h4⟩ := R.bind_eq_ok.mp h2
  cases h4
  refine tE_D gd h1 fun v H1 Hf1 φ1 g1 r1 k1 => ⟨Hf1, s1, φ1, as', _, g1, h3, fun vs H2 Hf2 φ2 g2 r2 p2 k2 => ?_⟩
  exact q (v :: vs) H2 Hf2 φ2 g2 (.cons (.v (r1.mono k2.sub)) r2) (by rw [List.map_cons, p2]; rfl) (k1.trans k2 (fun _ => id) fun x hx => g1.own_free hx)
theorem gr_io (i : Nat) {x : Str} {px : Pos} {es : List Expr} {g : CV} {p : List Bool} (hr : GR w X es g p) (hN : X.N[i]? = some x := by rfl) (hv : Vis X.env.scope x := by first | exact Or.inl rfl | exact Or.inr (Or.inl rfl) | exact Or.inr (Or.inr rfl)) (hd : (x == ("__debug__" : Str)) = false := by decide) (hcd : (x == ("__classdict__" : Str)) = false := by decide)
    (hs : starEach (.Name x px :: es) X.env = (false, eval (.Name x px) X.env) :: starEach es X.env := by rfl) : GR w X (.Name x px :: es) (cMv i g) (true :: p) := by
  refine pa_imp (pa_cons (pv i hN hv hd hcd) hr hs) fun σ H Q => ?_
  rintro ⟨Hf, s, φ, as, s', gd, e, q⟩
  unfold cMv at e
  split at e
  · rename_i t ht
    obtain ⟨⟨as', s2⟩, h3, h4⟩ := R.bind_eq_ok.mp e
    cases h4
    obtain ⟨v, hv, _⟩ := gd.here i t ht
    exact ⟨v, hv, Hf, s, φ, as', _, gd, h3, fun vs H2 Hf2 φ2 g2 r2 p2 k2 => q (v :: vs) H2 Hf2 φ2 g2 (.cons (.io hv) r2) (by rw [List.map_cons, p2]; rfl) k2⟩
  · cases e

/-! ### what is lent -/
theorem Good.nilS : Sub Hf H → Good w [] H Hf [] φ := fun sub => ⟨sub, rfl, fun i t e => by simp at e, fun i t a e => by simp at e, fun i j t u a e => by simp at e⟩
/-- one slot more in front -/
theorem Good.cons {v : V} {t : T} {F : List Addr} (g : Good w σ H Hf s φ) (r : OR w Hf H v t F) (c : ∀ a ∈ F, Hf a = none ∧ ¬ Own s φ a) :
    Good w (some v :: σ) H Hf (some t :: s) (fun j => match j with | 0 => F | j + 1 => φ j) ∧ ∀ a, Own (some t :: s) (fun j => match j with | 0 => F | j + 1 => φ j) a → a ∈ F ∨ Own s φ a := by
  refine ⟨⟨g.sub, by rw [List.length_cons, List.length_cons, g.len], fun i u e => ?_, fun i u a e m => ?_, fun i j u u' a e1 e2 m1 m2 => ?_⟩, fun a ⟨i, u, e, m⟩ => ?_⟩
  · cases i with
    | zero => simp at e; subst e; exact ⟨v, rfl, r⟩
    | succ i => exact g.here i u (by simpa using e)
  · cases i with
    | zero => exact (c a m).1
    | succ i => exact g.fr i u a (by simpa using e) m
  · cases i with
    | zero =>
      cases j with
      | zero => rfl
      | succ j => exact ((c a m1).2 ⟨j, u', by simpa using e2, m2⟩).elim
    | succ i =>
      cases j with
      | zero => exact ((c a m2).2 ⟨i, u, by simpa using e1, m1⟩).elim
      | succ j => rw [g.dj i j u u' a (by simpa using e1) (by simpa using e2) m1 m2]
  · cases i with
    | zero => exact .inl m
    | succ i => exact .inr ⟨i, u, by simpa using e, m⟩
theorem lend_ok : ∀ {vs : List V} {as : List AR} {s s1 : Sl} {ts : List T}, RAs w σ Hf H vs as → Good w σ H Hf s φ → lend as s = .ok (ts, s1) →
    ∃ ψ, Good w (vs.map some) H Hf (ts.map some) ψ ∧ Good w σ H Hf s1 φ ∧ (∀ a, Own (ts.map some) ψ a → Own s φ a) ∧ (∀ a, Own s1 φ a → Own s φ a) ∧ ∀ a, Own (ts.map some) ψ a → ¬ Own s1 φ a
  | _, _, s, s1, ts, .nil, g, e => by
    cases e
    exact ⟨φ, Good.nilS g.sub, g, fun a ⟨i, t, e, _⟩ => by simp at e, fun _ => id, fun a ⟨i, t, e, _⟩ => by simp at e⟩
  | _, _, s, s1, ts, .cons (.v r) rr, g, e => by
    obtain ⟨⟨ts', s2⟩, h1, h2⟩ := R.bind_eq_ok.mp e
    cases h2
    obtain ⟨ψ, g1, g2, o1, o2, dj⟩ := lend_ok rr g h1
    obtain ⟨g3, o3⟩ := g1.cons (.val r) (F := []) fun a h => nomatch h
    exact ⟨_, g3, g2, fun a z => (o3 a z).elim (fun z => nomatch z) (o1 a), o2, fun a z => (o3 a z).elim (fun z => nomatch z) (dj a)⟩
  | _, _, s, s1, ts, .cons (.f r) rr, g, e => by
    obtain ⟨⟨ts', s2⟩, h1, h2⟩ := R.bind_eq_ok.mp e
    cases h2
    obtain ⟨ψ, g1, g2, o1, o2, dj⟩ := lend_ok rr g h1
    obtain ⟨g3, o3⟩ := g1.cons r (F := []) fun a h => nomatch h
    exact ⟨_, g3, g2, fun a z => (o3 a z).elim (fun z => nomatch z) (o1 a), o2, fun a z => (o3 a z).elim (fun z => nomatch z) (dj a)⟩
  | _, _, s, s1, ts, .cons (.io (i := i) hv) rr, g, e => by
    unfold lend at e
    split at e
    · cases e
    · rename_i t _ ht
      obtain ⟨⟨ts', s2⟩, h1, h2⟩ := R.bind_eq_ok.mp e
      cases h2
      obtain ⟨gc, oc⟩ := g.clr (i := i)
      obtain ⟨ψ, g1, g2, o1, o2, dj⟩ := lend_ok rr gc h1
      obtain ⟨v', e1, r⟩ := g.here i t ht
      rw [hv] at e1; cases e1
      have fresh : ∀ a ∈ φ i, ¬ Own (s.set i none) φ a := fun a ha ⟨j, u, q, m⟩ => (clr_at q).1 (g.dj j i u t a (clr_at q).2 ht m ha)
      obtain ⟨g3, o3⟩ := g1.cons r fun a ha => ⟨g.fr i t a ht ha, fun z => fresh a ha (o1 a z)⟩
      refine ⟨_, g3, g2, fun a z => (o3 a z).elim (fun z => ⟨i, t, ht, z⟩) (fun z => oc a (o1 a z)), fun a z => oc a (o2 a z), fun a z q => ?_⟩
      rcases o3 a z with z | z
      · exact fresh a z (o2 a q)
      · exact dj a z q
    · cases e
/-- what stands aside of a call stays -/
theorem Good.aside {H1 Hf1 : Hp} {P P1 : Addr → Prop} (g : Good w σ H Hf s φ) (k1 : Stp H Hf P H1 Hf1 P1) (sub : Sub Hf1 H1) (no : ∀ a, P a → ¬ Own s φ a) : Good w σ H1 Hf1 s φ ∧ ∀ a, P1 a → ¬ Own s φ a := by
  have key : ∀ a, (P1 a ∨ Hf1 a ≠ none) → ¬ Own s φ a := fun a z q => by
    rcases k1.new a z with z | z | z
    · exact no a z q
    · exact z (g.own_free q)
    · obtain ⟨o, e⟩ := g.own_some q
      rw [e] at z; cases z
  refine ⟨⟨sub, g.len, fun i t e => ?_, fun i t a e m => ?_, g.dj⟩, fun a z => key a (.inl z)⟩
  · obtain ⟨v, e1, r⟩ := g.here i t e
    exact ⟨v, e1, r.stay k1.sub fun a ha o q => k1.keep a o q fun z => no a z ⟨i, t, e, ha⟩⟩
  · cases q : Hf1 a with
    | none => rfl
    | some u => exact (key a (.inr (by rw [q]; simp)) ⟨i, t, e, m⟩).elim
theorem set_self {i : Nat} {v : V} {σ : L2.St} (h : σ[i]? = some (some v)) : σ.set i (some v) = σ := by
  apply List.ext_getElem?
  intro j
  by_cases e : i = j
  · subst e
    rw [List.getElem?_set_self (List.getElem?_eq_some_iff.mp h).1, h]
  · rw [List.getElem?_set_ne e]
/-- the values at the places of what is lent -/
def usOf : List V → List AR → List V
  | v :: vs, .io _ :: as => v :: usOf vs as
  | _ :: vs, _ :: as => usOf vs as
  | _, _ => []
theorem back_ok : ∀ {vs : List V} {as : List AR} {os : List T} {s s1 : Sl} {φ ψ : Nat → List Addr}, RAs w σ Hf H vs as → Good w σ H Hf s φ → Good w ((usOf vs as).map some) H Hf (os.map some) ψ → (∀ a, Own (os.map some) ψ a → ¬ Own s φ a) → back as os s = .ok s1 →
    ∃ φ', Good w σ H Hf s1 φ' ∧ ∀ a, Own s1 φ' a → Own s φ a ∨ Own (os.map some) ψ a
  | _, _, os, s, s1, φ, ψ, .nil, g, g2, dj, e => by
    cases os with
    | nil => cases e; exact ⟨φ, g, fun a => .inl⟩
    | cons _ _ => cases e
  | _, _, os, s, s1, φ, ψ, .cons (.v r) rr, g, g2, dj, e => by
    cases os with
    | nil => exact back_ok rr g g2 dj e
    | cons _ _ => exact back_ok rr g g2 dj e
  | _, _, os, s, s1, φ, ψ, .cons (.f r) rr, g, g2, dj, e => by
    cases os with
    | nil => exact back_ok rr g g2 dj e
    | cons _ _ => exact back_ok rr g g2 dj e
  | _, _, os, s, s1, φ, ψ, .cons (v := v) (vs := vs) (as := as) (.io (i := i) hv) rr, g, g2, dj, e => by
    cases os with
    | nil => cases e
    | cons t os =>
      obtain ⟨v', e1, r⟩ := g2.here 0 t rfl
      have ev : v' = v := by
        have e1 : (some (some v) : Option (Option V)) = some (some v') := e1
        cases e1; rfl
      subst ev
      obtain ⟨g3, o3⟩ := g.set (i := i) r fun a ha => ⟨g2.fr 0 t a rfl ha, fun j u _ q m => dj a ⟨0, t, rfl, ha⟩ ⟨j, u, q, m⟩⟩
      rw [set_self hv] at g3
      have g4 : Good w ((usOf vs as).map some) H Hf (os.map some) (fun j => ψ (j + 1)) :=
        ⟨g2.sub, by have := g2.len; simpa [usOf] using this, fun j u q => g2.here (j + 1) u (by simpa using q), fun j u a q m => g2.fr (j + 1) u a (by simpa using q) m, fun j l u u' a q1 q2 m1 m2 => by
          have := g2.dj (j + 1) (l + 1) u u' a (by simpa using q1) (by simpa using q2) m1 m2
          omega⟩
      have up : ∀ a, Own (os.map some) (fun j => ψ (j + 1)) a → Own ((t :: os).map some) ψ a := fun a ⟨j, u, q, m⟩ => ⟨j + 1, u, by simpa using q, m⟩
      obtain ⟨φ', g5, o5⟩ := back_ok rr g3 g4 (fun a z q => by
        rcases o3 a q with q | q
        · exact dj a (up a z) q
        · obtain ⟨j, u, q1, m⟩ := z
          have := g2.dj (j + 1) 0 u t a (by simpa using q1) rfl m q
          omega) e
      refine ⟨φ', g5, fun a z => ?_⟩
      rcases o5 a z with z | z
      · rcases o3 a z with z | z
        · exact .inl z
        · exact .inr ⟨0, t, rfl, z⟩
      · exact .inr (up a z)
end
end KV

set_option Elab.async false
set_option linter.all false
set_option maxRecDepth 100000
set_option maxHeartbeats 2000000
/-! KVN: defs of the text, called; the law's own call. -/
namespace KV
open PySem L2
open PySem.Spec PyProof.Rows

/-- like FnOk, where no repr is under way -/
structure FnG (P : Program) (w0 : World) (K : PySem.W.Frag) (mg : Str → Option Value) (base : Heap) (k : Nat) (f : Addr) (fd : FuncData) (ps : List Str) (sp : Sp) : Prop where
  len : ∀ vs H Q E, sp vs H Q E → vs.length = ps.length
  run : ∀ (A : Around) (outer : List Env) (s : Shared) (H : Hp) (args : Args) (us : List Value) (vs : List V) (Q : VK) (E : XK), Room k A → A.guards = some [] → Env0 P w0 K mg base A outer s H → BindsTo s fd args (ps.zip us) → Vals vs us → sp vs H Q E →
    codeAny (model P w0) A (.call (.ref f) args) (CR CX0 outer P w0 H s Q E) s
/-- its contexts -/
abbrev bodyCx (P : Program) (w0 : World) (K : PySem.W.Frag) (mg : Str → Option Value) (base : Heap) (N : List Str) (x : Str) (st : Stmt) (f : Addr) (cdv : Value) (A : Around) (outer : List Env) (s : Shared) (H : Hp) (E : XK) : Cx :=
  (cxOf CX0 P w0 K mg base N x (defScope st) f cdv A outer s H E).nox
theorem fnG_of {P : Program} {w0 : World} {K : PySem.W.Frag} {mg : Str → Option Value} {base : Heap} {k : Nat} {f : Addr} {x : Str} {st : Stmt} {fd : FuncData} {N ps : List Str} {sp : Sp} (F : L2.Fun K x x st f fd) (S : FnScope N ps (defScope st)) (len : ∀ vs H Q E, sp vs H Q E → vs.length = ps.length)
    (hbody : ∀ (cdv : Value) (A : Around) (outer : List Env) (s : Shared) (H : Hp) (vs : List V) (Q : VK) (E : XK), Room k (A.deeper (envOfC x (defScope st) s.heap.objs.size f cdv)) → A.guards = some [] → sp vs H Q E →
      ∃ t, PSs (bodyCx P w0 K mg base N x st f cdv A outer s H E) (defBody st) t ∧ t { nx := fun _ H' => Q .non H', rt := Q } (start N vs) H) : FnG P w0 K mg base (k + 1) f fd ps sp := by
  obtain ⟨oc, od, kV, doc, pm, an, cdv, ct, osl, rfl, lk, hcd⟩ := F.ex
  refine ⟨len, fun A outer s H args us vs Q E room gd env0 bound vals want => ?_⟩
  have nArgs := len _ _ _ _ want
  have kin : K.In s.heap := env0.mod.kin.keeps fun b o e => (env0.bs b o e).1
  have noLim : s.heap.NoLimit := env0.mod.nolimit.keeps fun b o e => (env0.bs b o e).1
  have kinds : ∀ y ∈ ps.zip us, (defScope st).names.lookup y.1 = some .local ∨ ((defScope st).names.lookup y.1 = some .cell ∧ ((cellsFrom (s.heap.objs.size + 1) (defScope st).names []).lookup y.1).isSome = true) := fun y hy => by
    rcases S.par y.1 (List.of_mem_zip (show (y.1, y.2) ∈ ps.zip us from hy)).1 with z | z
    · exact .inl z
    · exact .inr ⟨z, PySem.W.cellsFrom_some _ _ _ (.inl z)⟩
  refine codeAny_call_function room.depth (kin _ _ lk) rfl S.co S.gen rfl (PySem.W.codeRec_of kin hcd) (bound _ _ _ _ ?_)
  refine wpAny_newFunctionEnv_cells S.kind kinds fun env ee s1 inC => ?_
  subst ee
  refine ⟨noLim.keeps inC.toInCall.keep, codeAny_func ?_⟩
  obtain ⟨t, tb, tq⟩ := hbody cdv A outer s H vs Q E (room.deeper _) gd want
  have inv0 : Inv (cxOf CX0 P w0 K mg base N x (defScope st) f cdv A outer s H E) [] (start N vs) H s1 := inv_start S room.hd env0 nArgs vals inC
  refine wpAny_mono (tb.nox.run [] s1 (start N vs) H _ inv0 tq) (fun fl s' hs => ?_) fun e s' hs => hs
  cases fl with
  | ret u =>
    obtain ⟨v, σ', H', J, rv, q⟩ := hs
    exact ⟨v, H', J.os, J.bare, J.base, J.hok, rv, q⟩
  | next =>
    obtain ⟨σ', H', J, q⟩ := hs
    exact ⟨V.non, H', J.os, J.bare, J.base, J.hok, rfl, q⟩
  | brk => exact hs.elim fun _ h => h.elim fun _ h => False.elim h.2
  | cont => exact hs.elim fun _ h => h.elim fun _ h => False.elim h.2

/-- a def of the module that may be called -/
structure CalG (P : Program) (w0 : World) (K : PySem.W.Frag) (mg : Str → Option Value) (base : Heap) (k : Nat) (x : Str) (sp : Sp) : Prop where
  ex : ∃ (f : Addr) (fd : FuncData) (ps : List Str), FnG P w0 K mg base k f fd ps sp ∧ mg x = some (.ref f) ∧ PySem.W.keepIn K (.ref f) = true ∧ Binds K fd ps []

section
variable {w : Wd} {k : Nat} {X : Cx} {pos : Pos} {σ : L2.St} {H Hf : Hp} {s s' : Sl} {φ : Nat → List Addr} {Q : VK} {io : List Nat}
theorem run_G {j : Nat} {f : Addr} {fd : FuncData} {ps : List Str} {sp : Sp} {pins : List (Addr × Obj)} {sh : Shared} {us : List Value} {vs : List V} {E : XK} (c : Cok w k X) (hk : j ≤ k) (F : FnG X.prog X.w X.K X.mg X.base j f fd ps sp) (hb : Binds X.K fd ps [])
    (I : Inv X pins σ H sh) (r : Vals vs us) (h : sp vs H Q E) : wpAny (model X.prog X.w) X.A (call (.ref f) us) (EP X pins σ Q) X.xe sh := by
  have hl : (us ++ []).length = ps.length := by rw [List.append_nil, ← r.length]; exact F.len _ _ _ _ h
  have bd := hb sh us I.kIn hl
  rw [List.append_nil] at bd
  refine wpAny_call (codeAny_mono (F.run X.A X.stack sh H ⟨us, []⟩ us vs Q E (c.room.mono hk) c.gd I.env0 bd r h) fun res s' hq => ?_)
  cases res with
  | error e => exact False.elim hq
  | ok fl =>
    cases fl with
    | ret u => exact I.after hq
    | next => exact False.elim hq
    | brk => exact False.elim hq
    | cont => exact False.elim hq
theorem pe_G {j : Nat} {x : Str} {sp : Sp} {p : Pos} {e : Expr} {es : List Expr} {t : TA} {E : XK} (c : Cok w k X) (C : CalG X.prog X.w X.K X.mg X.base j x sp) (hk : j ≤ k) (hg : Gl X x) (ha : PA X (e :: es) t) (hdb : (x == ("__debug__" : Str)) = false)
    (he : starEach (e :: es) X.env = (false, eval e X.env) :: starEach es X.env) (hpl : (backTo pos (starEach es X.env)).any (·.1) = false) : PE X (.Call (.Name x p) (e :: es) [] pos) (fun σ H Q => t σ H fun vs H1 => sp vs H1 Q E) := by
  obtain ⟨f, fd, ps, F, hm, kp, hb⟩ := C.ex
  refine ⟨fun pins s σ H Q I h => ?_⟩
  refine wpAny_Call_Name_kw (ld_glob I hg hm ?_ hdb)
  exact PySem.W.callWith_K (h₀ := X.base) I.ok.mod.kin kp (thn (ha.run pos pins s σ H _ I h) fun us s1 ⟨vs, H1, I1, r, q⟩ => ⟨I1.kIn, run_G c hk F hb I1 r q⟩) he hpl
theorem pe_G0 {j : Nat} {x : Str} {sp : Sp} {p : Pos} {E : XK} (c : Cok w k X) (C : CalG X.prog X.w X.K X.mg X.base j x sp) (hk : j ≤ k) (hg : Gl X x) (hdb : (x == ("__debug__" : Str)) = false) : PE X (.Call (.Name x p) [] [] pos) (fun σ H Q => sp [] H Q E) := by
  obtain ⟨f, fd, ps, F, hm, kp, hb⟩ := C.ex
  refine ⟨fun pins s σ H Q I h => ?_⟩
  refine wpAny_Call_Name_kw (ld_glob I hg hm ?_ hdb)
  exact PySem.W.callWith_K0 I.kIn kp (run_G (us := []) c hk F hb I .nil h)

/-! ### what a denotation promises -/
def spD (w : Wd) (np : Nat) (d : Def) : Sp := fun vs H Q _ => ∃ Hf ts φ t os, vs.length = np ∧ Good w (vs.map some) H Hf (ts.map some) φ ∧ d.run ts = .ok (t, os) ∧
  ∀ v H' Hf' ψ F, Good w ((d.io.filterMap fun i => vs[i]?).map some) H' Hf' (os.map some) ψ → OR w Hf' H' v t F → (∀ a ∈ F, Hf' a = none ∧ ¬ Own (os.map some) ψ a) →
    Stp H Hf (Own (ts.map some) φ) H' Hf' (fun a => Own (os.map some) ψ a ∨ a ∈ F) → Q v H'
theorem at_pad {xs : List (Option T)} {n i : Nat} {t : T} (h : (xs ++ List.replicate n none)[i]? = some (some t)) : xs[i]? = some (some t) := by
  by_cases hi : i < xs.length
  · rw [List.getElem?_append_left hi] at h; exact h
  · rw [List.getElem?_append_right (by omega), List.getElem?_replicate] at h
    split at h <;> cases h
theorem Good.pad {n : Nat} (g : Good w σ H Hf s φ) : Good w (σ ++ List.replicate n none) H Hf (s ++ List.replicate n none) φ ∧ ∀ a, Own (s ++ List.replicate n none) φ a ↔ Own s φ a := by
  refine ⟨⟨g.sub, by simp [g.len], fun i t e => ?_, fun i t a e m => g.fr i t a (at_pad e) m, fun i j t u a e1 e2 m1 m2 => g.dj i j t u a (at_pad e1) (at_pad e2) m1 m2⟩, fun a => ⟨fun ⟨i, t, e, m⟩ => ⟨i, t, at_pad e, m⟩, fun ⟨i, t, e, m⟩ => ⟨i, t, ?_, m⟩⟩⟩
  · have e1 := at_pad e
    obtain ⟨v, h1, h2⟩ := g.here i t e1
    exact ⟨v, by rw [List.getElem?_append_left (List.getElem?_eq_some_iff.mp h1).1]; exact h1, h2⟩
  · rw [List.getElem?_append_left (List.getElem?_eq_some_iff.mp e).1]; exact e
theorem outs_ok {vs : List V} : ∀ {io : List Nat} {os : List T}, Good w σ H Hf s φ → outs io s = .ok os → io.Nodup → (∀ i ∈ io, ∃ v, vs[i]? = some v ∧ σ[i]? = some (some v)) →
    ∃ ψ, Good w ((io.filterMap fun i => vs[i]?).map some) H Hf (os.map some) ψ ∧ ∀ a, Own (os.map some) ψ a → ∃ i ∈ io, ∃ t, s[i]? = some (some t) ∧ a ∈ φ i
  | [], os, g, e, _, _ => by
    cases e
    exact ⟨φ, Good.nilS g.sub, fun a ⟨i, t, e, _⟩ => by simp at e⟩
  | i :: io, os, g, e, nd, hv => by
    unfold outs at e
    split at e
    · rename_i t ht
      obtain ⟨os', h1, h2⟩ := R.bind_eq_ok.mp e
      cases h2
      obtain ⟨ψ, g1, o1⟩ := outs_ok (io := io) g h1 (List.nodup_cons.mp nd).2 fun j hj => hv j (List.mem_cons_of_mem _ hj)
      obtain ⟨v, hv1, hv2⟩ := hv i (List.mem_cons_self ..)
      obtain ⟨v', e1, r⟩ := g.here i t ht
      rw [hv2] at e1; cases e1
      obtain ⟨g2, o2⟩ := g1.cons r fun a ha => ⟨g.fr i t a ht ha, fun z => by
        obtain ⟨j, hj, u, q, m⟩ := o1 a z
        have := g.dj j i u t a q ht m ha
        subst this
        exact (List.nodup_cons.mp nd).1 hj⟩
      refine ⟨_, by rw [List.filterMap_cons_some hv1]; exact g2, fun a z => ?_⟩
      rcases o2 a z with z | z
      · exact ⟨i, List.mem_cons_self .., t, ht, z⟩
      · obtain ⟨j, hj, q⟩ := o1 a z
        exact ⟨j, List.mem_cons_of_mem _ hj, q⟩
    · cases e
/-- a def by its denotation -/
theorem fnD_of {P : Program} {w0 : World} {K : PySem.W.Frag} {mg : Str → Option Value} {base : Heap} {f : Addr} {x : Str} {st : Stmt} {fd : FuncData} {N ps : List Str} {d : Def} (F : L2.Fun K x x st f fd) (S : FnScope N ps (defScope st)) (hn : d.n = N.length) (hnd : d.io.Nodup) (hio : ∀ i ∈ d.io, i < ps.length)
    (hb : ∀ (cdv : Value) (A : Around) (outer : List Env) (s : Shared) (H : Hp) (E : XK), Room k (A.deeper (envOfC x (defScope st) s.heap.objs.size f cdv)) → A.guards = some [] → GSs w d.io (bodyCx P w0 K mg base N x st f cdv A outer s H E) (defBody st) d.body) : FnG P w0 K mg base (k + 1) f fd ps (spD w ps.length d) := by
  refine fnG_of F S (fun vs H Q E h => ?_) fun cdv A outer s0 H vs Q E room gd h => ⟨_, hb cdv A outer s0 H E room gd, ?_⟩
  · obtain ⟨_, _, _, _, _, hl, _⟩ := h
    exact hl
  · obtain ⟨Hf, ts, φ, t, os, hl, g, hr, q⟩ := h
    have hlt : ts.length = vs.length := by have := g.len; simpa using this
    obtain ⟨⟨fl, s1⟩, h1, h2⟩ := R.bind_eq_ok.mp hr
    obtain ⟨t', h3, h4⟩ := R.bind_eq_ok.mp h2
    obtain ⟨os', h5, h6⟩ := R.bind_eq_ok.mp h4
    cases h6
    obtain ⟨g0, o0⟩ := g.pad (n := N.length - vs.length)
    rw [hn, hlt] at h1
    refine ⟨Hf, _, φ, fl, s1, g0, h1, ?_⟩
    have fin : ∀ v σ' H' Hf' φ' F1, Good w σ' H' Hf' s1 φ' → OR w Hf' H' v t F1 → (∀ a ∈ F1, Hf' a = none ∧ ¬ Own s1 φ' a) → Stp H Hf (Own (ts.map some ++ List.replicate (N.length - vs.length) none) φ) H' Hf' (fun a => Own s1 φ' a ∨ a ∈ F1) → Kp d.io (start N vs) σ' → Q v H' := by
      intro v σ' H' Hf' φ' F1 g1 r1 c1 k1 kp
      obtain ⟨ψ, g2, o2⟩ := outs_ok (vs := vs) g1 h5 hnd fun i hi => by
        have hlt2 : i < vs.length := by rw [hl]; exact hio i hi
        refine ⟨vs[i], List.getElem?_eq_getElem hlt2, ?_⟩
        rw [kp i hi]
        unfold L2.start
        rw [List.getElem?_append_left (by simpa using hlt2), List.getElem?_map, List.getElem?_eq_getElem hlt2]
        rfl
      have up : ∀ a, Own (os.map some) ψ a → Own s1 φ' a := fun a z => by
        obtain ⟨i, _, t, e, m⟩ := o2 a z
        exact ⟨i, t, e, m⟩
      refine q v H' Hf' ψ F1 g2 r1 (fun a ha => ⟨(c1 a ha).1, fun z => (c1 a ha).2 (up a z)⟩) ⟨k1.sub, fun a o e n => k1.keep a o e fun z => n ((o0 a).mp z), fun a z => ?_⟩
      have := k1.new a (z.imp (fun z => z.imp (up a) id) id)
      rcases this with z | z | z
      · exact .inl ((o0 a).mp z)
      · exact .inr (.inl z)
      · exact .inr (.inr z)
    cases fl with
    | nx =>
      cases h3
      exact fun σ' H' Hf' φ' g1 k1 kp => fin .non σ' H' Hf' φ' [] g1 (.val .non) (fun a h => nomatch h) (k1.weak fun a z => z.elim id fun z => nomatch z) kp
    | rt t2 =>
      cases h3
      exact fun v σ' H' Hf' φ' F1 g1 r1 c1 k1 kp => fin v σ' H' Hf' φ' F1 g1 r1 c1 k1 kp
    | bk => cases h3
    | ct => cases h3
theorem usOf_eq : ∀ {as : List AR} {vs vs0 : List V} {n : Nat}, vs.length = as.length → (∀ i, vs[i]? = vs0[n + i]?) → usOf vs as = (ioAt n (as.map isIo)).filterMap fun i => vs0[i]?
  | [], [], vs0, n, _, _ => rfl
  | a :: as, v :: vs, vs0, n, hl, h => by
    have ih := usOf_eq (as := as) (vs := vs) (vs0 := vs0) (n := n + 1) (by simpa using hl) fun i => by
      have := h (i + 1)
      rw [List.getElem?_cons_succ] at this
      rw [this]; congr 1; omega
    cases a with
    | io i =>
      have h0 : vs0[n]? = some v := by have := h 0; simpa using this.symm
      show v :: usOf vs as = (n :: ioAt (n + 1) (as.map isIo)).filterMap _
      rw [List.filterMap_cons_some h0, ih]
    | v d => exact ih
    | f t => exact ih
/-- a call -/
theorem tR_call {np : Nat} {d : Def} {g : CV} {p : List Bool} {E : XK} (hp : ioAt 0 p = d.io) (hnp : p.length = np) : tE w (kCall d.run g) σ H Q → tR w g p σ H fun vs H1 => spD w np d vs H1 Q E := by
  rintro ⟨Hf, s, φ, l, s', gd, e, q⟩
  obtain ⟨⟨as, s1⟩, h1, h2⟩ := R.bind_eq_ok.mp e
  obtain ⟨⟨ts, s2⟩, h3, h4⟩ := R.bind_eq_ok.mp h2
  obtain ⟨⟨t, os⟩, h5, h6⟩ := R.bind_eq_ok.mp h4
  obtain ⟨s3, h7, h8⟩ := R.bind_eq_ok.mp h6
  cases h8
  refine ⟨Hf, s, φ, as, s1, gd, h1, fun vs H1 Hf1 φ1 g1 r1 p1 k1 => ?_⟩
  obtain ⟨ψ, ga, g2, o1, o2, dj⟩ := lend_ok r1 g1 h3
  have hlen := r1.length
  refine ⟨Hf1, ts, ψ, t, os, by rw [hlen, ← hnp, ← p1, List.length_map], ga, h5, fun v H2 Hf2 ψ2 F gb r2 c2 k2 => ?_⟩
  obtain ⟨g3, n3⟩ := g2.aside k2 gb.sub dj
  have eu : usOf vs as = d.io.filterMap fun i => vs[i]? := by
    rw [usOf_eq (n := 0) hlen fun i => by rw [Nat.zero_add], p1, hp]
  rw [← eu] at gb
  have r1' : RAs w σ Hf2 H2 vs as := by
    have : ∀ {vs : List V} {as : List AR}, RAs w σ Hf1 H1 vs as → RAs w σ Hf2 H2 vs as := fun r => by
      induction r with
      | nil => exact .nil
      | cons a _ ih => exact .cons (a.mono k2.sub) ih
    exact this r1
  obtain ⟨φ3, g4, o4⟩ := back_ok r1' g3 gb (fun a z => n3 a (.inl z)) h7
  have nF : ∀ a ∈ F, Hf2 a = none ∧ ¬ Own s' φ3 a := fun a ha => ⟨(c2 a ha).1, fun z => (o4 a z).elim (n3 a (.inr ha)) (c2 a ha).2⟩
  have step : Stp H1 Hf1 (Own s1 φ1) H2 Hf2 (fun a => Own s' φ3 a ∨ a ∈ F) := by
    refine ⟨k2.sub, fun a o e n => k2.keep a o e fun z => n (o1 a z), fun a z => ?_⟩
    have lift : Own (ts.map some) ψ a ∨ Hf1 a ≠ none ∨ H1 a = none → Own s1 φ1 a ∨ Hf1 a ≠ none ∨ H1 a = none := fun z => z.imp (o1 a) id
    rcases z with (z | z) | z
    · rcases o4 a z with z | z
      · exact .inl (o2 a z)
      · exact lift (k2.new a (.inl (.inl z)))
    · exact lift (k2.new a (.inl (.inr z)))
    · exact lift (k2.new a (.inr z))
  have tot := k1.trans step (fun _ => id) fun x hx => g1.own_free hx
  cases t with
  | val x =>
    cases r2 with
    | val r2 => exact q v H2 Hf2 φ3 [] g4 (.d r2) (tot.weak fun a z => z)
  | lst x => exact q v H2 Hf2 φ3 F g4 (.t r2 nF) tot
  | dct x => exact q v H2 Hf2 φ3 F g4 (.t r2 nF) tot
  | src x => exact q v H2 Hf2 φ3 F g4 (.t r2 nF) tot
  | clo n x => exact q v H2 Hf2 φ3 F g4 (.t r2 nF) tot
  | scr x => exact q v H2 Hf2 φ3 F g4 (.t r2 nF) tot
theorem ge_call {j np : Nat} {x : Str} {d : Def} {px : Pos} {e : Expr} {es : List Expr} {g : CV} {p : List Bool} (c : Cok w k X) (C : CalG X.prog X.w X.K X.mg X.base j x (spD w np d)) (ha : GR w X (e :: es) g p) (hk : j ≤ k := by decide) (hp : ioAt 0 p = d.io := by rfl) (hnp : p.length = np := by rfl) (hg : Gl X x := by rfl)
    (hdb : (x == ("__debug__" : Str)) = false := by decide) (he : starEach (e :: es) X.env = (false, eval e X.env) :: starEach es X.env := by rfl) (hpl : (backTo pos (starEach es X.env)).any (·.1) = false := by rfl) : GE w X (.Call (.Name x px) (e :: es) [] pos) (kCall d.run g) :=
  pe_imp (pe_G (E := E0) c C hk hg ha hdb he hpl) fun _ _ _ => tR_call hp hnp
theorem ge_call0 {j : Nat} {x : Str} {d : Def} {px : Pos} (c : Cok w k X) (C : CalG X.prog X.w X.K X.mg X.base j x (spD w 0 d)) (hk : j ≤ k := by decide) (hp : ioAt 0 [] = d.io := by rfl) (hg : Gl X x := by rfl)
    (hdb : (x == ("__debug__" : Str)) = false := by decide) : GE w X (.Call (.Name x px) [] [] pos) (kCall d.run cNil) :=
  pe_imp (pe_G0 (E := E0) c C hk hg hdb) fun σ H Q h => by
    obtain ⟨Hf, s, φ, as, s', gd, e, q⟩ := tR_call (E := E0) (np := 0) hp rfl h
    cases e
    exact q [] H Hf φ gd .nil rfl Stp.refl
end
end KV

set_option Elab.async false
set_option linter.all false
set_option maxRecDepth 100000
set_option maxHeartbeats 4000000
/-! KVO: repetition. -/
namespace KV
open PySem L2
open PySem.Spec PyProof.Rows
theorem tup_mulS (l : Addr) (items : Array Value) (n : Nat) (dd : Option Addr) (sl : Array (Option Value)) (x : Int) (u : Tok) (c0 : (decide (x < -(2 ^ 63)) || decide (x ≥ 2 ^ 63)) = false) (c1 : (items.isEmpty || x == 1) = true) :
    Meets (Builtin.«tuple.__mul__» ⟨[.ref l, .int x u], []⟩) (fun _ R s => s.heap.get? l = some { cls := .type "tuple", dict := dd, data := .seq items n, slots := sl } ∧ R (.ok (.ret (Value.ref l))) s) :=
  .of_wp fun prog w A R s h => by
    obtain ⟨hp, g, d, tk, os⟩ := s
    obtain ⟨hl, h⟩ := h
    have f1 := AutoSeq1.idx_int
    wp_walk using AutoSeq1.wpAny_loadPart' hl
    repeat (first
      | (refine wpAny_ite_false (decide_eq_false (by rw [c0]; exact Bool.false_ne_true)) ?_; wp_walk using AutoSeq1.wpAny_loadPart' hl)
      | (refine wpAny_ite_true (decide_eq_true c1) ?_; wp_walk using AutoSeq1.wpAny_loadPart' hl))
    exact ⟨_, rfl, h⟩
theorem tup_mul0 (l : Addr) (items : Array Value) (n : Nat) (dd : Option Addr) (sl : Array (Option Value)) (x : Int) (u : Tok) (c0 : (decide (x < -(2 ^ 63)) || decide (x ≥ 2 ^ 63)) = false) (c1 : (items.isEmpty || x == 1) = false) (c2 : (decide (x ≤ 0) || items.isEmpty) = true) :
    Meets (Builtin.«tuple.__mul__» ⟨[.ref l, .int x u], []⟩) (fun _ R s => s.heap.get? l = some { cls := .type "tuple", dict := dd, data := .seq items n, slots := sl } ∧
      R (.ok (.ret (Value.ref s.heap.objs.size))) { s with heap := s.heap.push { cls := Value.type "tuple", data := Data.seq #[] }, toks := s.toks }) :=
  .of_wp fun prog w A R s h => by
    obtain ⟨hp, g, d, tk, os⟩ := s
    obtain ⟨hl, h⟩ := h
    have f1 := AutoSeq1.idx_int
    wp_walk using AutoSeq1.wpAny_loadPart' hl
    repeat (first
      | (refine wpAny_ite_false (decide_eq_false (by rw [c0]; exact Bool.false_ne_true)) ?_; wp_walk using AutoSeq1.wpAny_loadPart' hl)
      | (refine wpAny_ite_false (decide_eq_false (by rw [c1]; exact Bool.false_ne_true)) ?_; wp_walk using AutoSeq1.wpAny_loadPart' hl)
      | (refine wpAny_ite_true (decide_eq_true c2) ?_; wp_walk using AutoSeq1.wpAny_loadPart' hl))
    exact ⟨_, rfl, h⟩
def rRepF (K : PySem.W.Frag) : R2 := fun x y H Q => ∃ l k xs, x = .ref l ∧ y = .int k ∧ STup K H l xs ∧ 0 ≤ k ∧ k ≤ 1000 ∧ xs.length ≤ 1000 ∧ (xs = [] ∨ k = 1 → Q (.ref l) H) ∧
  (¬ (xs = [] ∨ k = 1) → ∀ p, H p = none → ∀ o : Obj, o.dict = none → Q (.ref p) (upd H p (.frz o (.tup (List.replicate k.toNat xs).flatten))))
section
variable {w : Wd} {k : Nat} {X : Cx}
theorem op_repF : OpR X (binaryOp .Mult) (rRepF X.K) := by
  intro pins s σ H x y v u Q I rx ry h
  obtain ⟨l, k, xs, rfl, rfl, hT, h0, h1, hz, qs, qn⟩ := h
  cases rx
  obtain ⟨t, rfl⟩ := ry
  obtain ⟨its, r, ⟨⟨cls, dd, data, sl⟩, ho, hc, n, hd⟩, hs⟩ := I.tuple hT.sq
  simp only at hc hd
  subst hc hd
  have hle : its.length = xs.length := r.length.symm
  have c0 : (decide (k < -(2 ^ 63)) || decide (k ≥ 2 ^ 63)) = false := by
    rw [decide_eq_false (by omega), decide_eq_false (by omega)] <;> rfl
  have go : ∀ {Q' : Value → Shared → Prop}, wpAny (model X.prog X.w) X.A (call (.builtin "tuple.__mul__") [.ref l, .int k t]) Q' X.xe s → wpAny (model X.prog X.w) X.A (binaryOp .Mult (.ref l) (.int k t)) Q' X.xe s := fun {Q'} h =>
    wpAny_binaryOp_repeat_ref (T := "tuple") (U := "int") (by decide) ⟨_, ho, rfl⟩ (fun s' => typeIs_int s' k t) noFill_tuple_mul PySem.F.fills_int_mul PySem.F.slot_int_rmul repeat_tuple PySem.F.slot_int_index.lookup
      (call_meets PySem.F.slot_int_rmul (typeIs_int s k t) PySem.F.entry_int_rmul (PySem.F.args_int_rmul_2 _ _) (int_rmul_tuple k t l its.toArray n dd sl) ⟨ho, rfl, ⟨_, ho, rfl⟩, h⟩)
  have hemp : its.toArray.isEmpty = true ↔ xs = [] := by
    rw [List.isEmpty_toArray, List.isEmpty_iff]
    exact r.nil_iff
  by_cases same : xs = [] ∨ k = 1
  · have c1 : (its.toArray.isEmpty || k == 1) = true := by
      rcases same with e | e
      · rw [hemp.mpr e, Bool.true_or]
      · subst e; simp
    exact go (call_meets PySem.F.slot_tuple_mul ⟨_, ho, rfl⟩ PySem.F.entry_tuple_mul (PySem.F.args_tuple_mul_2 _ _) (tup_mulS l its.toArray n dd sl k t c0 c1) ⟨ho, .ref l, H, I, rfl, qs same⟩)
  · have ne : xs ≠ [] := fun e => same (.inl e)
    have i0 : its.toArray.isEmpty = false := by
      cases e : its.toArray.isEmpty with
      | false => rfl
      | true => exact (ne (hemp.mp e)).elim
    have c1 : (its.toArray.isEmpty || k == 1) = false := by
      rw [i0, Bool.false_or]
      exact beq_eq_false_iff_ne.mpr fun e => same (.inr e)
    have lenF : (List.replicate k.toNat xs).flatten.length ≤ sizeLine := by
      rw [PyProof.Rows.lm_len_rep_flat, sizeLine_eq]
      have a1 : k.toNat * xs.length ≤ 1000 * 1000 := Nat.mul_le_mul (by omega) hz
      omega
    have laid : ∀ (zs : List Value), Vals (List.replicate k.toNat xs).flatten zs → EP X pins σ Q (.ref s.heap.objs.size) { s with heap := s.heap.push { cls := Value.type "tuple", data := Data.seq zs.toArray }, toks := s.toks } := fun zs rz => by
      have hl := I.laid (t' := s.toks) (a := s.heap.objs.size) (h' := s.heap.push { cls := .type "tuple", data := .seq zs.toArray }) (o := .frz { cls := .type "tuple", data := .seq zs.toArray } (.tup (List.replicate k.toNat xs).flatten)) (fun c ob q => Heap.get?_push_of_some _ q) (Nat.le_refl _)
        ⟨Heap.get?_push_size _ rfl, lenF, _, rz, IsTup.new _ _⟩
      exact ⟨.ref s.heap.objs.size, _, hl, rfl, qn same _ (I.hok.fresh (Nat.le_refl _)) _ rfl⟩
    by_cases z : k ≤ 0
    · have k0 : k = 0 := by omega
      subst k0
      have c2 : (decide ((0 : Int) ≤ 0) || its.toArray.isEmpty) = true := rfl
      exact go (call_meets PySem.F.slot_tuple_mul ⟨_, ho, rfl⟩ PySem.F.entry_tuple_mul (PySem.F.args_tuple_mul_2 _ _) (tup_mul0 l its.toArray n dd sl 0 t c0 c1 c2) ⟨ho, laid [] .nil⟩)
    · have hm : ((its.toArray.size : Nat) : Int) * k ≤ 1000000 := by
        rw [List.size_toArray, hle]
        have a1 : ((xs.length : Nat) : Int) * k ≤ 1000 * k := Int.mul_le_mul_of_nonneg_right (by omega) (by omega)
        omega
      have c2 : (decide (k ≤ 0) || its.toArray.isEmpty) = false := by
        rw [i0, Bool.or_false]
        exact decide_eq_false z
      have c4 : Builtin.Tuple.tupleTooMany (((its.toArray.size : Nat) : Int) * k) = false := by
        unfold Builtin.Tuple.tupleTooMany
        rw [sizeLine_eq]
        exact decide_eq_false (by omega)
      refine go (call_meets PySem.F.slot_tuple_mul ⟨_, ho, rfl⟩ PySem.F.entry_tuple_mul (PySem.F.args_tuple_mul_2 _ _) (tuple_mulW l its.toArray n dd sl k t c0 c1 c2 (by omega) c4 ?_) ⟨ho, ?_⟩)
      · rw [size_rep, List.size_toArray, ← (r.rep k.toNat).length]
        exact lenF
      · rw [size_rep]
        exact laid _ (r.rep k.toNat)
def rMulA (K : PySem.W.Frag) : R2 := fun x y H Q => (rI CMul fun i j => .int (i * j)) x y H Q ∨ rRepF K x y H Q ∨ rRep x y H Q
theorem u_mul (c : Cok w k X) : U2 w (rMulA X.K) pMul := by
  intro σ H Hf s φ v u d e l Q g r1 r2 hp q
  unfold pMul at hp
  split at hp
  · split at hp
    · rename_i hc
      cases hp
      exact .inl ⟨_, _, r1.int, r2.int, hc, q.d g (.int _)⟩
    · cases hp
  · split at hp
    · rename_i hc
      cases hp
      obtain ⟨a, vs, rfl, ha, r⟩ := r1.tup g.sub
      have hl := r.length
      have rr := r1.tupR
      cases r2.int
      refine .inr (.inl ⟨a, _, vs, rfl, rfl, by rw [c.K]; exact ha, hc.1, hc.2.1, by rw [hl]; exact hc.2.2, fun same => ?_, fun _ p hp o ho => q.tup g (r.rep _) hp ho⟩)
      refine q.d g ?_
      rcases same with e | e
      · subst e
        cases r
        simp only [List.flatten_replicate_nil]
        exact rr
      · subst e
        simpa using rr
    · cases hp
  · rename_i ds b
    split at hp
    · rename_i hc
      cases hp
      obtain ⟨a, vs, rfl, ha, r⟩ := r1.list g.sub
      have hl := r.length
      cases r2.int
      have a1 : ds.length * b.toNat ≤ 1000 * 1000 := Nat.mul_le_mul hc.2.2 (by omega)
      exact .inr (.inr ⟨a, _, vs, rfl, rfl, ha, by omega, by omega, by rw [sizeLine_eq, hl]; omega, fun p hp => q.lst g (r.rep _) hp⟩)
    · cases hp
  · cases hp
theorem ge_mul (c : Cok w k X) {pos : Pos} {a b : Expr} {f f' : EV} (ha : GE w X a f) (hb : GE w X b f') : GE w X (.BinOp a .Mult b pos) (k2 pMul f f') := ge_op (OpR.or op_mul (OpR.or op_repF op_rep)) (u_mul c) ha hb
end
end KV

set_option Elab.async false
set_option linter.all false
set_option maxRecDepth 100000
set_option maxHeartbeats 4000000
/-! KVP: dict displays; the law's source of numbers. -/
namespace KV
open PySem L2
open PySem.Spec PyProof.Rows

/-! ### denotations -/
def dNil : Sl → R (List (D × D) × Sl) := fun s => .ok ([], s)
def dCons (f g : EV) (h : Sl → R (List (D × D) × Sl)) : Sl → R (List (D × D) × Sl) := fun s => (kS f s).bind fun r => (kD g r.2).bind fun q => (h q.2).bind fun t => .ok ((r.1, q.1) :: t.1, t.2)
/-- {k: v, ..} -/
def kDisp (h : Sl → R (List (D × D) × Sl)) : EV := fun s => (h s).bind fun r => if r.1.length ≤ 15 then .ok (.t (.dct (mergeD [] r.1)), r.2) else .no
def kInt (f : EV) : Sl → R (Int × Sl) := fun s => (kG f s).bind fun r => match r.1 with | .int i => .ok (i, r.2) | _ => .no
/-- the source, new -/
def kSrc (f g h m : EV) : EV := fun s => (f s).bind fun r => match r.1 with
  | .t (.lst xs) => (match intsOf xs with
    | some cs => (kInt g r.2).bind fun a => (kInt h a.2).bind fun b => (kInt m b.2).bind fun c => .ok (.t (.src ⟨cs, a.1, b.1, c.1⟩), c.2)
    | none => .no)
  | _ => .no
inductive SF where
  | left | mixed | turn
def SF.get : SF → Src → Int
  | .left, S => S.left
  | .mixed, S => S.mixed
  | .turn, S => S.turn
def SF.put : SF → Int → Src → Src
  | .left, x, S => { S with left := x }
  | .mixed, x, S => { S with mixed := x }
  | .turn, x, S => { S with turn := x }
def SF.nm : SF → Str
  | .left => "left"
  | .mixed => "mixed"
  | .turn => "turn"
def srcAt (i : Nat) (s : Sl) : R Src := match s[i]? with
  | some (some (.src S)) => .ok S
  | _ => .no
def kSGet (i : Nat) (f : SF) : EV := fun s => (srcAt i s).bind fun S => .ok (.d (.int (f.get S)), s)
def kSLen (i : Nat) : EV := fun s => (srcAt i s).bind fun S => .ok (.d (.int S.cells.length), s)
def kSPop (i : Nat) : EV := fun s => (srcAt i s).bind fun S => match S.cells[S.cells.length - 1]? with
  | some x => .ok (.d (.int x), s.set i (some (.src { S with cells := S.cells.dropLast })))
  | none => .no
def sSPut (i : Nat) (f : SF) (e : EV) : SV := fun s => (srcAt i s).bind fun _ => (kInt e s).bind fun r => (srcAt i r.2).bind fun S => .ok (.nx, r.2.set i (some (.src (f.put r.1 S))))

section
variable {w : Wd} {k : Nat} {X : Cx} {pos : Pos} {σ : L2.St} {H Hf : Hp} {s s' : Sl} {φ : Nat → List Addr} {Q : VK} {io : List Nat}

/-! ### values on the way, held -/
theorem RLs.stay {vs : List V} {ls : List L} {F : List Addr} {H1 Hf1 : Hp} {s1 : Sl} {φ1 : Nat → List Addr} {P' : Addr → Prop} (r : RLs w σ Hf H s φ vs ls F) (k : Stp H Hf (Own s φ) H1 Hf1 P') (hp : ∀ a, Own s1 φ1 a → P' a) : RLs w σ Hf1 H1 s1 φ1 vs ls F := by
  induction r with
  | nil => exact .nil
  | cons r _ dj ih => exact .cons (r.stay k hp) ih dj
theorem RLs.new {vs : List V} {ls : List L} {F : List Addr} (r : RLs w σ Hf H s φ vs ls F) : ∀ a ∈ F, (∃ o, H a = some o) ∧ Hf a = none ∧ ¬ Own s φ a := by
  induction r with
  | nil => exact fun a h => nomatch h
  | cons r _ _ ih =>
    intro a h
    rcases List.mem_append.mp h with h | h
    · cases r with
      | d _ => cases h
      | o _ => cases h
      | t r c => exact ⟨r.there a h, c a h⟩
    · exact ih a h
theorem RLs.two {v u : V} {t t' : T} {F : List Addr} (r : RLs w σ Hf H s φ [v, u] [.t t, .t t'] F) : ∃ F1 F2, F = F1 ++ F2 ∧ OR w Hf H v t F1 ∧ (∀ a ∈ F1, Hf a = none ∧ ¬ Own s φ a) ∧ OR w Hf H u t' F2 ∧ ∀ a ∈ F2, Hf a = none ∧ ¬ Own s φ a := by
  cases r with
  | cons ra rr dj =>
    cases rr with
    | cons rb rn dj2 =>
      cases rn
      cases ra with
      | t ra ca =>
        cases rb with
        | t rb cb => exact ⟨_, _, by rw [List.append_nil], ra, ca, rb, cb⟩
structure Bag (w : Wd) (σ : L2.St) (H0 Hf0 : Hp) (P0 : Addr → Prop) (vs : List V) (ls : List L) (F : List Addr) (H Hf : Hp) (s : Sl) (φ : Nat → List Addr) : Prop where
  g : Good w σ H Hf s φ
  r : RLs w σ Hf H s φ vs ls F
  k : Stp H0 Hf0 P0 H Hf (fun a => Own s φ a ∨ a ∈ F)
theorem Bag.free {H0 Hf0 : Hp} {P0 : Addr → Prop} {vs : List V} {ls : List L} {F : List Addr} (b : Bag w σ H0 Hf0 P0 vs ls F H Hf s φ) : ∀ a, Own s φ a → Hf0 a = none := fun a h => by
  cases e : Hf0 a with
  | none => rfl
  | some u => have := b.k.sub a u e; rw [b.g.own_free h] at this; cases this
theorem Bag.add {H0 Hf0 : Hp} {P0 : Addr → Prop} {vs : List V} {ls : List L} {F F1 : List Addr} {v : V} {l : L} {H1 Hf1 : Hp} {s1 : Sl} {φ1 : Nat → List Addr} (b : Bag w σ H0 Hf0 P0 vs ls F H Hf s φ) (g1 : Good w σ H1 Hf1 s1 φ1) (r1 : RL w σ Hf1 H1 s1 φ1 v l F1)
    (k1 : Stp H Hf (Own s φ) H1 Hf1 (fun a => Own s1 φ1 a ∨ a ∈ F1)) : Bag w σ H0 Hf0 P0 (v :: vs) (l :: ls) (F1 ++ F) H1 Hf1 s1 φ1 := by
  have nof : ∀ a ∈ F, ¬ (Own s1 φ1 a ∨ a ∈ F1) := fun a ha z => by
    obtain ⟨⟨o, e1⟩, e2, e3⟩ := b.r.new a ha
    rcases k1.new a (.inl z) with z | z | z
    · exact e3 z
    · exact z e2
    · rw [e1] at z; cases z
  have back : ∀ x, (Own s φ x ∨ x ∈ F) ∨ Hf x ≠ none → P0 x ∨ Hf0 x ≠ none ∨ H0 x = none := fun x => b.k.new x
  have main : ∀ a, (Own s1 φ1 a ∨ a ∈ F1) ∨ Hf1 a ≠ none → P0 a ∨ Hf0 a ≠ none ∨ H0 a = none := fun a z => by
    rcases k1.new a z with z | z | z
    · exact back a (.inl (.inl z))
    · exact back a (.inr z)
    · by_cases n : P0 a
      · exact .inl n
      · cases e : H0 a with
        | none => exact .inr (.inr rfl)
        | some u => rw [b.k.keep a u e n] at z; cases z
  refine ⟨g1, .cons r1 (b.r.stay k1 fun a => .inl) fun a h1 h2 => nof a h2 (.inr h1), ⟨b.k.sub.trans k1.sub, fun a o h n => k1.keep a o (b.k.keep a o h n) fun z => ?_, fun a z => ?_⟩⟩
  · rcases back a (.inl (.inl z)) with z' | z' | z'
    · exact n z'
    · exact z' (b.free a z)
    · rw [h] at z'; cases z'
  · rcases z with (z | z) | z
    · exact main a (.inl (.inl z))
    · rcases List.mem_append.mp z with z | z
      · exact main a (.inl (.inr z))
      · exact back a (.inl (.inr z))
    · exact main a (.inr z)
theorem Bag.keep {H0 Hf0 : Hp} {P0 : Addr → Prop} {vs : List V} {ls : List L} {F : List Addr} {H1 Hf1 : Hp} {s1 : Sl} {φ1 : Nat → List Addr} (b : Bag w σ H0 Hf0 P0 vs ls F H Hf s φ) (g1 : Good w σ H1 Hf1 s1 φ1)
    (k1 : Stp H Hf (Own s φ) H1 Hf1 (Own s1 φ1)) : Bag w σ H0 Hf0 P0 vs ls F H1 Hf1 s1 φ1 := by
  have b1 := b.add (v := .non) g1 (.d .non) (F1 := []) (k1.weak fun a z => z.elim id fun z => nomatch z)
  exact ⟨g1, b.r.stay k1 fun _ => id, b1.k⟩
/-- its first, written or replaced -/
theorem Bag.one {H0 Hf0 : Hp} {P0 : Addr → Prop} {v : V} {t : T} {F : List Addr} (b : Bag w σ H0 Hf0 P0 [v] [.t t] F H Hf s φ) : OR w Hf H v t F ∧ ∀ a ∈ F, Hf a = none ∧ ¬ Own s φ a := by
  cases b.r with
  | cons r rr _ =>
    cases rr
    cases r with
    | t r c => rw [List.append_nil]; exact ⟨r, c⟩

/-! ### {k: v, ..} -/
def tD (w : Wd) (h : Sl → R (List (D × D) × Sl)) (trs : List (TE × TE)) : Prop := ∀ (σ : L2.St) (H Hf : Hp) (s : Sl) (φ : Nat → List Addr) (H0 Hf0 : Hp) (P0 : Addr → Prop) (p : Addr) (ps : List (D × D)) (s' : Sl) (Q : List (V × V) → Hp → Prop),
  Bag w σ H0 Hf0 P0 [.ref p] [.t (.dct [])] [p] H Hf s φ → h s = .ok (ps, s') →
  (∀ kvs H' Hf' φ', Bag w σ H0 Hf0 P0 [.ref p] [.t (.dct [])] [p] H' Hf' s' φ' → RpKv w.K Hf' kvs ps → Sub Hf Hf' → Q (kvs.map fun kv => (kV kv.1, kv.2)) H') → tPairs trs σ H Q
structure GDs (w : Wd) (X : Cx) (pos : Pos) (keys : List (Option Expr)) (values : List Expr) (h : Sl → R (List (D × D) × Sl)) : Prop where
  ex : ∃ trs, PPs X pos keys values trs ∧ tD w h trs
theorem gd_nil : GDs w X pos [] [] dNil := ⟨[], pps_nil, fun σ H Hf s φ H0 Hf0 P0 p ps s' Q b e q => by
  cases e
  exact q [] H Hf φ b .nil (Sub.refl _)⟩
theorem gd_cons {ek ev : Expr} {ks : List (Option Expr)} {vs : List Expr} {f g : EV} {h : Sl → R (List (D × D) × Sl)} (hk : GE w X ek f) (hv : GE w X ev g) (hr : GDs w X pos ks vs h) : GDs w X pos (some ek :: ks) (ev :: vs) (dCons f g h) := by
  obtain ⟨trs, pr, tr⟩ := hr.ex
  refine ⟨_, pps_cons hk hv pr, fun σ H Hf s φ H0 Hf0 P0 p ps s' Q b e q => ?_⟩
  obtain ⟨⟨kd, s1⟩, h1, h2⟩ := R.bind_eq_ok.mp e
  obtain ⟨⟨d, s2⟩, h3, h4⟩ := R.bind_eq_ok.mp h2
  obtain ⟨⟨ps', s3⟩, h5, h6⟩ := R.bind_eq_ok.mp h4
  cases h6
  obtain ⟨l1, h7, h8, h9⟩ := kS_ok h1
  refine ⟨Hf, s, φ, l1, s1, b.g, h7, fun v H1 Hf1 φ1 F1 g1 r1 k1 => ?_⟩
  obtain ⟨ky, rfl, rfl⟩ := (Vs.of (r1.rw g1 h8) h9).key
  have b1 := b.keep g1 (k1.weak fun a => .inl)
  refine tE_D g1 h3 fun u H2 Hf2 φ2 g2 r2 k2 => ?_
  have b2 := b1.keep g2 k2
  refine tr σ H2 Hf2 s2 φ2 H0 Hf0 P0 p ps' _ _ b2 h5 fun kvs H3 Hf3 φ3 b3 r3 sb => ?_
  exact q ((ky, u) :: kvs) H3 Hf3 φ3 b3 (.cons (r2.mono sb) r3) (k1.sub.trans (k2.sub.trans sb))
theorem ge_disp {keys : List (Option Expr)} {values : List Expr} {h : Sl → R (List (D × D) × Sl)} (hd : GDs w X pos keys values h) (hall : keys.all (·.isSome) = true := by rfl) (hl : keys.length = values.length := by rfl) (h0 : keys ≠ [] := by simp) (h15 : keys.length ≤ 15 := by decide) : GE w X (.Dict keys values pos) (kDisp h) := by
  obtain ⟨trs, pr, tr⟩ := hd.ex
  refine pe_imp (pe_disp pr hall hl h0 h15) fun σ H Q => ?_
  rintro ⟨Hf, s, φ, l, s', g, e, q⟩ p hp
  obtain ⟨⟨ps, s1⟩, h1, h2⟩ := R.bind_eq_ok.mp e
  simp only at h2
  split at h2
  · rename_i hz
    cases h2
    have b0 : Bag w σ H Hf (Own s φ) [.ref p] [.t (.dct [])] [p] (upd H p (.dK [])) Hf s φ :=
      ⟨g.updH hp, .cons (.t (.dct upd_same .nil) fun a ha => by rw [List.mem_singleton] at ha; subst ha; exact ⟨g.hf_none hp, g.own_ne hp⟩) .nil (fun _ _ h => nomatch h), Stp.updH hp fun a z => z.imp id fun z => by simpa using z⟩
    refine tr σ _ Hf s φ H Hf (Own s φ) p ps _ _ b0 h1 fun kvs H1 Hf1 φ1 b1 r1 _ => ?_
    obtain ⟨o1, n1⟩ := b1.one
    obtain ⟨n1, n2⟩ := n1 p (by simp)
    cases o1 with
    | dct hp1 r0 =>
      cases r0
      refine ⟨hp1, kvs, rfl, by rw [r1.length]; exact hz, ?_⟩
      exact q (.ref p) _ Hf1 φ1 [p] (b1.g.updO n1 n2) (.t (.dct upd_same (merge_rp r1 .nil)) fun a ha => by rw [List.mem_singleton] at ha; subst ha; exact ⟨n1, n2⟩) (b1.k.updO (.inr (by simp)) n1)
  · cases h2
/-- {} -/
theorem ge_disp0 : GE w X (.Dict [] [] pos) (kDisp dNil) := pe_imp pe_dnewK fun σ H Q => by
  rintro ⟨Hf, s, φ, l, s', g, e, q⟩
  cases e
  exact fun p hp => q.dct g .nil hp

/-! ### the source -/
theorem Good.updM {a : Addr} {o : HO} {i : Nat} {t t' : T} (g : Good w σ H Hf s φ) (h : s[i]? = some (some t)) (m : a ∈ φ i) {v : V} (hv : σ[i]? = some (some v)) (r : OR w Hf (upd H a o) v t' (φ i)) :
    Good w σ (upd H a o) Hf (s.set i (some t')) φ ∧ ∀ x, Own (s.set i (some t')) φ x → Own s φ x := by
  have hf : Hf a = none := g.fr i t a h m
  have fix : ∀ {j : Nat} {u : T}, (s.set i (some t'))[j]? = some (some u) → ∃ u0, s[j]? = some (some u0) := fun {j u} q => by
    rcases set_at q with ⟨rfl, _, _⟩ | ⟨_, q⟩
    · exact ⟨_, h⟩
    · exact ⟨_, q⟩
  refine ⟨⟨fun x u q => ?_, by rw [List.length_set]; exact g.len, fun j u q => ?_, fun j u x q m => ?_, fun j k u u' x q1 q2 m1 m2 => ?_⟩, fun x q => ?_⟩
  · have : x ≠ a := fun z => by rw [z, hf] at q; cases q
    rw [upd_ne this]; exact g.sub x u q
  · rcases set_at q with ⟨rfl, rfl, _⟩ | ⟨z, q⟩
    · exact ⟨v, hv, r⟩
    · obtain ⟨v', e1, r'⟩ := g.here j u q
      refine ⟨v', e1, r'.stay (Sub.refl _) fun x hx u' q' => ?_⟩
      have : x ≠ a := fun y => z (g.dj j i u t x q h hx (by rw [y]; exact m))
      rw [upd_ne this]; exact q'
  · obtain ⟨u0, q0⟩ := fix q
    exact g.fr j u0 x q0 m
  · obtain ⟨u1, q1⟩ := fix q1
    obtain ⟨u2, q2⟩ := fix q2
    exact g.dj j k u1 u2 x q1 q2 m1 m2
  · obtain ⟨j, u, q, m⟩ := q
    obtain ⟨u0, q0⟩ := fix q
    exact ⟨j, u0, q0, m⟩
theorem srcAt_ok {i : Nat} {S : Src} (h : srcAt i s = .ok S) : s[i]? = some (some (.src S)) := by
  unfold srcAt at h
  split at h
  · cases h; assumption
  · cases h
theorem Good.srcs (g : Good w σ H Hf s φ) {i : Nat} {S : Src} (h : s[i]? = some (some (.src S))) : ∃ a b, σ[i]? = some (some (.ref a)) ∧ φ i = [a, b] ∧ H a = some (.dK (srcKv b S)) ∧ H b = some (.lst (S.cells.map V.int)) := by
  obtain ⟨v, e, r⟩ := g.here i _ h
  generalize hF : φ i = F at r
  cases r with
  | src h1 h2 => exact ⟨_, _, e, rfl, h1, h2⟩
theorem ints_lst {K : PySem.W.Frag} {H : Hp} {vs : List V} {ds : List D} {ns : List Int} (r : RpA K H vs ds) (h : intsOf ds = some ns) : vs = ns.map V.int := ints_rp r h
theorem kInt_ok {f : EV} {i : Int} (h : kInt f s = .ok (i, s')) : ∃ l, f s = .ok (l, s') ∧ l.get s' = .ok (.int i) := by
  obtain ⟨⟨d, s1⟩, h1, h2⟩ := R.bind_eq_ok.mp h
  obtain ⟨l, h3, h4⟩ := kG_ok h1
  simp only at h2
  split at h2
  · cases h2; exact ⟨l, h3, h4⟩
  · cases h2
theorem tE_I {f : EV} {i : Int} {Z : V → Hp → Prop} (g : Good w σ H Hf s φ) (e : kInt f s = .ok (i, s'))
    (h : ∀ H' Hf' φ', Good w σ H' Hf' s' φ' → Stp H Hf (Own s φ) H' Hf' (Own s' φ') → Z (.int i) H') : tE w f σ H Z := by
  obtain ⟨l, h1, h2⟩ := kInt_ok e
  refine ⟨Hf, s, φ, l, s', g, h1, fun v H1 Hf1 φ1 F1 g1 r1 k1 => ?_⟩
  cases (r1.rw g1 h2).int
  exact h H1 Hf1 φ1 g1 (k1.weak fun a => .inl)
theorem ge_src {ec eg eh em : Expr} {f g h m : EV} {j1 j2 j3 j4 : Nat} {p1 p2 p3 p4 : Pos} (hc : GE w X ec f) (hl : GE w X eg g) (hm : GE w X eh h) (ht : GE w X em m) :
    GE w X (.Dict [some (.Constant (.str "cells") j1 p1), some (.Constant (.str "left") j2 p2), some (.Constant (.str "mixed") j3 p3), some (.Constant (.str "turn") j4 p4)] [ec, eg, eh, em] pos) (kSrc f g h m) := by
  refine pe_imp (pe_disp (pps_cons pe_str hc (pps_cons pe_str hl (pps_cons pe_str hm (pps_cons pe_str ht pps_nil)))) rfl rfl (by simp) (by show 4 ≤ 15; decide)) fun σ H Q => ?_
  rintro ⟨Hf, s, φ, l, s', gd, e, q⟩ p hp
  obtain ⟨⟨l1, s1⟩, h1, h2⟩ := R.bind_eq_ok.mp e
  simp only at h2
  split at h2
  · rename_i xs
    split at h2
    · rename_i cs hcs
      obtain ⟨⟨a, s2⟩, h3, h4⟩ := R.bind_eq_ok.mp h2
      obtain ⟨⟨b, s3⟩, h5, h6⟩ := R.bind_eq_ok.mp h4
      obtain ⟨⟨c, s4⟩, h7, h8⟩ := R.bind_eq_ok.mp h6
      cases h8
      have b0 : Bag w σ H Hf (Own s φ) [.ref p] [.t (.dct [])] [p] (upd H p (.dK [])) Hf s φ :=
        ⟨gd.updH hp, .cons (.t (.dct upd_same .nil) fun a ha => by rw [List.mem_singleton] at ha; subst ha; exact ⟨gd.hf_none hp, gd.own_ne hp⟩) .nil (fun _ _ h => nomatch h), Stp.updH hp fun a z => z.imp id fun z => by simpa using z⟩
      refine ⟨Hf, s, φ, .t (.lst xs), s1, b0.g, h1, fun v H1 Hf1 φ1 F1 g1 r1 k1 => ?_⟩
      have b1 := b0.add g1 r1 k1
      refine tE_I g1 h3 fun H2 Hf2 φ2 g2 k2 => ?_
      have b2 := b1.keep g2 k2
      refine tE_I g2 h5 fun H3 Hf3 φ3 g3 k3 => ?_
      have b3 := b2.keep g3 k3
      refine tE_I g3 h7 fun H4 Hf4 φ4 g4 k4 => ?_
      have b4 := b3.keep g4 k4
      obtain ⟨Fa, Fb, eF, ra, ca, rb, cb⟩ := b4.r.two
      cases ra with
      | lst ha rxs =>
        cases rb with
        | dct hb rk =>
          cases rk
          rename_i A vs
          obtain ⟨n1, n2⟩ := cb p (by simp)
          obtain ⟨m1, m2⟩ := ca A (by simp)
          have ev := ints_lst rxs hcs
          have ne : A ≠ p := fun z => by rw [z, hb] at ha; cases ha
          refine ⟨hb, [(Sum.inr "cells", .ref A), (Sum.inr "left", .int a), (Sum.inr "mixed", .int b), (Sum.inr "turn", .int c)], rfl, (by show 4 ≤ 15; decide), ?_⟩
          have em : mergeK [] [(Sum.inr "cells", V.ref A), (Sum.inr "left", .int a), (Sum.inr "mixed", .int b), (Sum.inr "turn", .int c)] = srcKv A ⟨cs, a, b, c⟩ := by
            rfl
          rw [em]
          refine q (.ref p) _ Hf4 φ4 [p, A] (b4.g.updO n1 n2) (.t (.src upd_same (by rw [upd_ne ne, ← ev]; exact ha)) fun x hx => ?_) ((b4.k.updO (.inr (by simp)) n1).weak fun x z => z.imp id fun z => ?_)
          · rcases List.mem_cons.mp hx with z | z
            · subst z; exact ⟨n1, n2⟩
            · rw [List.mem_singleton] at z; subst z; exact ⟨m1, m2⟩
          · rw [eF]
            rcases List.mem_cons.mp z with z | z
            · subst z; simp
            · rw [List.mem_singleton] at z; subst z; simp
    · cases h2
  · cases h2
section
variable {x : Str} {px pp apos cpos : Pos} {j : Nat}
theorem src_look {b : Addr} {S : Src} (f : SF) : valV (srcKv b S) (Sum.inr f.nm) = some (.int (f.get S)) := by
  cases f <;> rfl
theorem src_cells {b : Addr} {S : Src} : valV (srcKv b S) (Sum.inr "cells") = some (.ref b) := rfl
theorem ge_srcI (c : Cok w k X) (i : Nat) (f : SF) {nm : Str} (hn : f.nm = nm := by rfl) (hN : X.N[i]? = some x := by rfl) (hv : Vis X.env.scope x := by first | exact Or.inl rfl | exact Or.inr (Or.inl rfl) | exact Or.inr (Or.inr rfl)) (hd : (x == ("__debug__" : Str)) = false := by decide) (hcd : (x == ("__classdict__" : Str)) = false := by decide)
    (hs : PlainIx (.Constant (.str nm) j pp) := by exact fun _ _ => rfl) : GE w X (.Subscript (.Name x px) (.Constant (.str nm) j pp) pos) (kSGet i f) := by
  subst hn
  refine pe_imp (pe_ix (ix_all c) (pv i hN hv hd hcd) pe_str hs) fun σ H Q => ?_
  rintro ⟨Hf, s, φ, l, s', g, e, q⟩
  obtain ⟨S, h1, h2⟩ := R.bind_eq_ok.mp e
  cases h2
  obtain ⟨a, b, e1, _, ha, hb⟩ := g.srcs (srcAt_ok h1)
  exact ⟨_, e1, .inr (.inr ⟨a, _, rfl, by have := DGet.k (k := Sum.inr f.nm) ha; rw [src_look f] at this; exact this, q.d g (.int _)⟩)⟩
/-- len(source["cells"]) -/
theorem ge_srcLen (hm : X.mg "len" = none) (c : Cok w k X) (i : Nat) {lp : Pos} (hN : X.N[i]? = some x := by rfl) (hv : Vis X.env.scope x := by first | exact Or.inl rfl | exact Or.inr (Or.inl rfl) | exact Or.inr (Or.inr rfl)) (hd : (x == ("__debug__" : Str)) = false := by decide) (hcd : (x == ("__classdict__" : Str)) = false := by decide)
    (hs : PlainIx (.Constant (.str "cells") j pp) := by exact fun _ _ => rfl) (hg : Gl X "len" := by rfl) (he : starEach [.Subscript (.Name x px) (.Constant (.str "cells") j pp) apos] X.env = (false, eval (.Subscript (.Name x px) (.Constant (.str "cells") j pp) apos) X.env) :: starEach [] X.env := by rfl) :
    GE w X (.Call (.Name "len" lp) [.Subscript (.Name x px) (.Constant (.str "cells") j pp) apos] [] pos) (kSLen i) := by
  refine pe_imp (pe_callB call_len hg hm PySem.boot_len (pa_cons (pe_ix (ix_all c) (pv i hN hv hd hcd) pe_str hs) pa_nil he) (by decide) (by decide) he) fun σ H Q => ?_
  rintro ⟨Hf, s, φ, l, s', g, e, q⟩
  obtain ⟨S, h1, h2⟩ := R.bind_eq_ok.mp e
  cases h2
  obtain ⟨a, b, e1, _, ha, hb⟩ := g.srcs (srcAt_ok h1)
  have hg := DGet.k (k := Sum.inr "cells") ha
  rw [src_cells] at hg
  exact ⟨_, e1, .inr (.inr ⟨a, _, rfl, hg, _, S.cells.length, rfl, .inl ⟨_, SqL.of hb, by simp⟩, q.d g (.int _)⟩)⟩
theorem ge_srcPop (c : Cok w k X) (i : Nat) (hN : X.N[i]? = some x := by rfl) (hv : Vis X.env.scope x := by first | exact Or.inl rfl | exact Or.inr (Or.inl rfl) | exact Or.inr (Or.inr rfl)) (hd : (x == ("__debug__" : Str)) = false := by decide) (hcd : (x == ("__classdict__" : Str)) = false := by decide)
    (hs : PlainIx (.Constant (.str "cells") j pp) := by exact fun _ _ => rfl)
    (hbase : attributeBase (.Subscript (.Name x px) (.Constant (.str "cells") j pp) pos) "pop" X.env (eval (.Subscript (.Name x px) (.Constant (.str "cells") j pp) pos) X.env) = eval (.Subscript (.Name x px) (.Constant (.str "cells") j pp) pos) X.env := by rfl) (hline : (apos.endLine == cpos.line) = true := by rfl) :
    GE w X (.Call (.Attribute (.Subscript (.Name x px) (.Constant (.str "cells") j pp) pos) "pop" apos) [] [] cpos) (kSPop i) := by
  refine pe_imp (pe_bm0 PySem.F.plainAttrs_list PySem.F.slot_list_pop PySem.F.type_list_pop mt_pop (pe_ix (ix_all c) (pv i hN hv hd hcd) pe_str hs) hbase hline) fun σ H Q => ?_
  rintro ⟨Hf, s, φ, l, s', g, e, q⟩
  obtain ⟨S, h1, h2⟩ := R.bind_eq_ok.mp e
  have hS := srcAt_ok h1
  obtain ⟨a, b, e1, p1, ha, hb⟩ := g.srcs hS
  split at h2
  · rename_i z hz
    cases h2
    have hg := DGet.k (k := Sum.inr "cells") ha
    rw [src_cells] at hg
    have ne : a ≠ b := fun z => by rw [z, hb] at ha; cases ha
    refine ⟨_, e1, .inr (.inr ⟨a, _, rfl, hg, .inl ⟨rfl, _, SqL.of hb⟩, b, _, .int z, rfl, rfl, hb, by simp only [List.length_map, List.getElem?_map, hz]; rfl, ?_⟩)⟩
    have el : (S.cells.map V.int).dropLast = S.cells.dropLast.map V.int := by rw [List.map_dropLast]
    rw [el]
    have mb : b ∈ φ i := by rw [p1]; simp
    obtain ⟨g2, o2⟩ := g.updM (o := .lst (S.cells.dropLast.map V.int)) (t' := .src { S with cells := S.cells.dropLast }) hS mb e1 (by
      rw [p1]
      exact .src (by rw [upd_ne ne]; exact ha) upd_same)
    exact q (.int z) _ Hf φ [] g2 (.d (.int z)) ((Stp.refl.updO ⟨i, _, hS, mb⟩ (g.fr i _ b hS mb)).weak fun y z => z.elim (o2 y) fun z => nomatch z)
  · cases h2
theorem src_put {b : Addr} {S : Src} (f : SF) (y : Int) : putK (srcKv b S) (Sum.inr f.nm) (.int y) = srcKv b (f.put y S) := by
  cases f <;> rfl
theorem gs_srcPut (c : Cok w k X) (i : Nat) (f : SF) {nm : Str} {e : Expr} {fe : EV} {spos : Pos} (he : GE w X e fe) (hn : f.nm = nm := by rfl) (hN : X.N[i]? = some x := by rfl) (hv : Vis X.env.scope x := by first | exact Or.inl rfl | exact Or.inr (Or.inl rfl) | exact Or.inr (Or.inr rfl)) (hd : (x == ("__debug__" : Str)) = false := by decide) (hcd : (x == ("__classdict__" : Str)) = false := by decide)
    (ha : ∀ v, assign (.Subscript (.Name x px) (.Constant (.str nm) j pp) spos) X.env v = (do
      let ov ← holding [v] (eval (.Name x px) X.env)
      let iv ← holding [v, ov] (eval (.Constant (.str nm) j pp) X.env)
      standAt spos
      holding [v, ov, iv] (setItem ov iv v)
      release [v, ov, iv] []) := by intro _; rfl)
    (hs : swapsWithSole [.Subscript (.Name x px) (.Constant (.str nm) j pp) spos] e pos.line X.env = pure false := by rfl) (hw : swappedStores [.Subscript (.Name x px) (.Constant (.str nm) j pp) spos] e X.env = pure none := by rfl)
    (h1 : (assignEach [.Subscript (.Name x px) (.Constant (.str nm) j pp) spos] X.env).map (·.2) = [assign (.Subscript (.Name x px) (.Constant (.str nm) j pp) spos) X.env] := by rfl) :
    GS w io X (.Assign [.Subscript (.Name x px) (.Constant (.str nm) j pp) spos] e pos) (sSPut i f fe) := by
  subst hn
  refine ps_imp (ps_asg he (pg_sub (pv i hN hv hd hcd) pe_str (set_any c) ha) hs hw h1) fun D σ H => ?_
  rintro ⟨Hf, s, φ, fl, s', g, e, q⟩
  obtain ⟨S0, h2, h3⟩ := R.bind_eq_ok.mp e
  obtain ⟨⟨y, s1⟩, h4, h5⟩ := R.bind_eq_ok.mp h3
  obtain ⟨S, h6, h7⟩ := R.bind_eq_ok.mp h5
  cases h7
  obtain ⟨a0, b0, e0, _⟩ := g.srcs (srcAt_ok h2)
  refine tE_I g h4 fun H1 Hf1 φ1 g1 k1 => ?_
  have hS := srcAt_ok h6
  obtain ⟨a, b, e1, p1, ha, hb⟩ := g1.srcs hS
  rw [e0] at e1
  cases e1
  have ne : b ≠ a0 := fun z => by rw [z, ha] at hb; cases hb
  have ma : a0 ∈ φ1 i := by rw [p1]; simp
  obtain ⟨g2, o2⟩ := g1.updM (o := .dK (srcKv b (f.put y S))) (t' := .src (f.put y S)) hS ma e0 (by
    rw [p1]
    refine .src upd_same ?_
    rw [upd_ne ne]
    cases f <;> exact hb)
  refine ⟨_, e0, .inr ⟨a0, _, rfl, DPut.k (k := Sum.inr f.nm) (v := .int y) ha (by show 4 < sizeLine; decide), ?_⟩⟩
  rw [src_put]
  exact q σ _ Hf1 φ1 g2 ((k1.updO ⟨i, _, hS, ma⟩ (g1.fr i _ a0 hS ma)).weak o2) Kp.refl
end
end
end KV

set_option Elab.async false
set_option linter.all false
set_option maxRecDepth 100000
set_option maxHeartbeats 4000000
/-! KVQ: the script that is handed in; a law by its denotation. -/
namespace KV
open PySem L2
open PySem.Spec PyProof.Rows

def scrAt (i : Nat) (s : Sl) : R (List Int) := match s[i]? with
  | some (some (.scr ns)) => .ok ns
  | _ => .no
def iScr (i : Nat) : IV := fun s => (scrAt i s).bind fun ns => .ok (ns.map PyData.int, s)
/-- an argument that is passed on as it is -/
def cPass (i : Nat) (g : CV) : CV := fun s => match s[i]? with
  | some (some (.scr ns)) => (g s).bind fun q => .ok (.f (.scr ns) :: q.1, q.2)
  | some (some (.clo n f)) => (g s).bind fun q => .ok (.f (.clo n f) :: q.1, q.2)
  | _ => .no

section
variable {w : Wd} {k : Nat} {X : Cx} {pos : Pos} {σ : L2.St} {H Hf : Hp} {s s' : Sl} {φ : Nat → List Addr} {Q : VK} {io : List Nat}
theorem scrAt_ok {i : Nat} {ns : List Int} (h : scrAt i s = .ok ns) : s[i]? = some (some (.scr ns)) := by
  unfold scrAt at h
  split at h
  · cases h; assumption
  · cases h
theorem ints_rpa {K : PySem.W.Frag} {H : Hp} : ∀ ns : List Int, RpA K H (ns.map V.int) (ns.map PyData.int)
  | [] => .nil
  | i :: ns => .cons (.int i) (ints_rpa ns)
theorem gi_scr (c : Cok w k X) (i : Nat) {x : Str} {px : Pos} {tg : Expr} (hN : X.N[i]? = some x := by rfl) (hv : Vis X.env.scope x := by first | exact Or.inl rfl | exact Or.inr (Or.inl rfl) | exact Or.inr (Or.inr rfl)) (hd : (x == ("__debug__" : Str)) = false := by decide) (hcd : (x == ("__classdict__" : Str)) = false := by decide) : GI w X tg (.Name x px) (iScr i) := by
  refine pi_imp (pi_any (pv i hN hv hd hcd)) fun σ H Rv => ?_
  rintro ⟨Hf, s, φ, ds, s', gd, e, q⟩
  obtain ⟨ns, h1, h2⟩ := R.bind_eq_ok.mp e
  cases h2
  obtain ⟨v, e1, r⟩ := gd.here i _ (scrAt_ok h1)
  generalize φ i = F at r
  cases r with
  | scr hs =>
    refine ⟨_, e1, _, _, rfl, .inl ⟨by rw [c.K]; exact gd.sub.sqL hs, ?_⟩⟩
    rw [c.K]
    refine q _ H Hf φ gd Stp.refl ⟨fun i H1 Hf1 s1 s2 hi => ?_, fun H1 Hf1 s1 s2 => ?_, fun i H1 Hf1 y H' d s1 s2 hd y1 => ?_⟩
    · obtain ⟨v, hv, _⟩ := (ints_rpa (K := w.K) (H := Hf) ns).get (List.getElem?_eq_getElem hi)
      exact ⟨_, v, s2.sqL (s1.sqL hs), hv⟩
    · exact ⟨_, s2.sqL (s1.sqL hs), by simp⟩
    · obtain ⟨v, hv, rv⟩ := (ints_rpa (K := w.K) (H := Hf1) ns).get hd
      have := y1.2 _ (s2.sqL (s1.sqL hs))
      rw [hv] at this
      cases this
      exact ⟨y1.1, rv⟩
theorem gr_pass (i : Nat) {x : Str} {px : Pos} {es : List Expr} {g : CV} {p : List Bool} (hr : GR w X es g p) (hN : X.N[i]? = some x := by rfl) (hv : Vis X.env.scope x := by first | exact Or.inl rfl | exact Or.inr (Or.inl rfl) | exact Or.inr (Or.inr rfl)) (hd : (x == ("__debug__" : Str)) = false := by decide) (hcd : (x == ("__classdict__" : Str)) = false := by decide)
    (hs : starEach (.Name x px :: es) X.env = (false, eval (.Name x px) X.env) :: starEach es X.env := by rfl) : GR w X (.Name x px :: es) (cPass i g) (false :: p) := by
  refine pa_imp (pa_cons (pv i hN hv hd hcd) hr hs) fun σ H Q => ?_
  rintro ⟨Hf, s, φ, as, s', gd, e, q⟩
  have go : ∀ t, s[i]? = some (some t) → (∀ v F, OR w Hf H v t F → F = []) → (g s).bind (fun q => .ok (AR.f t :: q.1, q.2)) = R.ok (as, s') → ∃ v, σ[i]? = some (some v) ∧ tR w g p σ H fun vs H2 => Q (v :: vs) H2 := fun t ht hF e => by
    obtain ⟨⟨as', s2⟩, h3, h4⟩ := R.bind_eq_ok.mp e
    cases h4
    obtain ⟨v, hv, r⟩ := gd.here i t ht
    have eF := hF v _ r
    rw [eF] at r
    exact ⟨v, hv, Hf, s, φ, as', _, gd, h3, fun vs H2 Hf2 φ2 g2 r2 p2 k2 => q (v :: vs) H2 Hf2 φ2 g2 (.cons (.f (r.stay k2.sub fun a h => nomatch h)) r2) (by rw [List.map_cons, p2]; rfl) k2⟩
  unfold cPass at e
  split at e
  · rename_i ns ht
    exact go _ ht (fun v F r => by cases r; rfl) e
  · rename_i n f ht
    exact go _ ht (fun v F r => by cases r; rfl) e
  · cases e
end

/-! ### a law -/
def W0 (K : PySem.W.Frag) : Wd := ⟨K, fun _ _ _ _ => False, fun _ h => h⟩
theorem law_callG {P : Program} {w0 : World} {K : PySem.W.Frag} {mg mb : Str → Option Value} {k : Nat} {fa a : Addr} {fd : FuncData} {x : Str} {sp : Sp} {st : Shared} {vs : List Value} {ns : List Int}
    (inK : K.In st.heap) (nsM : st.heap.Ns mainGlobals mg) (nsB : st.heap.Ns builtinsNs mb) (boot : ∀ y : Str, y ≠ "__name__" → mb y = bootBuiltins y) (noLim : st.heap.NoLimit) (noGen : st.gens = #[])
    (atA : st.heap.get? a = some { cls := .type "list", data := .seq vs.toArray }) (areInts : IntsAre vs ns) (short : ns.length ≤ sizeLine) (room : Room k callerA)
    (F : ∀ base : Heap, K.In base → base.Ns mainGlobals mg → FnG P w0 K mg base k fa fd [x] sp) (binds : ∀ (s : Shared) (u : Value), BindsTo s fd ⟨[u], []⟩ [(x, u)])
    (want : ∀ H : Hp, SqL K H a (ns.map V.int) → sp [.ref a] H (fun v _ => v = .bl true) fun _ _ _ => False) :
    codeAny (model P w0) callerA (.call (.ref fa) ⟨[.ref a], []⟩) (fun r s' => r = .ok (.ret (.bool true)) ∧ OldK st.heap s'.heap ∧ s'.os = st.os ∧ AllBare s'.gens) st := by
  have rel := vals_ints areInts
  have lenV := areInts.length
  have main : ∀ H : Hp, (∀ b u, H b = some u → b = a ∧ K.lookup a = none ∧ ∃ o ys, u = .frz o (.lst ys)) → SqL K H a (ns.map V.int) → HOk P w0 H st.heap →
      codeAny (model P w0) callerA (.call (.ref fa) ⟨[.ref a], []⟩) (fun r s' => r = .ok (.ret (.bool true)) ∧ OldK st.heap s'.heap ∧ s'.os = st.os ∧ AllBare s'.gens) st := by
    intro H only sq hok
    have keepB : ∀ {b : Addr} {o : Obj}, st.heap.get? b = some o → H b = none → (hidT st.heap H).get? b = some o := fun e n => hidT_get e n
    have freeD : ∀ {b : Addr} {o : Obj} {es : Array DictEntry} {ep : Nat}, st.heap.get? b = some o → o.data = .dict es ep → H b = none := fun {b o es ep} e d => by
      cases q : H b with
      | none => rfl
      | some u =>
        obtain ⟨rfl, _⟩ := only b u q
        rw [atA] at e
        cases e
        exact nomatch (show Data.seq vs.toArray _ = Data.dict es ep from d)
    have nsH : ∀ {b : Addr} {m : Str → Option Value}, st.heap.Ns b m → (hidT st.heap H).Ns b m := fun ⟨o, es, ep, e, d, r⟩ => ⟨o, es, ep, keepB e (freeD e d), d, r⟩
    have inH : K.In (hidT st.heap H) := fun b o e => keepB (inK b o e) (by
      cases q : H b with
      | none => rfl
      | some u =>
        obtain ⟨rfl, z, _⟩ := only b u q
        rw [z] at e; cases e)
    have modH : Mod K mg (hidT st.heap H) := ⟨inH, nsH nsM, ⟨mb, nsH nsB, boot⟩, let ⟨mc, h1, h2⟩ := noLim; ⟨mc, nsH h1, h2⟩⟩
    have env0 : Env0 P w0 K mg (hidT st.heap H) callerA [] st H := ⟨rfl, modH, fun b o e => of_hidT e, Nat.le_of_eq (hidT_size _ _), trivial, fun b hb => (nomatch (show b ∈ ([] : List Addr) from hb)), hok, .of_eq noGen⟩
    refine codeAny_mono ((F _ inH (nsH nsM)).run callerA [] st H ⟨[.ref a], []⟩ [.ref a] [.ref a] _ _ room rfl env0 (binds st (.ref a)) (.cons rfl .nil) (want H sq)) fun r s' h => ?_
    cases r with
    | error e => exact False.elim h
    | ok fl =>
      cases fl with
      | next => exact False.elim h
      | brk => exact False.elim h
      | cont => exact False.elim h
      | ret u =>
        obtain ⟨v, H', os, bare, un, hok', rv, q⟩ := h
        obtain rfl : v = .bl true := q
        obtain rfl : u = Value.bool true := rv
        refine ⟨rfl, OldK.of_keep fun b o e => ?_, os, bare⟩
        cases q : H b with
        | none => exact un.keep b o e q (fun z => nomatch (show b ∈ ([] : List Addr) from z)) (by simp)
        | some u =>
          obtain ⟨rfl, _, ob, ys, rfl⟩ := only b u q
          obtain ⟨e1, _⟩ := hok _ _ q
          obtain ⟨e2, _⟩ := hok' _ _ (un.frzs _ ob _ q)
          rw [e] at e1
          cases e1
          exact e2
  cases hk : K.lookup a with
  | some o =>
    have e := inK a o hk
    rw [atA] at e
    cases e
    exact main (fun _ => none) (fun b u z => nomatch z) (.inr ⟨_, vs.toArray, _, hk, rfl, rfl, rfl, by rw [List.size_toArray, lenV]; exact short, by simpa using rel⟩) (fun b u z => nomatch z)
  | none =>
    have only : ∀ b u, (if b = a then some (HO.frz { cls := .type "list", data := .seq vs.toArray } (.lst (ns.map V.int))) else none) = some u → b = a ∧ u = .frz { cls := .type "list", data := .seq vs.toArray } (.lst (ns.map V.int)) := fun b u z => by
      by_cases hb : b = a
      · rw [if_pos hb] at z; cases z; exact ⟨hb, rfl⟩
      · rw [if_neg hb] at z; cases z
    refine main (fun b => if b = a then some (.frz { cls := .type "list", data := .seq vs.toArray } (.lst (ns.map V.int))) else none) (fun b u z => ?_) (.inl (.inr ⟨_, if_pos rfl⟩)) fun b u z => ?_
    · obtain ⟨rfl, rfl⟩ := only b u z
      exact ⟨rfl, hk, _, _, rfl⟩
    · obtain ⟨rfl, rfl⟩ := only b u z
      exact ⟨atA, by rw [List.length_map]; exact short, vs, _, rel, atA⟩
theorem walkG {l : PySem.W.OpenLaw} {k : Nat} {q : Program} {loose : List Str} {XP : (Str → Option Value) → Heap → Prop} {YP : World → Heap → Prop} {d : DefRec} {K : Params → PySem.W.Frag} {x : Str} {dl : Def}
    (hn : l.most = some 63) (hdf : d.params.defaults = []) (room : Room k callerA) (hY : ∀ (w : World) (h : Heap), YP w h → (K w.params).In h)
    (F : ∀ (w : World) (mg : Str → Option Value) (fa : Addr) (h : Heap), (K w.params).In h → h.Ns mainGlobals mg → mg d.name = some (.ref fa) →
      ∃ fd : FuncData, (∀ (s : Shared) (u : Value), BindsTo s fd ⟨[u], []⟩ [(x, u)]) ∧ ∀ base : Heap, (K w.params).In base → base.Ns mainGlobals mg → FnG l.prog w (K w.params) mg base k fa fd [x] (spD (W0 (K w.params)) 1 dl))
    (plain : ∀ ns : List Int, ns.length ≤ 63 → dl.run [.scr ns] = .ok (.val (.bool true), [])) (hio : dl.io = []) : PySem.W.WalkO q loose XP YP l.row.toRowW d [] (fun f vs => PySem.call f vs) := by
  refine Att.attach_call hn hdf fun w s₀ st mg mb fa o pm cd doc a vs ns G Y ho hd hcd hmg hobj hints hlen hg => ?_
  have inK := hY w _ Y
  obtain ⟨fd, hb, hF⟩ := F w mg fa _ inK G.T.g hmg
  refine law_callG inK G.T.g G.T.b G.T.builtins G.T.nolimit hg hobj hints (Nat.le_trans hlen (by decide)) room hF hb fun H sq => ?_
  refine ⟨H, [.scr ns], fun _ => [], .val (.bool true), [], rfl, ⟨Sub.refl _, rfl, fun i t e => ?_, fun i t a e m => (nomatch m), fun i j t u a e1 e2 m => (nomatch m)⟩, plain ns hlen, fun v H' Hf' ψ F g r _ _ => ?_⟩
  · match i, e with
    | 0, e =>
      cases e
      exact ⟨.ref a, rfl, .scr sq⟩
    | i + 1, e => simp at e
  · cases r with
    | val r => cases r; rfl
end KV

set_option Elab.async false
set_option linter.all false
set_option maxRecDepth 100000
set_option maxHeartbeats 4000000
/-! KVR: comparisons as tests; what is never come to. -/
namespace KV
open PySem L2
open PySem.Spec PyProof.Rows
def sNever : SV := fun _ => .no
def bIfE (c f g : BV) : BV := fun s => (c s).bind fun r => if r.1 then f r.2 else g r.2
section
variable {w : Wd} {k : Nat} {X : Cx} {pos p2 : Pos} {a b : Expr} {f f' : EV} {io : List Nat}
theorem gs_never {st : Stmt} : GS w io X st sNever := ps_imp ps_never fun D σ H h => by
  obtain ⟨Hf, s, φ, fl, s', g, e, q⟩ := h
  cases e
theorem gss_never {sts : List Stmt} : GSs w io X sts sNever := pss_imp pss_never fun D σ H h => by
  obtain ⟨Hf, s, φ, fl, s', g, e, q⟩ := h
  cases e
theorem gb_eq (c : Cok w k X) (ha : GE w X a f) (hb : GE w X b f') (hm : behindInMarks .Eq b = false := by rfl) : GB w X (.Compare a [.Eq] [b] pos) (bVal (k2 pEq f f')) := gb_cmp (op_eqD (by have := c.u; omega)) (u_eq c) ha hb hm
theorem gb_ne (c : Cok w k X) (ha : GE w X a f) (hb : GE w X b f') (hm : behindInMarks .NotEq b = false := by rfl) : GB w X (.Compare a [.NotEq] [b] pos) (bVal (k2 pNe f f')) := gb_cmp (op_neD (by have := c.u; omega)) (u_ne c) ha hb hm
theorem gb_lt (ha : GE w X a f) (hb : GE w X b f') (hm : behindInMarks .Lt b = false := by rfl) : GB w X (.Compare a [.Lt] [b] pos) (bVal (k2 pLt f f')) := gb_cmp o_lt u_lt ha hb hm
theorem gb_le (ha : GE w X a f) (hb : GE w X b f') (hm : behindInMarks .LtE b = false := by rfl) : GB w X (.Compare a [.LtE] [b] pos) (bVal (k2 pLe f f')) := gb_cmp o_le u_le ha hb hm
theorem gb_gt (ha : GE w X a f) (hb : GE w X b f') (hm : behindInMarks .Gt b = false := by rfl) : GB w X (.Compare a [.Gt] [b] pos) (bVal (k2 pGt f f')) := gb_cmp o_gt u_gt ha hb hm
theorem gb_ge (ha : GE w X a f) (hb : GE w X b f') (hm : behindInMarks .GtE b = false := by rfl) : GB w X (.Compare a [.GtE] [b] pos) (bVal (k2 pGe f f')) := gb_cmp o_ge u_ge ha hb hm
theorem gb_in (c : Cok w k X) (ha : GE w X a f) (hb : GE w X b f') (hm : behindInMarks .In b = false := by rfl) : GB w X (.Compare a [.In] [b] pos) (bVal (k2 pIn f f')) :=
  gb_cmp (op_inA c) (u_inN c false fun d e l h => by obtain ⟨b, rfl⟩ := pIn_bool h; exact ⟨b, h, rfl⟩) ha hb hm
theorem gb_notIn (c : Cok w k X) (ha : GE w X a f) (hb : GE w X b f') (hm : behindInMarks .NotIn b = false := by rfl) : GB w X (.Compare a [.NotIn] [b] pos) (bVal (k2 pNotIn f f')) :=
  gb_cmp (op_notInA c) (u_inN c true fun d e l h => by
    unfold pNotIn at h
    obtain ⟨l', h1, h2⟩ := R.bind_eq_ok.mp h
    obtain ⟨b, rfl⟩ := pIn_bool h1
    cases h2
    exact ⟨b, h1, rfl⟩) ha hb hm
theorem gb_isN {j : Nat} (ha : GE w X a f) : GB w X (.Compare a [.Is] [.Constant .none j p2] pos) (bVal (k1 pIsN f)) :=
  pt_imp (pt_cmpR op_isN ha pe_non rfl) fun σ H Q h => tE_1 (r := fun v H1 Q => V.non = .non ∧ Q (.bl (decide (v = .non))) H1) (fun σ H Hf s φ v d l Q g r hp q => by
    cases hp
    rw [r.isN]
    exact ⟨rfl, q.d g (.bl _)⟩) (tB_val h)
theorem gb_notN {j : Nat} (ha : GE w X a f) : GB w X (.Compare a [.IsNot] [.Constant .none j p2] pos) (bVal (k1 pNotN f)) :=
  pt_imp (pt_cmpR op_notN ha pe_non rfl) fun σ H Q h => tE_1 (r := fun v H1 Q => V.non = .non ∧ Q (.bl (!decide (v = .non))) H1) (fun σ H Hf s φ v d l Q g r hp q => by
    cases hp
    rw [r.isN]
    exact ⟨rfl, q.d g (.bl _)⟩) (tB_val h)
theorem gb_isB {j : Nat} {b : Bool} (ha : GE w X a f) : GB w X (.Compare a [.Is] [.Constant (.bool b) j p2] pos) (bVal (k1 (pIsB b) f)) :=
  pt_imp (pt_cmpR op_isBl ha pe_bl rfl) fun σ H Q h => tE_1 (r := fun v H1 Q => rIsB v (.bl b) H1 Q) (fun σ H Hf s φ v d l Q g r hp q => by
    unfold pIsB at hp
    split at hp
    · cases hp
      exact ⟨_, _, r.bool, rfl, q.d g (.bl _)⟩
    · cases hp) (tB_val h)
theorem gb_notB {j : Nat} {b : Bool} (ha : GE w X a f) : GB w X (.Compare a [.IsNot] [.Constant (.bool b) j p2] pos) (bVal (k1 (pNotB b) f)) :=
  pt_imp (pt_cmpR op_notBl ha pe_bl rfl) fun σ H Q h => tE_1 (r := fun v H1 Q => rNotB v (.bl b) H1 Q) (fun σ H Hf s φ v d l Q g r hp q => by
    unfold pNotB at hp
    split at hp
    · cases hp
      exact ⟨_, _, r.bool, rfl, q.d g (.bl _)⟩
    · cases hp) (tB_val h)
end
end KV

set_option Elab.async false
set_option linter.all false
set_option maxRecDepth 100000
set_option maxHeartbeats 4000000
/-! KVT: a comprehension over a list of one's own, which stays one's own. -/
namespace KV
open PySem L2
open PySem.Spec PyProof.Rows
section
variable {w : Wd} {k : Nat} {X : Cx} {pos : Pos} {σ : L2.St} {H Hf : Hp} {s s' : Sl} {φ : Nat → List Addr} {Q : VK}
/-- the list is put aside meanwhile -/
def kCompO (i : Nat) (g : GV) (c : Option BV) (f : EV) (own : List Nat) : EV := fun s => match s[i]? with
  | some (some (.lst xs)) => (compD g c f own xs (s.set i none)).bind fun q => if szOk q.1.length then .ok (.t (.lst q.1), q.2.set i (some (.lst xs))) else .no
  | _ => .no
def tIO (w : Wd) (i : Nat) : TI := fun σ H Rv => ∃ Hf s φ xs, Good w σ H Hf s φ ∧ s[i]? = some (some (.lst xs)) ∧ ∀ a us, σ[i]? = some (some (.ref a)) → H a = some (.lst us) → RpA w.K Hf us xs → a ∈ φ i → Rv (Itl w.K a) H
theorem gi_own (c : Cok w k X) (i : Nat) {tg : Expr} {x : Str} (hN : X.N[i]? = some x := by rfl) (hv : Vis X.env.scope x := by first | exact Or.inl rfl | exact Or.inr (Or.inl rfl) | exact Or.inr (Or.inr rfl)) (hd : (x == ("__debug__" : Str)) = false := by decide)
    (hcd : (x == ("__classdict__" : Str)) = false := by decide) : PI X tg (.Name x pos) (tIO w i) := by
  refine pi_imp (pi_any (pe_var hN hv hd hcd)) fun σ H Rv => ?_
  rintro ⟨Hf, s, φ, xs, gd, hs, q⟩
  obtain ⟨v, e1, r⟩ := gd.here i _ hs
  have key : ∀ F, OR w Hf H v (.lst xs) F → φ i = F → ∃ a us, v = .ref a ∧ H a = some (.lst us) ∧ RpA w.K Hf us xs ∧ a ∈ φ i := fun F r hF => by
    cases r with
    | lst h r => exact ⟨_, _, rfl, h, r, by rw [hF]; exact List.mem_singleton.mpr rfl⟩
  obtain ⟨a, us, rfl, h1, h2, h3⟩ := key _ r rfl
  exact ⟨_, e1, a, us, rfl, .inl ⟨SqL.of h1, by rw [c.K]; exact q a us e1 h1 h2 h3⟩⟩
theorem lc_O {g : GV} {c : Option BV} {f : EV} {vs ts : List Nat} {ds rest : List D} {A a : Addr} {us : List V} {i : Nat} (gd : Good w σ H Hf s φ) (hs : s[i]? = some (some (.lst ds))) (ha : σ[i]? = some (some (.ref a))) (hu : H a = some (.lst us)) (ru : RpA w.K Hf us ds) (hm : a ∈ φ i)
    (hA : H A = none) (ht : ∀ i ∈ ts, i ∈ vs) (e : compD g c f vs ds (s.set i none) = .ok (rest, s')) (hz : rest.length ≤ 16000000) (q : PQ w σ H Hf s φ (s'.set i (some (.lst ds))) (.t (.lst rest)) Q) :
    ∃ W : Nat → Nat → Hp → Prop, (∃ m, W 0 m (upd H A (.lst []))) ∧ ∀ i m H, W i m H → ((Itl w.K a).stop i H ∧ Q (.ref A) H) ∨ ((Itl w.K a).go i H ∧ ∃ Nx : Hp → Prop, (∀ H', Nx H' → ∃ m', m' < m ∧ W (i + 1) m' H') ∧
      ∀ x H', (Itl w.K a).yld i H x H' → tG w g ts x (wipe σ vs) H' fun σ2 H2 => wipe σ2 vs = wipe σ vs ∧ tC w c σ2 H2 fun b H3 => if b = true then tE w f σ2 H3 (fun y H4 => ∃ acc, H4 A = some (.lst acc) ∧ acc.length < sizeLine ∧ Nx (upd H4 A (.lst (acc ++ [y])))) else Nx H3) := by
  obtain ⟨g1, ow1⟩ := gd.clr (i := i)
  have noOwn : ¬ Own (s.set i none) φ a := fun ⟨j, t, e1, m1⟩ => by
    obtain ⟨z1, z2⟩ := clr_at e1
    exact z1 (gd.dj i j _ _ a hs z2 hm m1).symm
  have hfa : Hf a = none := gd.fr i _ a hs hm
  have haA : a ≠ A := fun z => by rw [z, hA] at hu; cases hu
  have kA : Stp H Hf (Own (s.set i none) φ) (upd H A (.lst [])) Hf (fun a => Own (s.set i none) φ a ∨ a ∈ [A]) := Stp.updH hA fun a z => z.imp id fun z => by simpa using z
  have fA : ∀ x, (Own (s.set i none) φ x ∨ x ∈ [A]) → Hf x = none := fun x z => by
    rcases z with z | z
    · exact g1.own_free z
    · rw [List.mem_singleton] at z; subst z; exact g1.hf_none hA
  have at0 : At w σ (upd H A (.lst [])) Hf (fun a => Own (s.set i none) φ a ∨ a ∈ [A]) A [] (upd H A (.lst [])) Hf (s.set i none) φ :=
    ⟨g1.updH hA, .t (.lst upd_same .nil) fun x hx => by rw [List.mem_singleton] at hx; subst hx; exact ⟨g1.hf_none hA, g1.own_ne hA⟩, Stp.refl⟩
  have hold : ∀ {Hc Hfc sc φc das}, At w σ (upd H A (.lst [])) Hf (fun a => Own (s.set i none) φ a ∨ a ∈ [A]) A das Hc Hfc sc φc → Hc a = some (.lst us) ∧ Hfc a = none ∧ ¬ Own sc φc a := fun {Hc Hfc sc φc das} ac => by
    have hua : (upd H A (.lst [])) a = some (.lst us) := by rw [upd_ne haA]; exact hu
    have nP : ¬ (Own (s.set i none) φ a ∨ a ∈ [A]) := fun z => by
      rcases z with z | z
      · exact noOwn z
      · exact haA (List.mem_singleton.mp z)
    have nn : ¬ ((Own sc φc a ∨ a ∈ [A]) ∨ Hfc a ≠ none) := fun z => by
      rcases ac.k.new a z with z | z | z
      · exact nP z
      · exact z hfa
      · rw [hua] at z; cases z
    refine ⟨ac.k.keep a _ hua nP, ?_, fun z => nn (.inl (.inl z))⟩
    cases e1 : Hfc a with
    | none => rfl
    | some o => exact (nn (.inr (by rw [e1]; exact nofun))).elim
  let Inv1 : Nat → Hp → Prop := fun j Hc => ∃ das rest' Hfc sc φc, At w σ (upd H A (.lst [])) Hf (fun a => Own (s.set i none) φ a ∨ a ∈ [A]) A das Hc Hfc sc φc ∧ compD g c f vs (ds.drop j) sc = .ok (rest', s') ∧ das ++ rest' = rest
  refine ⟨fun j m Hc => m = ds.length - j ∧ j ≤ ds.length ∧ Inv1 j Hc, ⟨ds.length, by simp, Nat.zero_le _, [], rest, Hf, s.set i none, φ, at0, e, rfl⟩, ?_⟩
  rintro j m Hc ⟨rfl, hj, das, rest', Hfc, sc, φc, ac, ec, er⟩
  obtain ⟨hc1, hc2, hc3⟩ := hold ac
  by_cases hlt : j < ds.length
  · rw [drop_at hlt] at ec
    obtain ⟨u, hu1, hu2⟩ := ru.get (List.getElem?_eq_getElem hlt)
    refine .inr ⟨⟨us, u, SqL.of hc1, hu1⟩, fun H' => Inv1 (j + 1) H', fun H' n => ⟨ds.length - (j + 1), by omega, rfl, hlt, n⟩, fun x H' y => ?_⟩
    have hz2 : das.length + rest'.length ≤ 16000000 := by rw [← er, List.length_append] at hz; exact hz
    obtain ⟨rfl, y2⟩ := y
    have hx := y2 us (SqL.of hc1)
    rw [hu1] at hx
    cases hx
    have rx : Rp w.K Hfc u ds[j] := hu2.mono ac.k.sub
    obtain ⟨gw, ow⟩ := ac.g.wipe (σ' := wipe σ vs) (vs := vs) (wipe_length _ _) fun i hi => wipe_out hi
    have key := fun σ2 => turn_lc (σ := σ) (σ2 := σ2) (das := das) (A := A) (H0 := upd H A (.lst [])) (Hf0 := Hf) (P0 := fun a => Own (s.set i none) φ a ∨ a ∈ [A]) (Nx := fun H' => Inv1 (j + 1) H') (w := w) ec hz2 fun das' rest'' H3 Hf3 s3 φ3 a3 e3 er3 => ⟨das', rest'', Hf3, s3, φ3, a3, e3, er3.trans er⟩
    obtain ⟨s2, h2, _⟩ := key σ
    refine ⟨Hfc, _, φc, ds[j], s2, gw, rx, h2, fun σ2 φ2 g2 o2 l2 n2 => ?_⟩
    have hw := wipe_eq l2 n2 ht
    refine ⟨hw, ?_⟩
    obtain ⟨s2', h2', h3⟩ := key σ2
    rw [h2] at h2'
    cases h2'
    exact h3 _ Hfc φ2 (ac.step g2 (Stp.refl.weak fun a z => ow a (o2 a z))) hw
  · have : j = ds.length := by omega
    subst this
    rw [List.drop_length] at ec
    cases ec
    rw [List.append_nil] at er
    subst er
    refine .inl ⟨⟨us, SqL.of hc1, by rw [ru.length]; exact Nat.le_refl _⟩, ?_⟩
    obtain ⟨g3, o3⟩ := ac.g.set (v := .ref a) (t := .lst ds) (F := [a]) (i := i) (.lst hc1 (ru.mono ac.k.sub)) (fun x hx => by
      rw [List.mem_singleton] at hx
      subst hx
      exact ⟨hc2, fun j u _ e1 m1 => hc3 ⟨j, u, e1, m1⟩⟩)
    have hset : σ.set i (some (.ref a)) = σ := by
      apply List.ext_getElem?
      intro j
      rw [List.getElem?_set]
      by_cases hj : i = j
      · subst hj
        rw [if_pos rfl, ha, if_pos (List.getElem?_eq_some_iff.mp ha).1]
      · rw [if_neg hj]
    rw [hset] at g3
    have kk := kA.trans ac.k (fun _ => id) fA
    obtain ⟨acc, l1, l2, l3, l4⟩ := ac.lst
    refine q _ Hc Hfc _ [A] g3 (.t (.lst l1 l2) fun x hx => ?_) ⟨kk.sub, fun x o e1 n => kk.keep x o e1 fun z => n (ow1 x z), fun x z => ?_⟩
    · rw [List.mem_singleton] at hx
      subst hx
      refine ⟨l3, fun z => ?_⟩
      rcases o3 _ z with z | z
      · exact l4 z
      · exact haA (List.mem_singleton.mp z).symm
    · have : ((Own s' φc x ∨ x ∈ [A]) ∨ Hfc x ≠ none) ∨ x = a := by
        rcases z with (z | z) | z
        · rcases o3 _ z with z | z
          · exact .inl (.inl (.inl z))
          · exact .inr (List.mem_singleton.mp z)
        · exact .inl (.inl (.inr z))
        · exact .inl (.inr z)
      rcases this with z | rfl
      · rcases kk.new x z with z | z
        · exact .inl (ow1 x z)
        · exact .inr z
      · exact .inl ⟨i, _, hs, hm⟩
theorem tLc_O {i : Nat} {g : GV} {c : Option BV} {f : EV} {vs ts : List Nat} (ht : ∀ i ∈ ts, i ∈ vs) : tE w (kCompO i g c f vs) σ H Q → tLc (tIO w i) (tG w g ts) (tC w c) (tE w f) vs σ H Q := by
  rintro ⟨Hf, s, φ, l, s', gd, e, q⟩
  unfold kCompO at e
  split at e
  · rename_i xs hs
    obtain ⟨⟨rest, s2⟩, h3, h4⟩ := R.bind_eq_ok.mp e
    simp only at h4
    split at h4
    · rename_i hz
      cases h4
      exact ⟨Hf, s, φ, xs, gd, hs, fun a us ha hu ru hm A hA => lc_O gd hs ha hu ru hm hA ht h3 (szOk_le hz) q⟩
    · cases h4
  · cases e
/-- a, b, .. = a list -/
def gTL (gs : List GV) : GV := fun d s => match d with
  | .list ds => gAll gs ds s
  | _ => .no
theorem gg_tl {es : List Expr} {k1 n : Nat} {gs : List GV} {ts : List Nat} (c : Cok w k X) (h : GGs w X es gs ts) (hn : (assignEach es X.env).length = n := by rfl) (hl : gs.length = n := by rfl) (hst : (assignEach es X.env).findIdx? (·.1) = none := by rfl) : GG w X (.Tuple es k1 pos) (gTL gs) ts :=
  pg_imp (pg_lst c.calm h hn hst) fun v σ H Q => by
    rintro ⟨Hf, s, φ, d, s', gd, r, e, q⟩
    cases r with
    | lst hs ra => exact ⟨_, _, rfl, SqL.of (gd.sub _ _ hs), by rw [ra.length, gAll_len e, hl], Hf, s, φ, _, s', gd, ra, e, q⟩
    | non => cases e
    | bl _ => cases e
    | int _ => cases e
    | str _ => cases e
    | tup _ _ => cases e
    | dct _ _ => cases e
section
variable {elt tg iter : Expr} {ifs : List Expr} {scope : Scope} {g : GV} {c0 : Option BV} {f : EV} {ts : List Nat} {iO : Nat}
theorem ge_lcO (own : List (Str × Nat)) (c : Cok w k X) (hi : PI X tg iter (tIO w iO)) (ok : blkC X.N X.env.scope scope own = true)
    (hg : ∀ (s : Shared) (H : Hp) (C : Addr) (cl : List (Str × Addr)) (fp : List Addr), GG w (X.blk s H scope (compEnvC scope cl C X.env) fp) tg g ts) (ht : ∀ (s : Shared) (H : Hp) (C : Addr) (cl : List (Str × Addr)) (fp : List Addr), GC w (X.blk s H scope (compEnvC scope cl C X.env) fp) ifs c0)
    (he : ∀ (s : Shared) (H : Hp) (C : Addr) (cl : List (Str × Addr)) (fp : List Addr), GE w (X.blk s H scope (compEnvC scope cl C X.env) fp) elt f) (hts : ∀ i ∈ ts, i ∈ own.map (·.2) := by decide) (hs : ∀ x, foldedSetIterable iter X.env x = pure x := by intro _; rfl) :
    GE w X (.ListComp elt [⟨tg, iter, ifs, 0⟩] scope pos) (kCompO iO g c0 f (own.map (·.2))) := pe_imp (pe_lc c.calm c.nd hi (blkOk_by ok) hg ht he hs) fun _ _ _ => tLc_O hts
theorem gs_setLcO {io : List Nat} (i : Nat) (own : List (Str × Nat)) {y : Str} {py : Pos} {spos : Pos} (c : Cok w k X) (hi : PI X tg iter (tIO w iO)) (ok : blkC X.N X.env.scope scope own = true)
    (hg : ∀ (s : Shared) (H : Hp) (C : Addr) (cl : List (Str × Addr)) (fp : List Addr), GG w (X.blk s H scope (compEnvC scope cl C X.env) fp) tg g ts) (ht : ∀ (s : Shared) (H : Hp) (C : Addr) (cl : List (Str × Addr)) (fp : List Addr), GC w (X.blk s H scope (compEnvC scope cl C X.env) fp) ifs c0)
    (he : ∀ (s : Shared) (H : Hp) (C : Addr) (cl : List (Str × Addr)) (fp : List Addr), GE w (X.blk s H scope (compEnvC scope cl C X.env) fp) elt f) (hio : i ∉ io := by decide) (hy : X.N[i]? = some y := by rfl) (hyl : X.env.scope.names.lookup y = some .local := by rfl)
    (hsw : swapsWith (.ListComp elt [⟨tg, iter, ifs, 0⟩] scope pos) (some (.Name y py)) spos.line X.env = pure true := by rfl) (hts : ∀ i ∈ ts, i ∈ own.map (·.2) := by decide) (hs : ∀ x, foldedSetIterable iter X.env x = pure x := by intro _; rfl) :
    GS w io X (.Assign [.Name y py] (.ListComp elt [⟨tg, iter, ifs, 0⟩] scope pos) spos) (sSet i (kCompO iO g c0 f (own.map (·.2)))) :=
  ps_setLcI hio c.calm c.nd hy hyl hsw hi (blkOk_by ok) hg ht he hs fun _ _ _ => tLc_O hts
end
end
end KV
/-! ### texts alone, == and != -/
namespace KV
open PySem L2
open PySem.Spec PyProof.Rows
def pEqS : D → D → R L
  | .str a, .str b => bl (decide (a = b))
  | _, _ => .no
def pNeS : D → D → R L
  | .str a, .str b => bl (!decide (a = b))
  | _, _ => .no
section
variable {w : Wd} {k : Nat} {X : Cx} {pos : Pos} {a b : Expr} {f f' : EV}
theorem dec_strV {x y : Str} : decide (V.str x = V.str y) = decide (x = y) := by
  by_cases h : x = y
  · subst h; simp
  · rw [decide_eq_false h, decide_eq_false (fun z => h (V.str.inj z))]
theorem u_eqS : U2 w rEq pEqS := by
  intro σ H Hf s φ v u d e l Q g r1 r2 hp q
  unfold pEqS at hp
  split at hp
  · cases hp
    rw [r1.str, r2.str]
    exact ⟨rfl, by rw [dec_strV]; exact q.d g (.bl _)⟩
  · cases hp
theorem u_neS : U2 w rNe pNeS := by
  intro σ H Hf s φ v u d e l Q g r1 r2 hp q
  unfold pNeS at hp
  split at hp
  · cases hp
    rw [r1.str, r2.str]
    exact ⟨rfl, by rw [dec_strV]; exact q.d g (.bl _)⟩
  · cases hp
theorem ge_eqS (ha : GE w X a f) (hb : GE w X b f') (hm : behindInMarks .Eq b = false := by rfl) : GE w X (.Compare a [.Eq] [b] pos) (k2 pEqS f f') := ge_cmp op_eq u_eqS ha hb hm
theorem ge_neS (ha : GE w X a f) (hb : GE w X b f') (hm : behindInMarks .NotEq b = false := by rfl) : GE w X (.Compare a [.NotEq] [b] pos) (k2 pNeS f f') := ge_cmp op_ne u_neS ha hb hm
theorem gb_eqS (ha : GE w X a f) (hb : GE w X b f') (hm : behindInMarks .Eq b = false := by rfl) : GB w X (.Compare a [.Eq] [b] pos) (bVal (k2 pEqS f f')) := gb_cmp op_eq u_eqS ha hb hm
theorem gb_neS (ha : GE w X a f) (hb : GE w X b f') (hm : behindInMarks .NotEq b = false := by rfl) : GB w X (.Compare a [.NotEq] [b] pos) (bVal (k2 pNeS f f')) := gb_cmp op_ne u_neS ha hb hm
end
end KV

set_option Elab.async false
set_option linter.all false
set_option maxRecDepth 100000
set_option maxHeartbeats 4000000
/-! KVU: dict(zip(a, b)) of two tuples. -/
namespace KV
open PySem L2
open PySem.Spec PyProof.Rows
section
variable {prog : Program} {w : World} {A : Around} {E : Value → Shared → Prop} {s : Shared} {z TI TO T i1 i2 l1 l2 : Addr} {f : Bool} {oT : Obj} {n1 n2 : Nat} {us vs : Array Value}
theorem dz_item {x y : Value} {Q : Value → Shared → Prop} (D : ZipApart z TI TO i1 i2 l1 l2) (gz : IsZipHeld s.heap z TI TO T f) (gT : s.heap.get? T = some oT) (gI : IsPair s.heap TI (.ref i1) (.ref i2))
    (ga : s.heap.IsTupleIter i1 l1 n1) (gb : s.heap.IsTupleIter i2 l2 n2) (gl : s.heap.IsTuple l1 us) (gm : s.heap.IsTuple l2 vs) (ex : us[n1]? = some x) (ey : vs[n2]? = some y)
    (q : ∀ h', IsZipHeld h' z TI TO T true → h'.IsTupleIter i1 l1 (n1 + 1) → h'.IsTupleIter i2 l2 (n2 + 1) → IsPair h' s.heap.objs.size x y → (∀ c o, c ≠ z → c ≠ i1 → c ≠ i2 → s.heap.get? c = some o → h'.get? c = some o) → Q (.ref s.heap.objs.size) { s with heap := h' }) :
    wpAny (model prog w) A (Builtin.«zip.__next__» ⟨[.ref z], []⟩) (fun fin t => ∃ v, fin = .done (.ret v) ∧ Q v t) E s := by
  show wpAny _ _ (field (.ref z) 2 >>= _) _ _ _; refine wpAny_bind (wpAny_field gz rfl (x := .bool false) rfl ?_)
  show wpAny _ _ (field (.ref z) 3 >>= _) _ _ _; refine wpAny_bind (wpAny_field gz rfl (x := .ref TI) rfl (wpAny_bind (wpAny_seqItems gI rfl ?_)))
  show wpAny _ _ (Builtin.SmallTypes.ownedTupleIsFree (.ref z) >>= _) _ _ _; refine wpAny_bind (wpAny_tupleHeld_zip gz gT fun g1 z1 b1 => ?_)
  simp only [Bool.false_eq_true, if_false]; refine wpAny_bind ?_; rw [← Array.forIn_toList]; simp only [List.forIn_cons, List.forIn_nil]
  refine wpAny_bind (wpAny_bind (wpAny_holding ?_)); show wpAny _ _ (Builtin.SmallTypes.nextOf (.ref i1) >>= _) _ _ _
  refine wpAny_bind (RZ.nextOf_tuple_item (s := { s with heap := g1 }) (ga.extBut b1.extBut D.i1z) (gl.extBut b1.extBut D.l1z) ex fun g2 a2 b2 => wpAny_pure (wpAny_pure ?_))
  refine wpAny_bind (wpAny_bind (wpAny_holding ?_)); show wpAny _ _ (Builtin.SmallTypes.nextOf (.ref i2) >>= _) _ _ _
  refine wpAny_bind (RZ.nextOf_tuple_item (s := { s with heap := g2 }) ((gb.extBut b1.extBut D.i2z).extBut b2.extBut D.i12.symm) ((gm.extBut b1.extBut D.l2z).extBut b2.extBut D.l2i1) ey fun g3 a3 b3 => wpAny_pure (wpAny_pure (wpAny_pure ?_)))
  show wpAny _ _ (newTuple [x, y] >>= _) _ _ _; refine wpAny_bind (wpAny_newTuple ?_)
  have hs : g3.objs.size = s.heap.objs.size := by rw [b3.1, b2.1, b1.1]
  have z3 : IsZipHeld g3 z TI TO T true := b3.extBut _ _ D.i2z.symm (b2.extBut _ _ D.i1z.symm z1)
  have old : ∀ c o, c ≠ z → c ≠ i1 → c ≠ i2 → s.heap.get? c = some o → g3.get? c = some o := fun c o e1 e2 e3 e => b3.extBut _ _ e3 (b2.extBut _ _ e2 (b1.extBut _ _ e1 e))
  have a23 : g3.IsTupleIter i1 l1 (n1 + 1) := a2.extBut b3.extBut D.i12
  refine wpAny_pure ⟨_, rfl, ?_⟩; show Q (.ref g3.objs.size) _
  have pr : IsPair (g3.push { cls := .type "tuple", data := .seq #[x, y] }) g3.objs.size x y := Heap.get?_push_size _ rfl
  rw [hs] at pr ⊢
  exact q _ (Heap.get?_push_of_some _ z3) (a23.at fun o e => Heap.get?_push_of_some _ e) (a3.at fun o e => Heap.get?_push_of_some _ e) pr fun c o e1 e2 e3 e => Heap.get?_push_of_some _ (old c o e1 e2 e3 e)
theorem dz_end {Q : Fin → Shared → Prop} (hh : A.handled = none) (D : ZipApart z TI TO i1 i2 l1 l2) (gz : IsZipHeld s.heap z TI TO T f) (gT : s.heap.get? T = some oT) (gI : IsPair s.heap TI (.ref i1) (.ref i2))
    (ga : s.heap.IsTupleIter i1 l1 n1) (gb : s.heap.IsTupleIter i2 l2 n2) (gl : s.heap.IsTuple l1 us) (gm : s.heap.IsTuple l2 vs) (none_ : us[n1]? = none ∨ vs[n2]? = none)
    (q : ∀ h' e, (∀ c o, c ≠ z → c ≠ i1 → c ≠ i2 → s.heap.get? c = some o → h'.get? c = some o) → (∃ o, h'.get? e = some o ∧ o.cls = .type "StopIteration") → E (.ref e) { s with heap := h' }) :
    wpAny (model prog w) A (Builtin.«zip.__next__» ⟨[.ref z], []⟩) Q E s := by
  show wpAny _ _ (field (.ref z) 2 >>= _) _ _ _; refine wpAny_bind (wpAny_field gz rfl (x := .bool false) rfl ?_)
  show wpAny _ _ (field (.ref z) 3 >>= _) _ _ _; refine wpAny_bind (wpAny_field gz rfl (x := .ref TI) rfl (wpAny_bind (wpAny_seqItems gI rfl ?_)))
  show wpAny _ _ (Builtin.SmallTypes.ownedTupleIsFree (.ref z) >>= _) _ _ _; refine wpAny_bind (wpAny_tupleHeld_zip gz gT fun g1 z1 b1 => ?_)
  simp only [Bool.false_eq_true, if_false]; refine wpAny_bind ?_; rw [← Array.forIn_toList]; simp only [List.forIn_cons, List.forIn_nil]
  refine wpAny_bind (wpAny_bind (wpAny_holding ?_)); show wpAny _ _ (Builtin.SmallTypes.nextOf (.ref i1) >>= _) _ _ _
  cases ex : us[n1]? with
  | none => exact wpAny_bind (RZ.nextOf_tuple_end (s := { s with heap := g1 }) hh (ga.extBut b1.extBut D.i1z) (gl.extBut b1.extBut D.l1z) ex fun g2 e b2 o => q g2 e (fun c o e1 e2 _ x => b2 _ _ e2 (b1.extBut _ _ e1 x)) o)
  | some x =>
    have ey : vs[n2]? = none := none_.resolve_left (by rw [ex]; exact fun z => nomatch z)
    refine wpAny_bind (RZ.nextOf_tuple_item (s := { s with heap := g1 }) (ga.extBut b1.extBut D.i1z) (gl.extBut b1.extBut D.l1z) ex fun g2 a2 b2 => wpAny_pure (wpAny_pure ?_))
    refine wpAny_bind (wpAny_bind (wpAny_holding ?_)); show wpAny _ _ (Builtin.SmallTypes.nextOf (.ref i2) >>= _) _ _ _
    exact wpAny_bind (RZ.nextOf_tuple_end (s := { s with heap := g2 }) hh ((gb.extBut b1.extBut D.i2z).extBut b2.extBut D.i12.symm) ((gm.extBut b1.extBut D.l2z).extBut b2.extBut D.l2i1) ey fun g3 e b3 o => q g3 e (fun c o e1 e2 e3 x => b3 _ _ e3 (b2.extBut _ _ e2 (b1.extBut _ _ e1 x))) o)
theorem dz_next {x y : Value} {Q : Option Value → Shared → Prop} (D : ZipApart z TI TO i1 i2 l1 l2) (gz : IsZipHeld s.heap z TI TO T f) (gT : s.heap.get? T = some oT) (gI : IsPair s.heap TI (.ref i1) (.ref i2))
    (ga : s.heap.IsTupleIter i1 l1 n1) (gb : s.heap.IsTupleIter i2 l2 n2) (gl : s.heap.IsTuple l1 us) (gm : s.heap.IsTuple l2 vs) (ex : us[n1]? = some x) (ey : vs[n2]? = some y)
    (q : ∀ h', IsZipHeld h' z TI TO T true → h'.IsTupleIter i1 l1 (n1 + 1) → h'.IsTupleIter i2 l2 (n2 + 1) → IsPair h' s.heap.objs.size x y → (∀ c o, c ≠ z → c ≠ i1 → c ≠ i2 → s.heap.get? c = some o → h'.get? c = some o) → Q (some (.ref s.heap.objs.size)) { s with heap := h' }) :
    wpAny (model prog w) A (pyNext (.ref z)) Q E s := by
  have ty : s.TypeIs (.ref z) "zip" := ⟨_, gz, rfl⟩
  unfold pyNext
  exact wpAny_bind (wpAny_attempt (wpAny_callSpecial?_slot (name := Str.ofString "__next__") ty PySem.F.slot_zip_next (wpAny_call_entry PySem.F.slot_zip_next ty PySem.F.entry_zip_next (dz_item D gz gT gI ga gb gl gm ex ey fun h' a1 a2 a3 a4 a5 => wpAny_pure (q h' a1 a2 a3 a4 a5)) (PySem.F.args_zip_next_1 _))))
theorem dz_stop {Q : Option Value → Shared → Prop} (hh : A.handled = none) (D : ZipApart z TI TO i1 i2 l1 l2) (gz : IsZipHeld s.heap z TI TO T f) (gT : s.heap.get? T = some oT) (gI : IsPair s.heap TI (.ref i1) (.ref i2))
    (ga : s.heap.IsTupleIter i1 l1 n1) (gb : s.heap.IsTupleIter i2 l2 n2) (gl : s.heap.IsTuple l1 us) (gm : s.heap.IsTuple l2 vs) (none_ : us[n1]? = none ∨ vs[n2]? = none)
    (q : ∀ h', (∀ c o, c ≠ z → c ≠ i1 → c ≠ i2 → s.heap.get? c = some o → h'.get? c = some o) → Q none { s with heap := h' }) : wpAny (model prog w) A (pyNext (.ref z)) Q E s := by
  have ty : s.TypeIs (.ref z) "zip" := ⟨_, gz, rfl⟩
  unfold pyNext
  refine wpAny_bind (wpAny_attempt (wpAny_callSpecial?_slot (name := Str.ofString "__next__") ty PySem.F.slot_zip_next (wpAny_call_entry PySem.F.slot_zip_next ty PySem.F.entry_zip_next (dz_end hh D gz gT gI ga gb gl gm none_ fun h' e k o => ?_) (PySem.F.args_zip_next_1 _))))
  obtain ⟨o, ho, hc⟩ := o
  exact wpAny_bind (wpAny_isInstance (T := "StopIteration") (b := true) ⟨o, ho, hc⟩ isSubtype_stop (wpAny_pure (q _ k)))
/-- where the zip stands behind i pairs, while a dict is filled at d -/
def dzAt (z TI TO i1 i2 l1 l2 d : Addr) (us vs : Array Value) (i : Nat) (h : Heap) : Prop :=
  IsPair h TI (.ref i1) (.ref i2) ∧ h.IsTupleIter i1 l1 i ∧ h.IsTupleIter i2 l2 i ∧ h.IsTuple l1 us ∧ h.IsTuple l2 vs ∧
    ((IsZip h z TI TO .none ∧ ∃ a b, IsPair h TO a b) ∨ ∃ T f oT, IsZipHeld h z TI TO T f ∧ h.get? T = some oT ∧ T ≠ z ∧ T ≠ i1 ∧ T ≠ i2 ∧ T ≠ d)
def dzOk (z TI TO i1 i2 l1 l2 : Addr) (us vs : Array Value) (h : Heap) : Prop :=
  IsZip h z TI TO .none ∧ IsPair h TI (.ref i1) (.ref i2) ∧ (∃ a b, IsPair h TO a b) ∧ h.IsTupleIter i1 l1 0 ∧ h.IsTupleIter i2 l2 0 ∧ h.IsTuple l1 us ∧ h.IsTuple l2 vs
theorem dz_src (hA : A.handled = none) (D : ZipApart z TI TO i1 i2 l1 l2) {d : Addr} (off : d ∉ [z, TI, TO, i1, i2, l1, l2]) : PairSrc prog w A z d [z, TO, i1, i2] (min us.size vs.size) (fun i k v => us[i]? = some k ∧ vs[i]? = some v) (dzAt z TI TO i1 i2 l1 l2 d us vs) := by
  simp only [List.mem_cons, List.not_mem_nil, or_false, not_or] at off
  obtain ⟨dz, dI, dO, d1, d2, e1, e2⟩ := off
  refine ⟨by simp only [List.mem_cons, List.not_mem_nil, or_false, not_or]; exact ⟨dz, dO, d1, d2⟩, fun i h h' st k => ?_, fun i s Q E hi st hd q => ?_, fun s Q E st q => ?_⟩
  · obtain ⟨gI, ga, gb, gl, gm, gz⟩ := st
    refine ⟨k _ _ (Ne.symm dI) gI, ga.at fun o e => k _ o (Ne.symm d1) e, gb.at fun o e => k _ o (Ne.symm d2) e, gl.at fun o e => k _ o (Ne.symm e1) e, gm.at fun o e => k _ o (Ne.symm e2) e, ?_⟩
    rcases gz with ⟨gz, a, b, gO⟩ | ⟨T, f, oT, gz, gT, r1, r2, r3, r4⟩
    · exact .inl ⟨k _ _ (Ne.symm dz) gz, a, b, k _ _ (Ne.symm dO) gO⟩
    · exact .inr ⟨T, f, oT, k _ _ (Ne.symm dz) gz, k _ _ r4 gT, r1, r2, r3, r4⟩
  · obtain ⟨gI, ga, gb, gl, gm, gz⟩ := st
    have ex := Array.getElem?_eq_getElem (Nat.lt_of_lt_of_le hi (Nat.min_le_left us.size vs.size))
    have ey := Array.getElem?_eq_getElem (Nat.lt_of_lt_of_le hi (Nat.min_le_right us.size vs.size))
    have new : ∀ {c o}, s.heap.get? c = some o → s.heap.objs.size ≠ c := fun e => Nat.ne_of_gt (Heap.lt_size e)
    have m1 : s.heap.objs.size ≠ i1 := let ⟨_, e, _⟩ := ga; new e
    have m2 : s.heap.objs.size ≠ i2 := let ⟨_, e, _⟩ := gb; new e
    rcases gz with ⟨gz, a, b, gO⟩ | ⟨T, f, oT, gz, gT, r1, r2, r3, r4⟩
    · refine RZ.pyNext_zipT_item D gz gI gO ga gb gl gm ex ey fun h' a1 a2 a3 a4 a5 a6 k => ?_
      refine q s.heap.objs.size _ _ h' s.toks ⟨ex, ey⟩ (.inl ⟨_, a5, rfl, _, rfl⟩) ⟨k _ _ D.TIz D.TITO D.TIi1 D.TIi2 gI, a3, a4, gl.at fun o e => k _ o D.l1z D.l1TO D.l1i1 D.l1i2 e, gm.at fun o e => k _ o D.l2z D.l2TO D.l2i1 D.l2i2 e, .inr ⟨s.heap.objs.size, false, _, a1, a5, new gz, m1, m2, Nat.ne_of_gt hd⟩⟩ fun c o hc e => ?_
      exact k c o (fun y => hc (by rw [y]; simp)) (fun y => hc (by rw [y]; simp)) (fun y => hc (by rw [y]; simp)) (fun y => hc (by rw [y]; simp)) e
    · refine dz_next D gz gT gI ga gb gl gm ex ey fun h' a1 a3 a4 a5 k => ?_
      refine q s.heap.objs.size _ _ h' s.toks ⟨ex, ey⟩ (.inl ⟨_, a5, rfl, _, rfl⟩) ⟨k _ _ D.TIz D.TIi1 D.TIi2 gI, a3, a4, gl.at fun o e => k _ o D.l1z D.l1i1 D.l1i2 e, gm.at fun o e => k _ o D.l2z D.l2i1 D.l2i2 e, .inr ⟨T, true, oT, a1, k _ _ r1 r2 r3 gT, r1, r2, r3, r4⟩⟩ fun c o hc e => ?_
      exact k c o (fun y => hc (by rw [y]; simp)) (fun y => hc (by rw [y]; simp)) (fun y => hc (by rw [y]; simp)) e
  · obtain ⟨gI, ga, gb, gl, gm, gz⟩ := st
    have none_ : us[min us.size vs.size]? = none ∨ vs[min us.size vs.size]? = none := (Nat.le_total us.size vs.size).imp (fun h => Array.getElem?_eq_none (by omega)) fun h => Array.getElem?_eq_none (by omega)
    rcases gz with ⟨gz, a, b, gO⟩ | ⟨T, f, oT, gz, gT, r1, r2, r3, r4⟩
    · exact RZ.pyNext_zipT_end hA D gz gI gO ga gb gl gm none_ fun h' k => q h' s.toks fun c o hc e => k c o (fun y => hc (by rw [y]; simp)) (fun y => hc (by rw [y]; simp)) (fun y => hc (by rw [y]; simp)) (fun y => hc (by rw [y]; simp)) e
    · exact dz_stop hA D gz gT gI ga gb gl gm none_ fun h' k => q h' s.toks fun c o hc e => k c o (fun y => hc (by rw [y]; simp)) (fun y => hc (by rw [y]; simp)) (fun y => hc (by rw [y]; simp)) e
theorem dz_arg (D : ZipApart z TI TO i1 i2 l1 l2) : PairArg prog w "zip" z [z, TI, TO, i1, i2, l1, l2] [z, TO, i1, i2] (min us.size vs.size) (fun i k v => us[i]? = some k ∧ vs[i]? = some v) (dzOk z TI TO i1 i2 l1 l2 us vs) where
  type := fun s ok => ⟨_, ok.1, rfl⟩
  notDict := by decide
  keep := fun h h' ⟨gz, gI, ⟨a, b, gO⟩, ga, gb, gl, gm⟩ k => ⟨k _ _ gz, k _ _ gI, ⟨a, b, k _ _ gO⟩, ga.at fun o e => k _ o e, gb.at fun o e => k _ o e, gl.at fun o e => k _ o e, gm.at fun o e => k _ o e⟩
  there := fun h ⟨gz, gI, ⟨a, c, gO⟩, ⟨o1, ga, _⟩, ⟨o2, gb, _⟩, ⟨o3, gl, _⟩, ⟨o4, gm, _⟩⟩ b hb => by
    simp only [List.mem_cons, List.not_mem_nil, or_false] at hb
    rcases hb with rfl | rfl | rfl | rfl | rfl | rfl | rfl
    · exact ⟨_, gz⟩
    · exact ⟨_, gI⟩
    · exact ⟨_, gO⟩
    · exact ⟨_, ga⟩
    · exact ⟨_, gb⟩
    · exact ⟨_, gl⟩
    · exact ⟨_, gm⟩
  sub := fun b hb => by
    simp only [List.mem_cons, List.not_mem_nil, or_false] at hb ⊢
    rcases hb with rfl | rfl | rfl | rfl <;> simp
  noKeys := fun A s Q E hA ok h => getAttrOr_miss_zip ok.1 rfl rfl rfl zip_no_keys (by decide +kernel) hA h
  iter := fun A s d Q E hA ⟨gz, gI, gO, ga, gb, gl, gm⟩ hd off h => wpAny_pyIter_zip gz (h z [z, TO, i1, i2] _ s.heap s.toks (dz_src hA D off) ⟨gI, ga, gb, gl, gm, .inl ⟨gz, gO⟩⟩ (fun _ _ e => e) fun b hb => .inl hb)
end
/-! ### the expression -/
def kDictZip (f g : EV) : EV := fun s => (kD f s).bind fun r => (kD g r.2).bind fun q => match r.1, q.1 with
  | .tuple xs, .tuple ys => if xs.all (fun x => (keyOf x).isSome) then .ok (.t (.dct (mergeD [] (xs.zip ys))), q.2) else .no
  | _, _ => .no
def tDz (K : PySem.W.Frag) (ta : TA) : TE := fun σ H Q => ta σ H fun vs H1 => ∃ (a b : Addr) (ks : List Key) (ys : List V), vs = [.ref a, .ref b] ∧ SqT K H1 a (ks.map kV) ∧ SqT K H1 b ys ∧ ∀ p, H1 p = none → Q (.ref p) (upd H1 p (.dK (mergeK [] (ks.zip ys))))
theorem zip_kv : ∀ (ks : List Key) {ys : List V} {us : List Value}, Vals ys us → L2.KV (ks.zip ys) (ks.zip us)
  | [], _, _, _ => .nil
  | _ :: _, _, _, .nil => .nil
  | _ :: ks, _, _, .cons r t => .cons ⟨rfl, r⟩ (zip_kv ks t)
section
variable {w : Wd} {k : Nat} {X : Cx} {pos : Pos} {σ : L2.St} {H Hf : Hp} {s s' : Sl} {φ : Nat → List Addr} {Q : VK}
theorem pe_dz {e e2 : Expr} {ta : TA} {p p2 pos2 : Pos} (hcalm : X.calm = true) (hg : Gl X "dict") (hm : X.mg "dict" = none) (hg2 : Gl X "zip") (hm2 : X.mg "zip" = none) (ha : PA X [e, e2] ta)
    (hs : starEach [e, e2] X.env = (false, eval e X.env) :: starEach [e2] X.env) (hpl : (backTo pos2 (starEach [e2] X.env)).any (·.1) = false)
    (hs2 : starEach [.Call (.Name "zip" p2) [e, e2] [] pos2] X.env = (false, eval (.Call (.Name "zip" p2) [e, e2] [] pos2) X.env) :: starEach [] X.env) :
    PE X (.Call (.Name "dict" p) [.Call (.Name "zip" p2) [e, e2] [] pos2] [] pos) (tDz X.K ta) := by
  refine ⟨fun pins s σ H Q I h => ?_⟩
  refine Call_ (ld_blt I hg hm boot_dict (PyProof.Rows.callWith_type1 (args_cons (Call_ (ld_blt I hg2 hm2 PyProof.Rows.boot_zip (PyProof.Rows.callWith_type1 (thn (ha.run pos2 pins s σ H _ I h) fun us s1 ⟨vs, H1, I1, r1, q1⟩ => ?_) hs hpl))) hs2) hs2 rfl))
  obtain ⟨a, b, ks, ys, ex, hx, hy, q⟩ := q1
  subst ex
  cases r1 with
  | cons r rr =>
    cases rr with
    | cons r' rr =>
      cases rr
      cases r
      cases r'
      obtain ⟨it1, v1, t1, z1⟩ := I1.tuple hx
      obtain ⟨it2, v2, t2, z2⟩ := I1.tuple hy
      obtain ⟨o1, e1, _⟩ := id t1
      obtain ⟨o2, e2', _⟩ := id t2
      have l1 : it1.length = ks.length := by rw [← v1.length, List.length_map]
      have l2 : it2.length = ys.length := v2.length.symm
      refine RZ.call_zipT (show s1.heap.IsTuple a it1.toArray from t1) (show s1.heap.IsTuple b it2.toArray from t2) fun h' gz gI gO ga gb hsz hk => args_nil ?_
      have D := PySem.W.ktu_apart s1.heap.objs.size a b (Heap.lt_size e1) (Heap.lt_size e2')
      refine PySem.call_dict_pairs (s := { s1 with heap := h' }) (knd := mixKind X.prog X.w) (kvs := ks.zip it2) (dz_arg (us := it1.toArray) (vs := it2.toArray) D) (I1.ok.hd hcalm)
        ⟨gz, gI, ⟨_, _, gO⟩, ga, gb, (show s1.heap.IsTuple a it1.toArray from t1).at fun o e => hk _ o e, (show s1.heap.IsTuple b it2.toArray from t2).at fun o e => hk _ o e⟩ ⟨?_, fun i key v h => ?_⟩ ?_ fun g' tk hd' kp => ?_
      · rw [List.length_zip, List.size_toArray, List.size_toArray, l1]
      · obtain ⟨h1, h2⟩ := h
        have h1' : it1[i]? = some key := by simpa using h1
        have h2' : it2[i]? = some v := by simpa using h2
        have hi : i < ks.length := by rw [← l1]; exact (List.getElem?_eq_some_iff.mp h1').1
        obtain ⟨u, hu, ru⟩ := v1.get (show (ks.map kV)[i]? = some (kV ks[i]) by rw [List.getElem?_map, List.getElem?_eq_getElem hi]; rfl)
        rw [h1'] at hu
        cases hu
        exact ⟨ks[i], by rw [List.getElem?_zip_eq_some]; exact ⟨List.getElem?_eq_getElem hi, h2'⟩, kV_is (P := X.prog) (w := X.w) ru⟩
      · rw [List.size_toArray, List.size_toArray]
        exact Nat.le_trans (Nat.min_le_left _ _) (by rw [← v1.length]; exact z1)
      · have old : ∀ c o, s1.heap.get? c = some o → g'.get? c = some o := fun c o e => by
          have hc := Heap.lt_size e
          refine kp c o (fun hm => ?_) (hk c o e)
          simp only [List.mem_cons, List.not_mem_nil, or_false] at hm
          rcases hm with z | z | z | z
          · exact absurd hc (by rw [z]; exact Nat.not_lt.mpr (Nat.le_add_right _ _))
          · exact absurd hc (by rw [z]; exact Nat.not_lt.mpr (Nat.le_add_right _ _))
          · exact absurd hc (by rw [z]; exact Nat.lt_irrefl _)
          · exact absurd hc (by rw [z]; exact Nat.not_lt.mpr (Nat.le_add_right _ _))
        have hbig : (h'.objs.size == sysModules) = false := beq_eq_false_iff_ne.mpr (Nat.ne_of_gt (Nat.lt_of_lt_of_le I1.big (by rw [hsz]; exact Nat.le_add_right _ _)))
        have hlen : (mergeK [] (ks.zip ys)).length ≤ sizeLine := by
          refine Nat.le_trans (length_mergeK _ []) ?_
          rw [List.length_nil, Nat.zero_add, List.length_zip, ← l1]
          exact Nat.le_trans (Nat.min_le_left _ _) (by rw [← v1.length]; exact z1)
        exact ⟨.ref h'.objs.size, upd H1 h'.objs.size (.dK (mergeK [] (ks.zip ys))), I1.laid (t' := tk) old (by rw [hsz]; exact Nat.le_add_right _ _) (show ObjOk X.prog X.w _ _ _ (.dK (mergeK [] (ks.zip ys))) from ⟨hlen, hbig, merged [] (ks.zip it2), L2.KV.merge (zip_kv ks v2) .nil, hd'⟩), rfl, q _ (I1.hok.fresh (by rw [hsz]; exact Nat.le_add_right _ _))⟩
theorem keys_rp {K : PySem.W.Frag} : ∀ {vs : List V} {xs : List D}, RpA K Hf vs xs → xs.all (fun x => (keyOf x).isSome) = true → ∃ ks : List Key, vs = ks.map kV ∧ xs = ks.map keyD
  | _, _, .nil, _ => ⟨[], rfl, rfl⟩
  | _, _, .cons r t, h => by
    rw [List.all_cons, Bool.and_eq_true] at h
    obtain ⟨ks, rfl, rfl⟩ := keys_rp t h.2
    obtain ⟨ky, hk⟩ := Option.isSome_iff_exists.mp h.1
    have e := keyOf_some hk
    subst e
    have ev := (Rw.st (H := Hf) r).key
    subst ev
    exact ⟨ky :: ks, rfl, rfl⟩
theorem zip_rp {K : PySem.W.Frag} : ∀ (ks : List Key) {us : List V} {ys : List D}, RpA K Hf us ys → RpKv K Hf (ks.zip us) ((ks.map keyD).zip ys)
  | [], _, _, _ => .nil
  | _ :: _, _, _, .nil => .nil
  | _ :: ks, _, _, .cons r t => .cons r (zip_rp ks t)
theorem ge_dictZip (hm : X.mg "dict" = none) (hm2 : X.mg "zip" = none) (c : Cok w k X) {e e2 : Expr} {f f' : EV} {p p2 pos2 : Pos} (he : GE w X e f) (he2 : GE w X e2 f') (hg : Gl X "dict" := by rfl) (hg2 : Gl X "zip" := by rfl)
    (hs : starEach [e, e2] X.env = (false, eval e X.env) :: starEach [e2] X.env := by rfl) (hs2 : starEach [e2] X.env = (false, eval e2 X.env) :: starEach [] X.env := by rfl) (hpl : (backTo pos2 (starEach [e2] X.env)).any (·.1) = false := by rfl)
    (hs3 : starEach [.Call (.Name "zip" p2) [e, e2] [] pos2] X.env = (false, eval (.Call (.Name "zip" p2) [e, e2] [] pos2) X.env) :: starEach [] X.env := by rfl) :
    GE w X (.Call (.Name "dict" p) [.Call (.Name "zip" p2) [e, e2] [] pos2] [] pos) (kDictZip f f') := by
  refine pe_imp (pe_dz c.calm hg hm hg2 hm2 (pa_cons he (pa_cons he2 pa_nil hs2) hs) hs hpl hs3) fun σ H Q => ?_
  rintro ⟨Hf, s, φ, l, s', gd, e, q⟩
  obtain ⟨⟨d, s1⟩, h1, h2⟩ := R.bind_eq_ok.mp e
  obtain ⟨⟨d2, s2⟩, h3, h4⟩ := R.bind_eq_ok.mp h2
  refine tE_D gd h1 fun v H1 Hf1 φ1 g1 r1 k1 => tE_D g1 h3 fun v2 H2 Hf2 φ2 g2 r2 k2 => ?_
  have k12 := k1.trans k2 (fun _ => id) fun x hx => g1.own_free hx
  have r1' := r1.mono k2.sub
  simp only at h4
  split at h4
  · split at h4
    · rename_i hall
      cases h4
      cases r1' with
      | tup h r =>
        cases r2 with
        | tup h' r' =>
          obtain ⟨ks, rfl, rfl⟩ := keys_rp r hall
          exact ⟨_, _, ks, _, rfl, by rw [c.K]; exact (g2.sub.stup h).sq, by rw [c.K]; exact (g2.sub.stup h').sq, fun p hp => (q.later k12 (fun _ => id) g2).dct g2 (merge_rp (zip_rp ks r') .nil) hp⟩
    · cases h4
  · cases h4
end
end KV

set_option Elab.async false
set_option linter.all false
set_option maxRecDepth 100000
set_option maxHeartbeats 4000000
/-! KVS: denotations run: loops by what stays true. -/
namespace KV
open PySem L2

namespace R
variable {α β : Type}
theorem W_of {r : R α} {a : α} {Q : α → Prop} (e : r = .ok a) (q : Q a) : r.W Q := by rw [e]; exact q
theorem W_get {r : R α} {Q : α → Prop} (h : r.W Q) : ∃ a, r = .ok a ∧ Q a := W_iff.mp h
end R

theorem run_mk {n : Nat} {io : List Nat} {b : SV} {ts : List T} : (Def.mk n io b).run ts = (b (ts.map some ++ List.replicate (n - ts.length) none)).bind fun r => (endOf r.1).bind fun t => (outs io r.2).bind fun os => .ok (t, os) := rfl
theorem sCons_nx {f g : SV} {s s1 : Sl} (h : f s = .ok (.nx, s1)) : sCons f g s = g s1 := by
  show (f s).bind _ = _
  rw [h]; rfl
theorem sCons_rt {f g : SV} {s s1 : Sl} {t : T} (h : f s = .ok (.rt t, s1)) : sCons f g s = .ok (.rt t, s1) := by
  show (f s).bind _ = _
  rw [h]; rfl
theorem run_rt {n : Nat} {io : List Nat} {b : SV} {ts : List T} {t : T} {s1 : Sl} {os : List T} (h : b (ts.map some ++ List.replicate (n - ts.length) none) = .ok (.rt t, s1)) (ho : outs io s1 = .ok os) : (Def.mk n io b).run ts = .ok (t, os) := by
  rw [run_mk, h]
  simp only [R.bind_ok, endOf, ho]
/-! ### for -/
theorem forD_inv {g : GV} {b : SV} {ds : List D} (I : Nat → Sl → Prop) (h : ∀ i x s, ds[i]? = some x → I i s → (g x s).W fun s1 => (b s1).W fun r => (r.1 = .nx ∨ r.1 = .ct) ∧ I (i + 1) r.2) :
    ∀ {k : Nat} {s : Sl}, I k s → k ≤ ds.length → (forD g b (ds.drop k) s).W fun r => r.1 = .nx ∧ I ds.length r.2 := by
  intro k s hi hk
  generalize hn : ds.length - k = n
  induction n generalizing k s with
  | zero =>
    have : k = ds.length := by omega
    subst this
    rw [List.drop_length]
    exact ⟨rfl, hi⟩
  | succ n ih =>
    have hlt : k < ds.length := by omega
    rw [List.drop_eq_getElem_cons hlt]
    obtain ⟨s1, e1, h1⟩ := R.W_get (h k ds[k] s (List.getElem?_eq_getElem hlt) hi)
    obtain ⟨⟨fl, s2⟩, e2, h2, h3⟩ := R.W_get h1
    have next := ih (k := k + 1) (s := s2) h3 hlt (by omega)
    unfold forD
    rw [e1, R.bind_ok, e2, R.bind_ok]
    rcases h2 with h2 | h2 <;> (simp only at h2; subst h2; exact next)
theorem for_inv {g : GV} {b : SV} {ds : List D} {s : Sl} (I : Nat → Sl → Prop) (h0 : I 0 s) (h : ∀ i x s, ds[i]? = some x → I i s → (g x s).W fun s1 => (b s1).W fun r => (r.1 = .nx ∨ r.1 = .ct) ∧ I (i + 1) r.2) :
    (forD g b ds s).W fun r => r.1 = .nx ∧ I ds.length r.2 := forD_inv I h (k := 0) h0 (Nat.zero_le _)

/-! ### while -/
theorem while_inv {c : BV} {b : SV} (I : Nat → Sl → Prop) (Z : Sl → Prop) (h : ∀ m s, I m s → (c s).W fun r => if r.1 = true then (b r.2).W fun q => (q.1 = .nx ∨ q.1 = .ct) ∧ ∃ m', m' < m ∧ I m' q.2 else Z r.2) :
    ∀ {n m : Nat} {s : Sl}, I m s → m < n → (whileD c b n s).W fun r => r.1 = .nx ∧ Z r.2
  | 0, m, s, _, hm => absurd hm (Nat.not_lt_zero m)
  | n + 1, m, s, hi, hm => by
    obtain ⟨⟨t, s1⟩, e1, h1⟩ := R.W_get (h m s hi)
    unfold whileD
    rw [e1, R.bind_ok]
    cases t with
    | false => exact ⟨rfl, by simpa using h1⟩
    | true =>
      simp only [if_true] at h1 ⊢
      obtain ⟨⟨fl, s2⟩, e2, h2, m', hm', h3⟩ := R.W_get h1
      have next := while_inv I Z h (n := n) h3 (by omega)
      rw [e2, R.bind_ok]
      rcases h2 with h2 | h2 <;> (simp only at h2; subst h2; exact next)

/-! ### comprehensions -/
theorem comp_pure {g : GV} {c : Option BV} {f : EV} {own : List Nat} {s : Sl} (S : D → Sl) (P : D → Bool) (F : D → D) (hw : wipeD s own = s) : ∀ {ds : List D},
    (∀ x ∈ ds, g x s = .ok (S x) ∧ wipeD (S x) own = s ∧ bOf c (S x) = .ok (P x, S x) ∧ (P x = true → kD f (S x) = .ok (F x, S x))) → compD g c f own ds s = .ok ((ds.filter P).map F, s)
  | [], _ => rfl
  | x :: ds, h => by
    obtain ⟨h1, h2, h3, h4⟩ := h x (List.mem_cons_self ..)
    have ih := comp_pure S P F hw (ds := ds) fun y hy => h y (List.mem_cons_of_mem _ hy)
    rw [compD_cons, hw, h1, R.bind_ok, h3, R.bind_ok]
    cases e : P x with
    | false =>
      simp only [Bool.false_eq_true, if_false]
      rw [h2, ih, List.filter_cons_of_neg (by simp [e])]
    | true =>
      simp only [if_true]
      rw [h4 e, R.bind_ok, h2, ih, R.bind_ok, List.filter_cons_of_pos (by simp [e]), List.map_cons]
/-- over data that are told by something else -/
theorem comp_map {α : Type} {g : GV} {c : Option BV} {f : EV} {own : List Nat} {s : Sl} (enc : α → D) (S : α → Sl) (P : α → Bool) (F : α → D) (hw : wipeD s own = s) : ∀ {xs : List α},
    (∀ x ∈ xs, g (enc x) s = .ok (S x) ∧ wipeD (S x) own = s ∧ bOf c (S x) = .ok (P x, S x) ∧ (P x = true → kD f (S x) = .ok (F x, S x))) → compD g c f own (xs.map enc) s = .ok ((xs.filter P).map F, s)
  | [], _ => rfl
  | x :: xs, h => by
    obtain ⟨h1, h2, h3, h4⟩ := h x (List.mem_cons_self ..)
    have ih := comp_map enc S P F hw (xs := xs) fun y hy => h y (List.mem_cons_of_mem _ hy)
    rw [List.map_cons, compD_cons, hw, h1, R.bind_ok, h3, R.bind_ok]
    cases e : P x with
    | false =>
      simp only [Bool.false_eq_true, if_false]
      rw [h2, ih, List.filter_cons_of_neg (by simp [e])]
    | true =>
      simp only [if_true]
      rw [h4 e, R.bind_ok, h2, ih, R.bind_ok, List.filter_cons_of_pos (by simp [e]), List.map_cons]
/-- the own names' slots not empty ahead -/
theorem comp_map2 {α : Type} {g : GV} {c : Option BV} {f : EV} {own : List Nat} {s : Sl} (enc : α → D) (S : α → Sl) (P : α → Bool) (F : α → D) (hw : wipeD (wipeD s own) own = wipeD s own) {xs : List α}
    (h : ∀ x ∈ xs, g (enc x) (wipeD s own) = .ok (S x) ∧ wipeD (S x) own = wipeD s own ∧ bOf c (S x) = .ok (P x, S x) ∧ (P x = true → kD f (S x) = .ok (F x, S x))) : ∃ s', compD g c f own (xs.map enc) s = .ok ((xs.filter P).map F, s') ∧ (s' = s ∨ s' = wipeD s own) := by
  cases xs with
  | nil => exact ⟨s, rfl, .inl rfl⟩
  | cons x xs =>
    refine ⟨wipeD s own, ?_, .inr rfl⟩
    have e := comp_map (g := g) (c := c) (f := f) (own := own) (s := wipeD s own) enc S P F hw (xs := x :: xs) h
    rw [List.map_cons, compD_cons] at e ⊢
    rw [hw] at e
    exact e
/-- the same, the own names' slots not empty ahead -/
theorem comp_pure2 {g : GV} {c : Option BV} {f : EV} {own : List Nat} {s : Sl} (S : D → Sl) (P : D → Bool) (F : D → D) (hw : wipeD (wipeD s own) own = wipeD s own) : ∀ {ds : List D},
    (∀ x ∈ ds, g x (wipeD s own) = .ok (S x) ∧ wipeD (S x) own = wipeD s own ∧ bOf c (S x) = .ok (P x, S x) ∧ (P x = true → kD f (S x) = .ok (F x, S x))) → ∃ s', compD g c f own ds s = .ok ((ds.filter P).map F, s') ∧ (s' = s ∨ s' = wipeD s own)
  | [], _ => ⟨s, rfl, .inl rfl⟩
  | x :: ds, h => by
    refine ⟨wipeD s own, ?_, .inr rfl⟩
    have e := comp_pure (g := g) (c := c) (f := f) (own := own) (s := wipeD s own) S P F hw (ds := x :: ds) h
    rw [compD_cons] at e ⊢
    rw [hw] at e
    exact e
/-- one that changes what the slots hold, no test -/
theorem comp_inv {g : GV} {f : EV} {own : List Nat} {ds : List D} (I : Nat → List D → Sl → Prop) (h : ∀ i x acc s, ds[i]? = some x → I i acc s → (g x (wipeD s own)).W fun s1 => (kD f s1).W fun q => I (i + 1) (acc ++ [q.1]) (wipeD q.2 own)) :
    ∀ {k : Nat} {acc : List D} {s : Sl}, I k acc s → k ≤ ds.length → (compD g none f own (ds.drop k) s).W fun r => I ds.length (acc ++ r.1) r.2 := by
  intro k acc s hi hk
  generalize hn : ds.length - k = n
  induction n generalizing k s acc with
  | zero =>
    have : k = ds.length := by omega
    subst this
    rw [List.drop_length]
    show I _ (acc ++ []) s
    rw [List.append_nil]
    exact hi
  | succ n ih =>
    have hlt : k < ds.length := by omega
    rw [List.drop_eq_getElem_cons hlt, compD_cons]
    obtain ⟨s1, e1, h1⟩ := R.W_get (h k ds[k] acc s (List.getElem?_eq_getElem hlt) hi)
    obtain ⟨q, e2, h2⟩ := R.W_get h1
    obtain ⟨r, e3, h3⟩ := R.W_get (ih (k := k + 1) h2 hlt (by omega))
    rw [e1, R.bind_ok]
    show (((R.ok (true, s1)).bind _).W _)
    rw [R.bind_ok]
    simp only [if_true]
    rw [e2, R.bind_ok, e3, R.bind_ok]
    show I _ (acc ++ q.1 :: r.1) r.2
    have : acc ++ q.1 :: r.1 = acc ++ [q.1] ++ r.1 := by simp
    rw [this]
    exact h3
theorem comp_inv0 {g : GV} {f : EV} {own : List Nat} {ds : List D} {s : Sl} (I : Nat → List D → Sl → Prop) (h0 : I 0 [] s) (h : ∀ i x acc s, ds[i]? = some x → I i acc s → (g x (wipeD s own)).W fun s1 => (kD f s1).W fun q => I (i + 1) (acc ++ [q.1]) (wipeD q.2 own)) :
    (compD g none f own ds s).W fun r => I ds.length r.1 r.2 := by
  have := comp_inv I h (k := 0) h0 (Nat.zero_le _)
  simpa using this

/-! ### data that may be compared, shown -/
/-- texts that are sound, short numbers, no dict; at most n deep, m heavy -/
structure fit (n m : Nat) (d : D) : Prop where
  lay : d.canLay0 = true
  dep : d.depth ≤ n
  wt : d.weight ≤ m
  sh : d.intsShort 13 = true
  sw : d.showable = true
theorem fit.eqOk {n m : Nat} {d : D} (h : fit n m d) (hn : n ≤ 64) : eqOk d = true := by
  have : (d.canLay0 && decide (d.depth ≤ 64)) = true := by
    rw [Bool.and_eq_true]
    exact ⟨h.lay, decide_eq_true (Nat.le_trans h.dep hn)⟩
  exact this
theorem fit.mono {n m n' m' : Nat} {d : D} (h : fit n m d) (hn : n ≤ n') (hm : m ≤ m') : fit n' m' d := ⟨h.lay, Nat.le_trans h.dep hn, Nat.le_trans h.wt hm, h.sh, h.sw⟩
mutual
theorem noDict_of : ∀ d : D, d.canLay0 = true → d.hasDict = false
  | .none, _ => by simp [PyData.hasDict]
  | .bool _, _ => by simp [PyData.hasDict]
  | .int _, _ => by simp [PyData.hasDict]
  | .str _, _ => by simp [PyData.hasDict]
  | .list xs, h => by rw [PyData.hasDict]; exact noDicts_of xs (by rw [PyData.canLay0] at h; exact h)
  | .tuple xs, h => by rw [PyData.hasDict]; exact noDicts_of xs (by rw [PyData.canLay0] at h; exact h)
  | .dict _, h => by rw [PyData.canLay0] at h; cases h
theorem noDicts_of : ∀ ds : List D, PyData.canLayAll0 ds = true → PyData.hasDictAll ds = false
  | [], _ => rfl
  | x :: xs, h => by
    rw [PyData.canLayAll0, Bool.and_eq_true] at h
    rw [PyData.hasDictAll, noDict_of x h.1, noDicts_of xs h.2]
    rfl
end
theorem fit.show {n m : Nat} {d : D} (h : fit n m d) (hn : n ≤ 64) (hm : m ≤ 1048576) : showOk d = true := by
  have hl : PyData.layable0 d = true := by
    unfold PyData.layable0
    rw [Bool.and_eq_true, Bool.and_eq_true]
    exact ⟨⟨h.lay, decide_eq_true (Nat.le_trans h.dep hn)⟩, decide_eq_true (Nat.le_trans h.wt hm)⟩
  have hz := PyProof.Rows.shown_le13 hl h.sh
  unfold showOk
  rw [h.sw, noDict_of d h.lay, decide_eq_true (Nat.le_trans h.dep hn), decide_eq_true (by rw [sizeLine_eq]; omega)]
  rfl
theorem fits_all : ∀ {ds : List D} {n m : Nat}, (∀ d ∈ ds, fit n m d) → PyData.canLayAll0 ds = true ∧ PyData.depthAll ds ≤ n ∧ PyData.weightAll ds ≤ ds.length * (m + 1) ∧ PyData.intsShortAll 13 ds = true ∧ PyData.showableAll ds = true
  | [], n, m, _ => ⟨rfl, Nat.zero_le _, Nat.zero_le _, rfl, rfl⟩
  | d :: ds, n, m, h => by
    obtain ⟨h1, h2, h3, h4, h5⟩ := fits_all (ds := ds) (n := n) (m := m) fun x hx => h x (List.mem_cons_of_mem _ hx)
    obtain ⟨g1, g2, g3, g4, g5⟩ := h d (List.mem_cons_self ..)
    refine ⟨by rw [PyData.canLayAll0, g1, h1]; rfl, by rw [PyData.depthAll]; omega, ?_, by rw [PyData.intsShortAll, g4, h4]; rfl, by rw [PyData.showableAll, g5, h5]; rfl⟩
    rw [PyData.weightAll, List.length_cons, Nat.add_mul, Nat.one_mul]
    omega
theorem fit_tup {ds : List D} {n m k : Nat} (h : ∀ d ∈ ds, fit n m d) (hk : ds.length ≤ k) : fit (n + 1) (k * (m + 1)) (.tuple ds) := by
  obtain ⟨h1, h2, h3, h4, h5⟩ := fits_all h
  exact ⟨by rw [PyData.canLay0]; exact h1, by rw [PyData.depth]; omega, by rw [PyData.weight]; exact Nat.le_trans h3 (Nat.mul_le_mul_right _ hk), by rw [PyData.intsShort]; exact h4, by rw [PyData.showable]; exact h5⟩
theorem fit_lst {ds : List D} {n m k : Nat} (h : ∀ d ∈ ds, fit n m d) (hk : ds.length ≤ k) : fit (n + 1) (k * (m + 1)) (.list ds) := by
  obtain ⟨h1, h2, h3, h4, h5⟩ := fits_all h
  exact ⟨by rw [PyData.canLay0]; exact h1, by rw [PyData.depth]; omega, by rw [PyData.weight]; exact Nat.le_trans h3 (Nat.mul_le_mul_right _ hk), by rw [PyData.intsShort]; exact h4, by rw [PyData.showable]; exact h5⟩
theorem fit_bool {b : Bool} {n m : Nat} : fit n m (.bool b) := ⟨by simp [PyData.canLay0], by simp [PyData.depth], by simp [PyData.weight], by simp [PyData.intsShort], by simp [PyData.showable]⟩
theorem fit_none {n m : Nat} : fit n m .none := ⟨by simp [PyData.canLay0], by simp [PyData.depth], by simp [PyData.weight], by simp [PyData.intsShort], by simp [PyData.showable]⟩
theorem fit_str {x : Str} {n m : Nat} (h : PyData.strOk x = true) (hm : x.cps.size ≤ m) : fit n m (.str x) := ⟨by simp [PyData.canLay0, h], by simp [PyData.depth], by simp [PyData.weight, hm], by simp [PyData.intsShort], by simp [PyData.showable]⟩
theorem pEq_of {d e : D} (h1 : eqOk d = true) (h2 : eqOk e = true) : pEq d e = bl (PyData.eqv d e) := by unfold pEq; rw [h1, h2]; rfl
theorem pNe_of {d e : D} (h1 : eqOk d = true) (h2 : eqOk e = true) : pNe d e = bl (!PyData.eqv d e) := by unfold pNe; rw [h1, h2]; rfl
theorem pRepr_of {d : D} (h : showOk d = true) : pRepr d = .ok (.d (.str d.shown)) := by unfold pRepr; rw [if_pos h]
theorem eqv_str {x y : Str} : PyData.eqv (.str x) (.str y) = decide (x = y) := by
  show (x == y) = _
  by_cases h : x = y
  · subst h; simp
  · simp [h]
theorem eqv_str_self {x : Str} : PyData.eqv (.str x) (.str x) = true := by rw [eqv_str]; simp
end KV

set_option Elab.async false
set_option linter.all false
set_option maxRecDepth 100000
set_option maxHeartbeats 4000000
/-! K07: printed by gen.py: the defs of keptvalues_k07_plain_runs and their denotations. -/
namespace K07
open PySem L2 KV
open PySem.Spec PyProof.Rows
def top (i : Nat) : Stmt := PySem.Challenge.pw_keptvalues_k07_plain_runs.main.body.getD i (.Pass ⟨0, 0, 0, 0⟩)
structure MG (mg : Str → Option Value) : Prop where
  n_int : mg "int" = none
  n_abs : mg "abs" = none
  n_len : mg "len" = none
  n_max : mg "max" = none
  n_range : mg "range" = none
  n_tuple : mg "tuple" = none
  n_list : mg "list" = none
  n_dict : mg "dict" = none
  n_zip : mg "zip" = none
  n_enumerate : mg "enumerate" = none
  n_repr : mg "repr" = none
/-! ### _law_source -/
abbrev s_u_law_source : Stmt := top 11
abbrev N_u_law_source : List Str := ["script", "mixed", "cell"]
abbrev P_u_law_source : List Str := ["script"]
def D_u_law_source : Def := ⟨3, [],
    (sCons (sSet 1 (kC (.int 11)))
    (sCons (sFor (iScr 0) (gN 2) (sCons (sSet 1 (k2 pMod (k1 pInt (k2 pAdd (k2 pAdd (k2 pMul (kX 1) (kC (.int 69069))) (k2 pMul (kX 2) (kC (.int 31)))) (kC (.int 5)))) (kC (.int 2147483629))))
    sNil))
    (sCons (sRet (kSrc (k1 pRev (kComp (iScr 0) (gN 2) none (k1 pAbs (kX 2)) [2])) (kC (.int 1)) (kX 1) (kC (.int 0))))
    sNil)))⟩
/-! ### _law_pick -/
abbrev s_u_law_pick : Stmt := top 12
abbrev N_u_law_pick : List Str := ["source", "many", "left", "mixed"]
abbrev P_u_law_pick : List Str := ["source", "many"]
def D_u_law_pick : Def := ⟨4, [0],
    (sCons (sWhile (bAnd (bVal (k2 pGt (kX 1) (kC (.int 1)))) (bAnd (bVal (k2 pLt (kSGet 0 .left) (kC (.int 2)))) (bVal (k2 pGt (kSLen 0) (kC (.int 0)))))) (sCons (sSPut 0 .left (kSPop 0))
    sNil))
    (sCons (sSet 2 (kSGet 0 .left))
    (sCons (sIf (bOr (bVal (k2 pLt (kX 1) (kC (.int 2)))) (bVal (k2 pGt (kX 2) (kC (.int 1))))) (sCons (sSPut 0 .left (k2 pDiv (kX 2) (k2 pMax2 (kC (.int 1)) (kX 1))))
    (sCons (sRet (k2 pMod (k1 pInt (kX 2)) (k2 pMax2 (kC (.int 1)) (kX 1))))
    sNil)) sNil)
    (sCons (sSPut 0 .turn (k2 pAdd (kSGet 0 .turn) (kC (.int 1))))
    (sCons (sSet 3 (k2 pMod (k1 pInt (k2 pAdd (kSGet 0 .mixed) (k2 pMul (kSGet 0 .turn) (kC (.int 104729))))) (kC (.int 998244353))))
    (sCons (sSet 3 (k2 pMod (k1 pInt (k2 pAdd (k2 pMul (kX 3) (kX 3)) (k2 pMul (kSGet 0 .turn) (kC (.int 17))))) (kC (.int 2147483647))))
    (sCons (sSPut 0 .mixed (kX 3))
    (sCons (sRet (k2 pMod (k1 pInt (k2 pDiv (kX 3) (kC (.int 16)))) (kX 1)))
    sNil))))))))⟩
/-! ### _law_of -/
abbrev s_u_law_of : Stmt := top 13
abbrev N_u_law_of : List Str := ["source", "some"]
abbrev P_u_law_of : List Str := ["source", "some"]
def D_u_law_of : Def := ⟨2, [0],
    (sCons (sRet (k2 pIx (kX 1) (kCall (D_u_law_pick).run (cMv 0 (cV (k1 pLen (kX 1)) cNil)))))
    sNil)⟩
/-! ### _law_words -/
abbrev s_u_law_words : Stmt := top 15
abbrev N_u_law_words : List Str := ["source"]
abbrev P_u_law_words : List Str := ["source"]
def D_u_law_words : Def := ⟨1, [0],
    (sCons (sRet (kCall (D_u_law_of).run (cMv 0 (cV (kLst (aCons (kTup aNil) (aCons (kTup aNil) (aCons (kTup (aCons (kC (.str "go")) aNil)) (aCons (kTup (aCons (kC (.str "go")) (aCons (kC (.str "stop")) aNil))) aNil))))) cNil))))
    sNil)⟩
/-! ### _law_thing -/
abbrev s_u_law_thing : Stmt := top 16
abbrev N_u_law_thing : List Str := ["source", "words", "boxes", "some", "word", "box"]
abbrev P_u_law_thing : List Str := ["source", "words", "boxes"]
def D_u_law_thing : Def := ⟨6, [0],
    (sCons (sSet 3 (k2 pAdd (k2 pAdd (kLst (aCons (kTup (aCons (kC (.str "it")) aNil)) aNil)) (kComp (iSeq (kX 2)) (gN 5) none (kTup (aCons (kC (.str "box")) (aCons (kX 5) aNil))) [5])) (kComp (iSeq (kX 1)) (gN 4) none (kTup (aCons (kC (.str "word")) (aCons (kX 4) aNil))) [4])))
    (sCons (sRet (kCall (D_u_law_of).run (cMv 0 (cV (kX 3) cNil))))
    sNil))⟩
/-! ### _law_condition -/
abbrev s_u_law_condition : Stmt := top 17
abbrev N_u_law_condition : List Str := ["source", "words", "boxes", "deep", "way", "box", "parts", "side"]
abbrev P_u_law_condition : List Str := ["source", "words", "boxes", "deep"]
def D_u_law_condition : Nat → Def
  | 0 => ⟨8, [0], sNever⟩
  | n + 1 => ⟨8, [0],
    (sCons (sSet 4 (kCall (D_u_law_pick).run (cMv 0 (cV (kC (.int 9)) cNil))))
    (sCons (sIf (bAnd (bVal (k2 pGt (kX 3) (kC (.int 0)))) (bVal (k2 pLt (kX 4) (kC (.int 3))))) (sCons (sSet 6 (kComp (iRg1 (k2 pAdd (kC (.int 1)) (k1 pInt (k2 pGt (kX 4) (kC (.int 0)))))) (gN 7) none (kCall (D_u_law_condition n).run (cMv 0 (cV (kX 1) (cV (kX 2) (cV (k2 pSub (kX 3) (kC (.int 1))) cNil))))) [7]))
    (sCons (sRet (k2 pAdd (kTup (aCons (k2 pIx (kLst (aCons (kC (.str "not")) (aCons (kC (.str "and")) (aCons (kC (.str "or")) aNil)))) (kX 4)) aNil)) (k1 pTuple (kX 6))))
    sNil)) sNil)
    (sCons (sIf (bOr (bVal (k2 pEq (kX 2) (kTup aNil))) (bVal (k2 pEq (kX 4) (kC (.int 3))))) (sCons (sRet (kCall (D_u_law_of).run (cMv 0 (cV (kLst (aCons (kTup (aCons (kC (.str "any")) aNil)) (aCons (kTup (aCons (kC (.str "new")) aNil)) (aCons (kTup (aCons (kC (.str "it")) (aCons (kCall (D_u_law_thing).run (cMv 0 (cV (kX 1) (cV (kX 2) cNil)))) aNil))) aNil)))) cNil))))
    sNil) sNil)
    (sCons (sIf (bVal (k2 pLt (kX 4) (kC (.int 6)))) (sCons (sRet (kTup (aCons (kC (.str "it")) (aCons (kCall (D_u_law_thing).run (cMv 0 (cV (kX 1) (cV (kX 2) cNil)))) aNil))))
    sNil) sNil)
    (sCons (sIf (bVal (k2 pEq (kX 4) (kC (.int 6)))) (sCons (sRet (kTup (aCons (kC (.str "new")) aNil)))
    sNil) sNil)
    (sCons (sSet 5 (kCall (D_u_law_of).run (cMv 0 (cV (k1 pList (kX 2)) cNil))))
    (sCons (sRet (kIf (bVal (k2 pEq (kX 4) (kC (.int 7)))) (kTup (aCons (kC (.str "empty")) (aCons (kX 5) aNil))) (kTup (aCons (kC (.str "same")) (aCons (kX 5) (aCons (kCall (D_u_law_thing).run (cMv 0 (cV (kX 1) (cV (kX 2) cNil)))) aNil))))))
    sNil)))))))⟩
theorem I_u_law_condition : ∀ n, (D_u_law_condition n).io = [0]
  | 0 => rfl
  | _ + 1 => rfl
/-! ### _law_mixed -/
abbrev s_u_law_mixed : Stmt := top 14
abbrev N_u_law_mixed : List Str := ["source", "things", "rest", "lap"]
abbrev P_u_law_mixed : List Str := ["source", "things"]
def D_u_law_mixed : Def := ⟨4, [0],
    (sCons (sSet 2 (k1 pList (kX 1)))
    (sCons (sRet (kComp (iRg1 (k1 pLen (kX 2))) (gN 3) none (kPopJ 2 (kCall (D_u_law_pick).run (cMv 0 (cV (k1 pLen (kX 2)) cNil)))) [3]))
    sNil))⟩
/-! ### _law_acts -/
abbrev s_u_law_acts : Stmt := top 18
abbrev N_u_law_acts : List Str := ["source", "words", "boxes", "modes", "found", "box", "way", "k"]
abbrev P_u_law_acts : List Str := ["source", "words", "boxes", "modes"]
def D_u_law_acts : Def := ⟨8, [0],
    (sCons (sSet 4 (kComp (iRg1 (kCall (D_u_law_of).run (cMv 0 (cV (kLst (aCons (kC (.int 0)) (aCons (kC (.int 0)) (aCons (kC (.int 1)) (aCons (kC (.int 1)) (aCons (kC (.int 2)) (aCons (kC (.int 3)) aNil))))))) cNil)))) (gN 7) none (kTup (aCons (kC (.str "tell")) (aCons (kCall (D_u_law_thing).run (cMv 0 (cV (kX 1) (cV (kX 2) cNil)))) aNil))) [7]))
    (sCons (sFor (iSeq (kX 2)) (gN 5) (sCons (sSet 6 (kCall (D_u_law_pick).run (cMv 0 (cV (kC (.int 4)) cNil))))
    (sCons (sIf (bVal (k2 pLt (kX 6) (kC (.int 2)))) (sCons (sDrop (kApp 4 (kTup (aCons (kC (.str "put")) (aCons (kIf (bVal (k2 pEq (kX 6) (kC (.int 0)))) (kCall (D_u_law_thing).run (cMv 0 (cV (kX 1) (cV (kX 2) cNil)))) (kTup (aCons (kC (.str "it")) aNil))) (aCons (kX 5) aNil))))))
    sNil) (sCons (sIf (bVal (k2 pEq (kX 6) (kC (.int 2)))) (sCons (sDrop (kApp 4 (kTup (aCons (kC (.str "drop")) (aCons (kX 5) aNil)))))
    sNil) sNil)
    sNil))
    sNil)))
    (sCons (sIf (bVal (k2 pEq (kCall (D_u_law_pick).run (cMv 0 (cV (kC (.int 2)) cNil))) (kC (.int 0)))) (sCons (sDrop (kApp 4 (kTup (aCons (kC (.str "go")) (aCons (kCall (D_u_law_of).run (cMv 0 (cV (k1 pList (kX 3)) cNil))) aNil)))))
    sNil) sNil)
    (sCons (sRet (k1 pTuple (kCall (D_u_law_mixed).run (cMv 0 (cV (kX 4) cNil)))))
    sNil))))⟩
/-! ### _law_program -/
abbrev s_u_law_program : Stmt := top 19
abbrev N_u_law_program : List Str := ["source", "words", "name", "most_boxes", "most_modes", "boxes", "modes", "found", "mode", "rules", "k"]
abbrev P_u_law_program : List Str := ["source", "words", "name", "most_boxes", "most_modes"]
def D_u_law_program : Def := ⟨11, [0],
    (sCons (sSet 5 (kSl (kTup (aCons (kC (.str "x")) (aCons (kC (.str "y")) (aCons (kC (.str "z")) aNil)))) none (some (kCall (D_u_law_pick).run (cMv 0 (cV (k2 pAdd (kX 3) (kC (.int 1))) cNil))))))
    (sCons (sPar [6, 7] (lCons (kSl (kTup (aCons (kC (.str "m")) (aCons (kC (.str "n")) (aCons (kC (.str "o")) (aCons (kC (.str "p")) aNil))))) none (some (k2 pAdd (kC (.int 1)) (kCall (D_u_law_pick).run (cMv 0 (cV (kX 4) cNil)))))) (lCons (kLst aNil) lNil)))
    (sCons (sFor (iSeq (kX 6)) (gN 8) (sCons (sSet 9 (kLst aNil))
    (sCons (sFor (iRg1 (kCall (D_u_law_pick).run (cMv 0 (cV (kC (.int 4)) cNil)))) (gN 10) (sCons (sDrop (kApp 9 (kTup (aCons (kCall (D_u_law_condition 3).run (cMv 0 (cV (kX 1) (cV (kX 5) (cV (kC (.int 2)) cNil))))) (aCons (kCall (D_u_law_acts).run (cMv 0 (cV (kX 1) (cV (kX 5) (cV (kX 6) cNil))))) aNil)))))
    sNil))
    (sCons (sDrop (kApp 7 (kTup (aCons (kX 8) (aCons (k2 pEq (kCall (D_u_law_pick).run (cMv 0 (cV (kC (.int 2)) cNil))) (kC (.int 0))) (aCons (k1 pTuple (kX 9)) aNil))))))
    sNil))))
    (sCons (sRet (kTup (aCons (kC (.str "program")) (aCons (kX 2) (aCons (kX 5) (aCons (k1 pTuple (kX 7)) aNil))))))
    sNil))))⟩
/-! ### _law_row -/
abbrev s_u_law_row : Stmt := top 20
abbrev N_u_law_row : List Str := ["source", "words", "many", "some", "k"]
abbrev P_u_law_row : List Str := ["source", "words", "many"]
def D_u_law_row : Def := ⟨5, [0],
    (sCons (sSet 3 (k2 pAdd (kLst (aCons (kC (.str "a")) (aCons (kC (.str "a")) (aCons (kC (.str "b")) (aCons (kC (.str "b")) (aCons (kC (.str "c")) (aCons (kC (.str "it")) (aCons (kC (.str "7")) aNil)))))))) (k1 pList (kX 1))))
    (sCons (sRet (k1 pTuple (kComp (iRg1 (kX 2)) (gN 4) none (kCall (D_u_law_of).run (cMv 0 (cV (kX 3) cNil))) [4])))
    sNil))⟩
/-! ### _law_worth -/
abbrev s_u_law_worth : Stmt := top 21
abbrev N_u_law_worth : List Str := ["boxes", "values", "thing", "value"]
abbrev P_u_law_worth : List Str := ["boxes", "values", "thing", "value"]
def D_u_law_worth : Def := ⟨4, [],
    (sCons (sIf (bVal (k2 pEq (kX 2) (kTup (aCons (kC (.str "it")) aNil)))) (sCons (sRet (kX 3))
    sNil) sNil)
    (sCons (sRet (kIf (bVal (k2 pEq (k2 pIx (kX 2) (kC (.int 0))) (kC (.str "box")))) (k2 pIx (kDictZip (kX 0) (kX 1)) (k2 pIx (kX 2) (kC (.int 1)))) (k2 pIx (kX 2) (kC (.int 1)))))
    sNil))⟩
/-! ### _law_holds -/
abbrev s_u_law_holds : Stmt := top 22
abbrev N_u_law_holds : List Str := ["words", "boxes", "values", "condition", "value", "word", "known", "one", "both"]
abbrev P_u_law_holds : List Str := ["words", "boxes", "values", "condition", "value"]
def D_u_law_holds : Nat → Def
  | 0 => ⟨9, [], sNever⟩
  | n + 1 => ⟨9, [],
    (sCons (sPar [5, 6] (lCons (k2 pIx (kX 3) (kC (.int 0))) (lCons (kDictZip (kX 1) (kX 2)) lNil)))
    (sCons (sIf (bVal (k2 pIn (kX 5) (kTup (aCons (kC (.str "any")) (aCons (kC (.str "new")) aNil))))) (sCons (sRet (kOr (k2 pEq (kX 5) (kC (.str "any"))) (kAnd (k2 pNotIn (kX 4) (kX 0)) (k2 pNotIn (kX 4) (kComp (iSeq (kX 2)) (gN 7) (some (bVal (k1 pNotN (kX 7)))) (kX 7) [7])))))
    sNil) sNil)
    (sCons (sIf (bVal (k2 pEq (kX 5) (kC (.str "not")))) (sCons (sRet (kNot (kCall (D_u_law_holds n).run (cV (kX 0) (cV (kX 1) (cV (kX 2) (cV (k2 pIx (kX 3) (kC (.int 1))) (cV (kX 4) cNil))))))))
    sNil) sNil)
    (sCons (sIf (bVal (k2 pIn (kX 5) (kTup (aCons (kC (.str "and")) (aCons (kC (.str "or")) aNil))))) (sCons (sSet 8 (kComp (iSeq (kSl (kX 3) (some (kC (.int 1))) none)) (gN 7) none (kCall (D_u_law_holds n).run (cV (kX 0) (cV (kX 1) (cV (kX 2) (cV (kX 7) (cV (kX 4) cNil)))))) [7]))
    (sCons (sRet (kIf (bVal (k2 pEq (kX 5) (kC (.str "and")))) (k2 pNotIn (kC (.bool false)) (kX 8)) (k2 pIn (kC (.bool true)) (kX 8))))
    sNil)) sNil)
    (sCons (sIf (bVal (k2 pEq (kX 5) (kC (.str "empty")))) (sCons (sRet (k1 pIsN (k2 pIx (kX 6) (k2 pIx (kX 3) (kC (.int 1))))))
    sNil) sNil)
    (sCons (sSet 7 (kIf (bVal (k2 pEq (kX 5) (kC (.str "it")))) (kX 4) (k2 pIx (kX 6) (k2 pIx (kX 3) (kC (.int 1))))))
    (sCons (sRet (kAnd (k1 pNotN (kX 7)) (k2 pEq (kX 7) (kCall (D_u_law_worth).run (cV (kX 1) (cV (kX 2) (cV (k2 pIx (kX 3) (k1 pNeg (kC (.int 1)))) (cV (kX 4) cNil))))))))
    sNil)))))))⟩
theorem I_u_law_holds : ∀ n, (D_u_law_holds n).io = []
  | 0 => rfl
  | _ + 1 => rfl
/-! ### _law_first_rule -/
abbrev s_u_law_first_rule : Stmt := top 23
abbrev N_u_law_first_rule : List Str := ["words", "program", "stand", "value", "rules", "some", "k", "mode", "is_yes"]
abbrev P_u_law_first_rule : List Str := ["words", "program", "stand", "value"]
def D_u_law_first_rule : Def := ⟨9, [],
    (sCons (sSet 4 (k2 pIx (kComp (iSeq (k2 pIx (kX 1) (kC (.int 3)))) (gT [(gN 7), (gN 8), (gN 4)]) (some (bVal (k2 pEq (kX 7) (k2 pIx (kX 2) (kC (.int 0)))))) (kX 4) [7, 8, 4]) (kC (.int 0))))
    (sCons (sSet 5 (kComp (iRg1 (k1 pLen (kX 4))) (gN 6) (some (bVal (kCall (D_u_law_holds 4).run (cV (kX 0) (cV (k2 pIx (kX 1) (kC (.int 2))) (cV (k2 pIx (kX 2) (kC (.int 1))) (cV (k2 pIx (k2 pIx (kX 4) (kX 6)) (kC (.int 0))) (cV (kX 3) cNil)))))))) (kX 6) [6]))
    (sCons (sRet (kIf (bVal (k2 pNe (kX 5) (kLst aNil))) (k2 pIx (kX 5) (kC (.int 0))) (kC .none)))
    sNil)))⟩
/-! ### _law_step -/
abbrev s_u_law_step : Stmt := top 24
abbrev N_u_law_step : List Str := ["words", "program", "stand", "value", "number", "boxes", "acts", "told", "late", "mode", "box", "worth", "act", "one", "is_yes", "rules"]
abbrev P_u_law_step : List Str := ["words", "program", "stand", "value"]
def D_u_law_step : Def := ⟨16, [],
    (sCons (sPar [4, 5] (lCons (kCall (D_u_law_first_rule).run (cV (kX 0) (cV (kX 1) (cV (kX 2) (cV (kX 3) cNil))))) (lCons (k2 pIx (kX 1) (kC (.int 2))) lNil)))
    (sCons (sIf (bVal (k1 pIsN (kX 4))) (sCons (sRet (kTup (aCons (kTup aNil) (aCons (kX 2) aNil))))
    sNil) sNil)
    (sCons (sSet 6 (k2 pIx (k2 pIx (k2 pIx (kComp (iSeq (k2 pIx (kX 1) (kC (.int 3)))) (gT [(gN 9), (gN 14), (gN 15)]) (some (bVal (k2 pEq (kX 9) (k2 pIx (kX 2) (kC (.int 0)))))) (kX 15) [9, 14, 15]) (kC (.int 0))) (kX 4)) (kC (.int 1))))
    (sCons (sSet 7 (kComp (iSeq (kX 6)) (gN 12) (some (bVal (k2 pEq (k2 pIx (kX 12) (kC (.int 0))) (kC (.str "tell"))))) (kCall (D_u_law_worth).run (cV (kX 5) (cV (k2 pIx (kX 2) (kC (.int 1))) (cV (k2 pIx (kX 12) (kC (.int 1))) (cV (kX 3) cNil))))) [12]))
    (sCons (sPar [8, 9] (lCons (kLst aNil) (lCons (k2 pIx (kX 2) (kC (.int 0))) lNil)))
    (sCons (sFor (iZip (kX 5) (k2 pIx (kX 2) (kC (.int 1)))) (gT [(gN 10), (gN 11)]) (sCons (sFor (iSeq (kX 6)) (gN 12) (sCons (sIf (bAnd (bVal (k2 pEq (k2 pIx (kX 12) (kC (.int 0))) (kC (.str "put")))) (bVal (k2 pEq (k2 pIx (kX 12) (kC (.int 2))) (kX 10)))) (sCons (sSet 11 (kCall (D_u_law_worth).run (cV (kX 5) (cV (k2 pIx (kX 2) (kC (.int 1))) (cV (k2 pIx (kX 12) (kC (.int 1))) (cV (kX 3) cNil))))))
    sNil) sNil)
    (sCons (sIf (bVal (k2 pEq (kX 12) (kTup (aCons (kC (.str "drop")) (aCons (kX 10) aNil))))) (sCons (sSet 11 (kC .none))
    sNil) sNil)
    sNil)))
    (sCons (sDrop (kApp 8 (kX 11)))
    sNil)))
    (sCons (sFor (iSeq (kX 6)) (gN 12) (sCons (sSet 9 (kIf (bVal (k2 pEq (k2 pIx (kX 12) (kC (.int 0))) (kC (.str "go")))) (k2 pIx (kX 12) (kC (.int 1))) (kX 9)))
    sNil))
    (sCons (sRet (kTup (aCons (k1 pTuple (kComp (iSeq (kX 7)) (gN 13) (some (bVal (k1 pNotN (kX 13)))) (kX 13) [13])) (aCons (kTup (aCons (kX 9) (aCons (k1 pTuple (kX 8)) aNil))) aNil))))
    sNil))))))))⟩
/-! ### _law_run -/
abbrev s_u_law_run : Stmt := top 25
abbrev N_u_law_run : List Str := ["words", "program", "row", "stand", "found", "value", "answer", "mode", "is_yes", "rules"]
abbrev P_u_law_run : List Str := ["words", "program", "row"]
def D_u_law_run : Def := ⟨10, [],
    (sCons (sPar [3, 4] (lCons (kTup (aCons (k2 pIx (k2 pIx (k2 pIx (kX 1) (kC (.int 3))) (kC (.int 0))) (kC (.int 0))) (aCons (k2 pMul (kTup (aCons (kC .none) aNil)) (k1 pLen (k2 pIx (kX 1) (kC (.int 2))))) aNil))) (lCons (kLst aNil) lNil)))
    (sCons (sFor (iSeq (kX 2)) (gN 5) (sCons (sUnp (gT [(gN 6), (gN 3)]) (kCall (D_u_law_step).run (cV (kX 0) (cV (kX 1) (cV (kX 3) (cV (kX 5) cNil))))))
    (sCons (sDrop (kApp 4 (kX 6)))
    sNil)))
    (sCons (sRet (kTup (aCons (k1 pTuple (kX 4)) (aCons (k2 pIx (kComp (iSeq (k2 pIx (kX 1) (kC (.int 3)))) (gT [(gN 7), (gN 8), (gN 9)]) (some (bVal (k2 pEq (kX 7) (k2 pIx (kX 3) (kC (.int 0)))))) (kX 8) [7, 8, 9]) (kC (.int 0))) (aCons (kX 3) aNil)))))
    sNil)))⟩
/-! ### first_stand -/
abbrev s_first_stand : Stmt := top 1
abbrev N_first_stand : List Str := ["program", "word", "name", "boxes", "modes"]
abbrev P_first_stand : List Str := ["program"]
def D_first_stand : Def := ⟨5, [],
    (sCons (sUnp (gT [(gN 1), (gN 2), (gN 3), (gN 4)]) (kX 0))
    (sCons (sRet (kTup (aCons (k2 pIx (k2 pIx (kX 4) (kC (.int 0))) (kC (.int 0))) (aCons (k2 pMul (kTup (aCons (kC .none) aNil)) (k1 pLen (kX 3))) aNil))))
    sNil))⟩
/-! ### program_yes -/
abbrev s_program_yes : Stmt := top 8
abbrev N_program_yes : List Str := ["program", "stand", "name", "is_yes", "rules"]
abbrev P_program_yes : List Str := ["program", "stand"]
def D_program_yes : Def := ⟨5, [],
    (sCons (sRet (k2 pIx (kComp (iSeq (k2 pIx (kX 0) (kC (.int 3)))) (gT [(gN 2), (gN 3), (gN 4)]) (some (bVal (k2 pEq (kX 2) (k2 pIx (kX 1) (kC (.int 0)))))) (kX 3) [2, 3, 4]) (kC (.int 0))))
    sNil)⟩
/-! ### rules_of -/
abbrev s_rules_of : Stmt := top 5
abbrev N_rules_of : List Str := ["program", "mode", "name", "is_yes", "rules"]
abbrev P_rules_of : List Str := ["program", "mode"]
def D_rules_of : Def := ⟨5, [],
    (sCons (sRet (k2 pIx (kComp (iSeq (k2 pIx (kX 0) (kC (.int 3)))) (gT [(gN 2), (gN 3), (gN 4)]) (some (bVal (k2 pEq (kX 2) (kX 1)))) (kX 4) [2, 3, 4]) (kC (.int 0))))
    sNil)⟩
/-! ### thing_value -/
abbrev s_thing_value : Stmt := top 2
abbrev N_thing_value : List Str := ["boxes", "values", "thing", "value"]
abbrev P_thing_value : List Str := ["boxes", "values", "thing", "value"]
def D_thing_value : Def := ⟨4, [],
    (sCons (sIf (bVal (k2 pEq (k2 pIx (kX 2) (kC (.int 0))) (kC (.str "it")))) (sCons (sRet (kX 3))
    sNil) sNil)
    (sCons (sRet (kIf (bVal (k2 pEq (k2 pIx (kX 2) (kC (.int 0))) (kC (.str "box")))) (k2 pIx (kX 1) (kIndex (kX 0) (k2 pIx (kX 2) (kC (.int 1))))) (k2 pIx (kX 2) (kC (.int 1)))))
    sNil))⟩
/-! ### simple_holds -/
abbrev s_simple_holds : Stmt := top 3
abbrev N_simple_holds : List Str := ["words", "boxes", "values", "condition", "value", "here"]
abbrev P_simple_holds : List Str := ["words", "boxes", "values", "condition", "value"]
def D_simple_holds : Def := ⟨6, [],
    (sCons (sIf (bVal (k2 pEq (k2 pIx (kX 3) (kC (.int 0))) (kC (.str "any")))) (sCons (sRet (kC (.bool true)))
    sNil) sNil)
    (sCons (sIf (bVal (k2 pEq (k2 pIx (kX 3) (kC (.int 0))) (kC (.str "new")))) (sCons (sRet (kAnd (k2 pNotIn (kX 4) (kX 0)) (k2 pNotIn (kX 4) (kX 2))))
    sNil) sNil)
    (sCons (sIf (bVal (k2 pEq (k2 pIx (kX 3) (kC (.int 0))) (kC (.str "it")))) (sCons (sRet (k2 pEq (kCall (D_thing_value).run (cV (kX 1) (cV (kX 2) (cV (k2 pIx (kX 3) (kC (.int 1))) (cV (kX 4) cNil))))) (kX 4)))
    sNil) sNil)
    (sCons (sSet 5 (k2 pIx (kX 2) (kIndex (kX 1) (k2 pIx (kX 3) (kC (.int 1))))))
    (sCons (sIf (bVal (k2 pEq (k2 pIx (kX 3) (kC (.int 0))) (kC (.str "empty")))) (sCons (sRet (k1 pIsN (kX 5)))
    sNil) sNil)
    (sCons (sRet (kAnd (k1 pNotN (kX 5)) (k2 pEq (kX 5) (kCall (D_thing_value).run (cV (kX 1) (cV (kX 2) (cV (k2 pIx (kX 3) (kC (.int 2))) (cV (kX 4) cNil))))))))
    sNil))))))⟩
/-! ### does_hold -/
abbrev s_does_hold : Stmt := top 4
abbrev N_does_hold : List Str := ["words", "boxes", "values", "condition", "value", "line", "done", "here", "is_begun", "one", "other"]
abbrev P_does_hold : List Str := ["words", "boxes", "values", "condition", "value"]
def D_does_hold : Def := ⟨11, [],
    (sCons (sPar [5, 6] (lCons (kLst (aCons (kTup (aCons (kX 3) (aCons (kC (.bool false)) aNil))) aNil)) (lCons (kLst aNil) lNil)))
    (sCons (sWhile (bVal (k2 pNe (kX 5) (kLst aNil))) (sCons (sUnp (gT [(gN 7), (gN 8)]) (kPopL 5))
    (sCons (sIf (bVal (k2 pNotIn (k2 pIx (kX 7) (kC (.int 0))) (kTup (aCons (kC (.str "not")) (aCons (kC (.str "and")) (aCons (kC (.str "or")) aNil)))))) (sCons (sDrop (kApp 6 (kCall (D_simple_holds).run (cV (kX 0) (cV (kX 1) (cV (kX 2) (cV (kX 7) (cV (kX 4) cNil))))))))
    sNil) (sCons (sIf (bNot (bVal (kX 8))) (sCons (sDrop (kApp 5 (kTup (aCons (kX 7) (aCons (kC (.bool true)) aNil)))))
    (sCons (sDrop (kExt 5 (kComp (iSeq (kSl (kX 7) (some (kC (.int 1))) none)) (gN 9) none (kTup (aCons (kX 9) (aCons (kC (.bool false)) aNil))) [9])))
    sNil)) (sCons (sIf (bVal (k2 pEq (k2 pIx (kX 7) (kC (.int 0))) (kC (.str "not")))) (sCons (sDrop (kApp 6 (kNot (kPopL 6))))
    sNil) (sCons (sPar [9, 10] (lCons (kPopL 6) (lCons (kPopL 6) lNil)))
    (sCons (sDrop (kApp 6 (kIf (bVal (k2 pEq (k2 pIx (kX 7) (kC (.int 0))) (kC (.str "and")))) (kAnd (kX 9) (kX 10)) (kOr (kX 9) (kX 10)))))
    sNil)))
    sNil))
    sNil))
    sNil)))
    (sCons (sRet (k2 pIx (kX 6) (kC (.int 0))))
    sNil)))⟩
/-! ### rule_done -/
abbrev s_rule_done : Stmt := top 6
abbrev N_rule_done : List Str := ["words", "program", "stand", "value", "mode", "values", "number", "condition", "acts"]
abbrev P_rule_done : List Str := ["words", "program", "stand", "value"]
def D_rule_done : Def := ⟨9, [],
    (sCons (sUnp (gT [(gN 4), (gN 5)]) (kX 2))
    (sCons (sFor (iEnum (kCall (D_rules_of).run (cV (kX 1) (cV (kX 4) cNil)))) (gT [(gN 6), (gT [(gN 7), (gN 8)])]) (sCons (sIf (bVal (kCall (D_does_hold).run (cV (kX 0) (cV (k2 pIx (kX 1) (kC (.int 2))) (cV (kX 5) (cV (kX 7) (cV (kX 3) cNil))))))) (sCons (sRet (kX 6))
    sNil) sNil)
    sNil))
    (sCons (sRet (kC .none))
    sNil)))⟩
/-! ### program_step -/
abbrev s_program_step : Stmt := top 7
abbrev N_program_step : List Str := ["words", "program", "stand", "value", "number", "boxes", "mode", "values", "told", "late", "to", "act", "one"]
abbrev P_program_step : List Str := ["words", "program", "stand", "value"]
def D_program_step : Def := ⟨13, [],
    (sCons (sUnp (gT [(gN 4), (gN 5), (gT [(gN 6), (gN 7)])]) (kTup (aCons (kCall (D_rule_done).run (cV (kX 0) (cV (kX 1) (cV (kX 2) (cV (kX 3) cNil))))) (aCons (k2 pIx (kX 1) (kC (.int 2))) (aCons (kX 2) aNil)))))
    (sCons (sIf (bVal (k1 pIsN (kX 4))) (sCons (sRet (kTup (aCons (kTup aNil) (aCons (kX 2) aNil))))
    sNil) sNil)
    (sCons (sPar [8, 9, 10] (lCons (kLst aNil) (lCons (k1 pList (kX 7)) (lCons (kX 6) lNil))))
    (sCons (sFor (iSeq (k2 pIx (k2 pIx (kCall (D_rules_of).run (cV (kX 1) (cV (kX 6) cNil))) (kX 4)) (kC (.int 1)))) (gN 11) (sCons (sIf (bVal (k2 pEq (k2 pIx (kX 11) (kC (.int 0))) (kC (.str "tell")))) (sCons (sDrop (kApp 8 (kCall (D_thing_value).run (cV (kX 5) (cV (kX 7) (cV (k2 pIx (kX 11) (kC (.int 1))) (cV (kX 3) cNil)))))))
    sNil) (sCons (sIf (bVal (k2 pEq (k2 pIx (kX 11) (kC (.int 0))) (kC (.str "put")))) (sCons (sPt 9 (kIndex (kX 5) (k2 pIx (kX 11) (kC (.int 2)))) (kCall (D_thing_value).run (cV (kX 5) (cV (kX 7) (cV (k2 pIx (kX 11) (kC (.int 1))) (cV (kX 3) cNil))))))
    sNil) (sCons (sIf (bVal (k2 pEq (k2 pIx (kX 11) (kC (.int 0))) (kC (.str "drop")))) (sCons (sPt 9 (kIndex (kX 5) (k2 pIx (kX 11) (kC (.int 1)))) (kC .none))
    sNil) (sCons (sSet 10 (k2 pIx (kX 11) (kC (.int 1))))
    sNil))
    sNil))
    sNil))
    sNil))
    (sCons (sRet (kTup (aCons (k1 pTuple (kComp (iSeq (kX 8)) (gN 12) (some (bVal (k1 pNotN (kX 12)))) (kX 12) [12])) (aCons (kTup (aCons (kX 10) (aCons (k1 pTuple (kX 9)) aNil))) aNil))))
    sNil)))))⟩
/-! ### program_run -/
abbrev s_program_run : Stmt := top 9
abbrev N_program_run : List Str := ["words", "program", "lots", "stand", "found", "lot", "told", "value", "answer"]
abbrev P_program_run : List Str := ["words", "program", "lots"]
def D_program_run : Def := ⟨9, [],
    (sCons (sPar [3, 4] (lCons (kCall (D_first_stand).run (cV (kX 1) cNil)) (lCons (kLst aNil) lNil)))
    (sCons (sFor (iSeq (kX 2)) (gN 5) (sCons (sSet 6 (kLst aNil))
    (sCons (sFor (iSeq (kX 5)) (gN 7) (sCons (sUnp (gT [(gN 8), (gN 3)]) (kCall (D_program_step).run (cV (kX 0) (cV (kX 1) (cV (kX 3) (cV (kX 7) cNil))))))
    (sCons (sDrop (kExt 6 (kX 8)))
    sNil)))
    (sCons (sDrop (kApp 4 (k1 pTuple (kX 6))))
    sNil))))
    (sCons (sRet (kTup (aCons (k1 pTuple (kX 4)) (aCons (kCall (D_program_yes).run (cV (kX 1) (cV (kX 3) cNil))) (aCons (kX 3) aNil)))))
    sNil)))⟩
/-! ### law -/
abbrev s_law : Stmt := top 26
abbrev N_law : List Str := ["script", "source", "words", "some", "lap", "program", "row", "rules", "fixed", "due", "kept", "stand", "value", "answers", "is_yes", "k", "lots", "both", "part", "number", "mode", "thing", "told", "answer", "condition", "acts"]
abbrev P_law : List Str := ["script"]
def D_law : Def := ⟨26, [],
    (sCons (sSet 1 (kCall (D_u_law_source).run (cPass 0 cNil)))
    (sCons (sSet 2 (kCall (D_u_law_words).run (cMv 1 cNil)))
    (sCons (sSet 3 (kLst aNil))
    (sCons (sFor (iRg1 (kC (.int 3))) (gN 4) (sCons (sSet 5 (kCall (D_u_law_program).run (cMv 1 (cV (kX 2) (cV (kC (.str "p")) (cV (kC (.int 3)) (cV (kC (.int 3)) cNil)))))))
    (sCons (sSet 6 (kCall (D_u_law_row).run (cMv 1 (cV (kX 2) (cV (kCall (D_u_law_of).run (cMv 1 (cV (kLst (aCons (kC (.int 3)) (aCons (kC (.int 6)) (aCons (kC (.int 9)) (aCons (kC (.int 40)) aNil))))) cNil))) cNil)))))
    (sCons (sDrop (kApp 3 (kTup (aCons (kX 5) (aCons (kX 6) aNil)))))
    (sCons (sPar [10, 11] (lCons (k1 pRepr (kX 5)) (lCons (kTup (aCons (k2 pIx (k2 pIx (k2 pIx (kX 5) (kC (.int 3))) (kC (.int 0))) (kC (.int 0))) (aCons (k2 pMul (kTup (aCons (kC .none) aNil)) (k1 pLen (k2 pIx (kX 5) (kC (.int 2))))) aNil))) lNil)))
    (sCons (sIf (bVal (k2 pNeS (k1 pRepr (kCall (D_first_stand).run (cV (kX 5) cNil))) (k1 pRepr (kX 11)))) (sCons (sRet (kC (.bool false)))
    sNil) sNil)
    (sCons (sFor (iSeq (kSl (kX 6) none (some (kC (.int 12))))) (gN 12) (sCons (sSet 19 (kCall (D_u_law_first_rule).run (cV (kX 2) (cV (kX 5) (cV (kX 11) (cV (kX 12) cNil))))))
    (sCons (sIf (bVal (k2 pNeS (k1 pRepr (kCall (D_rule_done).run (cV (kX 2) (cV (kX 5) (cV (kX 11) (cV (kX 12) cNil)))))) (k1 pRepr (kX 19)))) (sCons (sRet (kC (.bool false)))
    sNil) sNil)
    (sCons (sFor (iSeq (k2 pIx (kX 5) (kC (.int 3)))) (gT [(gN 20), (gN 14), (gN 7)]) (sCons (sIf (bVal (k2 pEq (kX 20) (k2 pIx (kX 11) (kC (.int 0))))) (sCons (sFor (iSeq (kSl (kX 7) none (some (kC (.int 2))))) (gT [(gN 24), (gN 25)]) (sCons (sSet 9 (kCall (D_u_law_holds 4).run (cV (kX 2) (cV (k2 pIx (kX 5) (kC (.int 2))) (cV (k2 pIx (kX 11) (kC (.int 1))) (cV (kX 24) (cV (kX 12) cNil)))))))
    (sCons (sIf (bVal (k2 pNeS (k1 pRepr (kCall (D_does_hold).run (cV (kX 2) (cV (k2 pIx (kX 5) (kC (.int 2))) (cV (k2 pIx (kX 11) (kC (.int 1))) (cV (kX 24) (cV (kX 12) cNil))))))) (k1 pRepr (kX 9)))) (sCons (sRet (kC (.bool false)))
    sNil) sNil)
    sNil)))
    (sCons (sIf (bVal (k2 pNeS (k1 pRepr (kCall (D_program_yes).run (cV (kX 5) (cV (kX 11) cNil)))) (k1 pRepr (kX 14)))) (sCons (sRet (kC (.bool false)))
    sNil) sNil)
    sNil)) sNil)
    sNil))
    (sCons (sSet 21 (kCall (D_u_law_thing).run (cMv 1 (cV (kX 2) (cV (k2 pIx (kX 5) (kC (.int 2))) cNil)))))
    (sCons (sSet 9 (kCall (D_u_law_worth).run (cV (k2 pIx (kX 5) (kC (.int 2))) (cV (k2 pIx (kX 11) (kC (.int 1))) (cV (kX 21) (cV (kX 12) cNil))))))
    (sCons (sIf (bVal (k2 pNeS (k1 pRepr (kCall (D_thing_value).run (cV (k2 pIx (kX 5) (kC (.int 2))) (cV (k2 pIx (kX 11) (kC (.int 1))) (cV (kX 21) (cV (kX 12) cNil)))))) (k1 pRepr (kX 9)))) (sCons (sRet (kC (.bool false)))
    sNil) sNil)
    (sCons (sSet 22 (kCall (D_program_step).run (cV (kX 2) (cV (kX 5) (cV (kX 11) (cV (kX 12) cNil))))))
    (sCons (sIf (bVal (k2 pNeS (k1 pRepr (kX 22)) (k1 pRepr (kCall (D_u_law_step).run (cV (kX 2) (cV (kX 5) (cV (kX 11) (cV (kX 12) cNil)))))))) (sCons (sRet (kC (.bool false)))
    sNil) sNil)
    (sCons (sSet 11 (k2 pIx (kX 22) (kC (.int 1))))
    sNil))))))))))
    (sCons (sIf (bVal (k2 pNeS (k1 pRepr (kX 5)) (kX 10))) (sCons (sRet (kC (.bool false)))
    sNil) sNil)
    sNil))))))))
    (sCons (sFor (iSeq (k2 pAdd (kX 3) (k1 pRev (kX 3)))) (gT [(gN 5), (gN 6)]) (sCons (sUnp (gT [(gN 13), (gN 14), (gN 11)]) (kCall (D_u_law_run).run (cV (kX 2) (cV (kX 5) (cV (kX 6) cNil)))))
    (sCons (sIf (bVal (k2 pNeS (k1 pRepr (kCall (D_program_run).run (cV (kX 2) (cV (kX 5) (cV (k1 pTuple (kComp (iSeq (kX 6)) (gN 12) none (kTup (aCons (kX 12) aNil)) [12])) cNil))))) (k1 pRepr (kTup (aCons (kX 13) (aCons (kX 14) (aCons (kX 11) aNil))))))) (sCons (sRet (kC (.bool false)))
    sNil) sNil)
    (sCons (sSet 15 (kCall (D_u_law_pick).run (cMv 1 (cV (k2 pAdd (k1 pLen (kX 6)) (kC (.int 1))) cNil))))
    (sCons (sSet 16 (kTup (aCons (kSl (kX 6) none (some (kX 15))) (aCons (kTup aNil) (aCons (kSl (kX 6) (some (kX 15)) none) aNil)))))
    (sCons (sSet 17 (kLst aNil))
    (sCons (sFor (iSeq (kTup (aCons (kSl (kX 13) none (some (kX 15))) (aCons (kTup aNil) (aCons (kSl (kX 13) (some (kX 15)) none) aNil))))) (gN 18) (sCons (sSet 22 (kTup aNil))
    (sCons (sFor (iSeq (kX 18)) (gN 23) (sCons (sSet 22 (k2 pAdd (kX 22) (kX 23)))
    sNil))
    (sCons (sDrop (kApp 17 (kX 22)))
    sNil))))
    (sCons (sIf (bVal (k2 pNeS (k1 pRepr (kCall (D_program_run).run (cV (kX 2) (cV (kX 5) (cV (kX 16) cNil))))) (k1 pRepr (kTup (aCons (k1 pTuple (kX 17)) (aCons (kX 14) (aCons (kX 11) aNil))))))) (sCons (sRet (kC (.bool false)))
    sNil) sNil)
    sNil))))))))
    (sCons (sSet 7 (kTup (aCons (kTup (aCons (kTup (aCons (kC (.str "empty")) (aCons (kC (.str "x")) aNil))) (aCons (kTup (aCons (kTup (aCons (kC (.str "put")) (aCons (kTup (aCons (kC (.str "it")) aNil)) (aCons (kC (.str "x")) aNil)))) aNil)) aNil))) aNil)))
    (sCons (sSet 7 (k2 pAdd (kX 7) (kTup (aCons (kTup (aCons (kTup (aCons (kC (.str "it")) (aCons (kTup (aCons (kC (.str "box")) (aCons (kC (.str "x")) aNil))) aNil))) (aCons (kTup (aCons (kTup (aCons (kC (.str "tell")) (aCons (kTup (aCons (kC (.str "box")) (aCons (kC (.str "x")) aNil))) aNil))) (aCons (kTup (aCons (kC (.str "drop")) (aCons (kC (.str "x")) aNil))) aNil))) aNil))) aNil))))
    (sCons (sSet 8 (kTup (aCons (kC (.str "program")) (aCons (kC (.str "p")) (aCons (kTup (aCons (kC (.str "x")) aNil)) (aCons (kTup (aCons (kTup (aCons (kC (.str "m")) (aCons (kC (.bool false)) (aCons (kX 7) aNil)))) aNil)) aNil))))))
    (sCons (sSet 9 (kTup (aCons (kTup (aCons (kTup aNil) (aCons (kTup aNil) (aCons (kTup (aCons (kC (.str "a")) aNil)) (aCons (kTup aNil) aNil))))) (aCons (kC (.bool false)) (aCons (kTup (aCons (kC (.str "m")) (aCons (kTup (aCons (kC (.str "a")) aNil)) aNil))) aNil)))))
    (sCons (sRet (k2 pEq (kCall (D_program_run).run (cV (kTup aNil) (cV (kX 8) (cV (kTup (aCons (kTup (aCons (kC (.str "a")) aNil)) (aCons (kTup (aCons (kC (.str "b")) aNil)) (aCons (kTup (aCons (kC (.str "a")) aNil)) (aCons (kTup (aCons (kC (.str "a")) aNil)) aNil))))) cNil)))) (kX 9)))
    sNil))))))))))⟩
section
variable {P : Program} {w0 : World} {K : PySem.W.Frag} {mg : Str → Option Value} {base : Heap} {f : Addr} {fd : FuncData} {cdv : Value} {A : Around} {outer : List Env} {s : Shared} {H : Hp} {E : XK}

theorem sc_u_law_source : FnScope N_u_law_source P_u_law_source (defScope s_u_law_source) := ⟨rfl, rfl, rfl, by decide +kernel, rfl, by decide +kernel, by decide +kernel⟩
theorem d_u_law_source (M : MG mg)  (room : Room 0 (A.deeper (envOfC "_law_source" (defScope s_u_law_source) s.heap.objs.size f cdv))) (gd : A.guards = some []) :
    GSs (W0 K) [] (bodyCx P w0 K mg base N_u_law_source "_law_source" s_u_law_source f cdv A outer s H E) (defBody s_u_law_source) D_u_law_source.body := by
  have c : Cok (W0 K) 0 (bodyCx P w0 K mg base N_u_law_source "_law_source" s_u_law_source f cdv A outer s H E) := ⟨rfl, rfl, sc_u_law_source.nd, room, gd⟩
  simp only [D_u_law_source]
  exact (gss_cons (gs_set 1 c.nd ge_int)
    (gss_cons (gs_for c PassesOwn.never (gi_scr c 0) (gg_n 2 c.nd) (gss_cons (gs_set 1 c.nd (ge_mod (ge_intF M.n_int (ge_add c (ge_add c (ge_mul c (ge_v 1) ge_int) (ge_mul c (ge_v 2) ge_int)) ge_int)) ge_int))
    gss_nil))
    (gss_cons (gs_ret (ge_src (ge_rev (ge_lc [("cell", 2)] c (gi_scr c 0) (by kernel_rfl) (fun _ _ _ _ _ => (gg_n 2 c.blk.nd)) (fun _ _ _ _ _ => gc_no) (fun _ _ _ _ _ => (ge_abs M.n_abs (ge_v 2))))) ge_int (ge_v 1) ge_int))
    gss_nil)))
theorem ok_u_law_source (F : L2.Fun K "_law_source" "_law_source" s_u_law_source f fd) (M : MG mg)  : FnG P w0 K mg base (0 + 1) f fd P_u_law_source (spD (W0 K) 1 D_u_law_source) :=
  fnD_of F sc_u_law_source rfl (show ([] : List Nat).Nodup by decide) (show ∀ i ∈ ([] : List Nat), i < P_u_law_source.length by decide) fun cdv A outer s H E room gd => d_u_law_source M  room gd
theorem sc_u_law_pick : FnScope N_u_law_pick P_u_law_pick (defScope s_u_law_pick) := ⟨rfl, rfl, rfl, by decide +kernel, rfl, by decide +kernel, by decide +kernel⟩
theorem d_u_law_pick (M : MG mg)  (room : Room 0 (A.deeper (envOfC "_law_pick" (defScope s_u_law_pick) s.heap.objs.size f cdv))) (gd : A.guards = some []) :
    GSs (W0 K) [0] (bodyCx P w0 K mg base N_u_law_pick "_law_pick" s_u_law_pick f cdv A outer s H E) (defBody s_u_law_pick) D_u_law_pick.body := by
  have c : Cok (W0 K) 0 (bodyCx P w0 K mg base N_u_law_pick "_law_pick" s_u_law_pick f cdv A outer s H E) := ⟨rfl, rfl, sc_u_law_pick.nd, room, gd⟩
  simp only [D_u_law_pick]
  exact (gss_cons (gs_while PassesOwn.never (gb_and (gb_gt (ge_v 1) ge_int) (gb_and (gb_lt (ge_srcI c 0 .left) ge_int) (gb_and1 (gb_gt (ge_srcLen M.n_len c 0) ge_int)))).pt (gss_cons (gs_srcPut c 0 .left (ge_srcPop c 0))
    gss_nil))
    (gss_cons (gs_set 2 c.nd (ge_srcI c 0 .left))
    (gss_cons (gs_if (gb_or (gb_lt (ge_v 1) ge_int) (gb_or1 (gb_gt (ge_v 2) ge_int))).pt (gss_cons (gs_srcPut c 0 .left (ge_div (ge_v 2) (ge_max2 M.n_max c ge_int (ge_v 1))))
    (gss_cons (gs_ret (ge_mod (ge_intF M.n_int (ge_v 2)) (ge_max2 M.n_max c ge_int (ge_v 1))))
    gss_nil)) gss_nil)
    (gss_cons (gs_srcPut c 0 .turn (ge_add c (ge_srcI c 0 .turn) ge_int))
    (gss_cons (gs_set 3 c.nd (ge_mod (ge_intF M.n_int (ge_add c (ge_srcI c 0 .mixed) (ge_mul c (ge_srcI c 0 .turn) ge_int))) ge_int))
    (gss_cons (gs_set 3 c.nd (ge_mod (ge_intF M.n_int (ge_add c (ge_mul c (ge_v 3) (ge_v 3)) (ge_mul c (ge_srcI c 0 .turn) ge_int))) ge_int))
    (gss_cons (gs_srcPut c 0 .mixed (ge_v 3))
    (gss_cons (gs_ret (ge_mod (ge_intF M.n_int (ge_div (ge_v 3) ge_int)) (ge_v 1)))
    gss_nil))))))))
theorem ok_u_law_pick (F : L2.Fun K "_law_pick" "_law_pick" s_u_law_pick f fd) (M : MG mg)  : FnG P w0 K mg base (0 + 1) f fd P_u_law_pick (spD (W0 K) 2 D_u_law_pick) :=
  fnD_of F sc_u_law_pick rfl (show ([0] : List Nat).Nodup by decide) (show ∀ i ∈ ([0] : List Nat), i < P_u_law_pick.length by decide) fun cdv A outer s H E room gd => d_u_law_pick M  room gd
theorem sc_u_law_of : FnScope N_u_law_of P_u_law_of (defScope s_u_law_of) := ⟨rfl, rfl, rfl, by decide +kernel, rfl, by decide +kernel, by decide +kernel⟩
theorem d_u_law_of (M : MG mg) (C_u_law_pick : CalG P w0 K mg base 1 "_law_pick" (spD (W0 K) 2 D_u_law_pick)) (room : Room 1 (A.deeper (envOfC "_law_of" (defScope s_u_law_of) s.heap.objs.size f cdv))) (gd : A.guards = some []) :
    GSs (W0 K) [0] (bodyCx P w0 K mg base N_u_law_of "_law_of" s_u_law_of f cdv A outer s H E) (defBody s_u_law_of) D_u_law_of.body := by
  have c : Cok (W0 K) 1 (bodyCx P w0 K mg base N_u_law_of "_law_of" s_u_law_of f cdv A outer s H E) := ⟨rfl, rfl, sc_u_law_of.nd, room, gd⟩
  simp only [D_u_law_of]
  exact (gss_cons (gs_ret (ge_ix c (ge_v 1) (ge_call c C_u_law_pick (gr_io 0 (gr_v (ge_len M.n_len c (ge_v 1)) gr_nil)) (by omega))))
    gss_nil)
theorem ok_u_law_of (F : L2.Fun K "_law_of" "_law_of" s_u_law_of f fd) (M : MG mg) (C_u_law_pick : CalG P w0 K mg base 1 "_law_pick" (spD (W0 K) 2 D_u_law_pick)) : FnG P w0 K mg base (1 + 1) f fd P_u_law_of (spD (W0 K) 2 D_u_law_of) :=
  fnD_of F sc_u_law_of rfl (show ([0] : List Nat).Nodup by decide) (show ∀ i ∈ ([0] : List Nat), i < P_u_law_of.length by decide) fun cdv A outer s H E room gd => d_u_law_of M C_u_law_pick room gd
theorem sc_u_law_words : FnScope N_u_law_words P_u_law_words (defScope s_u_law_words) := ⟨rfl, rfl, rfl, by decide +kernel, rfl, by decide +kernel, by decide +kernel⟩
theorem d_u_law_words (M : MG mg) (C_u_law_of : CalG P w0 K mg base 2 "_law_of" (spD (W0 K) 2 D_u_law_of)) (room : Room 2 (A.deeper (envOfC "_law_words" (defScope s_u_law_words) s.heap.objs.size f cdv))) (gd : A.guards = some []) :
    GSs (W0 K) [0] (bodyCx P w0 K mg base N_u_law_words "_law_words" s_u_law_words f cdv A outer s H E) (defBody s_u_law_words) D_u_law_words.body := by
  have c : Cok (W0 K) 2 (bodyCx P w0 K mg base N_u_law_words "_law_words" s_u_law_words f cdv A outer s H E) := ⟨rfl, rfl, sc_u_law_words.nd, room, gd⟩
  simp only [D_u_law_words]
  exact (gss_cons (gs_ret (ge_call c C_u_law_of (gr_io 0 (gr_v (ge_lst (ga_cons (ge_tup ga_nil) (ga_cons (ge_tup ga_nil) (ga_cons (ge_tup (ga_cons ge_str ga_nil)) (ga_cons (ge_tup (ga_cons ge_str (ga_cons ge_str ga_nil))) ga_nil))))) gr_nil)) (by omega)))
    gss_nil)
theorem ok_u_law_words (F : L2.Fun K "_law_words" "_law_words" s_u_law_words f fd) (M : MG mg) (C_u_law_of : CalG P w0 K mg base 2 "_law_of" (spD (W0 K) 2 D_u_law_of)) : FnG P w0 K mg base (2 + 1) f fd P_u_law_words (spD (W0 K) 1 D_u_law_words) :=
  fnD_of F sc_u_law_words rfl (show ([0] : List Nat).Nodup by decide) (show ∀ i ∈ ([0] : List Nat), i < P_u_law_words.length by decide) fun cdv A outer s H E room gd => d_u_law_words M C_u_law_of room gd
theorem sc_u_law_thing : FnScope N_u_law_thing P_u_law_thing (defScope s_u_law_thing) := ⟨rfl, rfl, rfl, by decide +kernel, rfl, by decide +kernel, by decide +kernel⟩
theorem d_u_law_thing (M : MG mg) (C_u_law_of : CalG P w0 K mg base 2 "_law_of" (spD (W0 K) 2 D_u_law_of)) (room : Room 2 (A.deeper (envOfC "_law_thing" (defScope s_u_law_thing) s.heap.objs.size f cdv))) (gd : A.guards = some []) :
    GSs (W0 K) [0] (bodyCx P w0 K mg base N_u_law_thing "_law_thing" s_u_law_thing f cdv A outer s H E) (defBody s_u_law_thing) D_u_law_thing.body := by
  have c : Cok (W0 K) 2 (bodyCx P w0 K mg base N_u_law_thing "_law_thing" s_u_law_thing f cdv A outer s H E) := ⟨rfl, rfl, sc_u_law_thing.nd, room, gd⟩
  simp only [D_u_law_thing]
  exact (gss_cons (gs_set 3 c.nd (ge_add c (ge_add c (ge_lst (ga_cons (ge_tup (ga_cons ge_str ga_nil)) ga_nil)) (ge_lc [("box", 5)] c (gi_seq c (ge_v 2)) (by kernel_rfl) (fun _ _ _ _ _ => (gg_n 5 c.blk.nd)) (fun _ _ _ _ _ => gc_no) (fun _ _ _ _ _ => (ge_tup (ga_cons ge_str (ga_cons (ge_v 5) ga_nil)))))) (ge_lc [("word", 4)] c (gi_seq c (ge_v 1)) (by kernel_rfl) (fun _ _ _ _ _ => (gg_n 4 c.blk.nd)) (fun _ _ _ _ _ => gc_no) (fun _ _ _ _ _ => (ge_tup (ga_cons ge_str (ga_cons (ge_v 4) ga_nil)))))))
    (gss_cons (gs_ret (ge_call c C_u_law_of (gr_io 0 (gr_v (ge_v 3) gr_nil)) (by omega)))
    gss_nil))
theorem ok_u_law_thing (F : L2.Fun K "_law_thing" "_law_thing" s_u_law_thing f fd) (M : MG mg) (C_u_law_of : CalG P w0 K mg base 2 "_law_of" (spD (W0 K) 2 D_u_law_of)) : FnG P w0 K mg base (2 + 1) f fd P_u_law_thing (spD (W0 K) 3 D_u_law_thing) :=
  fnD_of F sc_u_law_thing rfl (show ([0] : List Nat).Nodup by decide) (show ∀ i ∈ ([0] : List Nat), i < P_u_law_thing.length by decide) fun cdv A outer s H E room gd => d_u_law_thing M C_u_law_of room gd
theorem sc_u_law_condition : FnScope N_u_law_condition P_u_law_condition (defScope s_u_law_condition) := ⟨rfl, rfl, rfl, by decide +kernel, rfl, by decide +kernel, by decide +kernel⟩
theorem d_u_law_condition (n : Nat) (M : MG mg) (C_u_law_pick : CalG P w0 K mg base 1 "_law_pick" (spD (W0 K) 2 D_u_law_pick)) (C_u_law_of : CalG P w0 K mg base 2 "_law_of" (spD (W0 K) 2 D_u_law_of)) (C_u_law_condition : CalG P w0 K mg base (3 + n) "_law_condition" (spD (W0 K) 4 (D_u_law_condition n))) (C_u_law_thing : CalG P w0 K mg base 3 "_law_thing" (spD (W0 K) 3 D_u_law_thing)) (room : Room (3 + n) (A.deeper (envOfC "_law_condition" (defScope s_u_law_condition) s.heap.objs.size f cdv))) (gd : A.guards = some []) :
    GSs (W0 K) [0] (bodyCx P w0 K mg base N_u_law_condition "_law_condition" s_u_law_condition f cdv A outer s H E) (defBody s_u_law_condition) (D_u_law_condition (n + 1)).body := by
  have c : Cok (W0 K) (3 + n) (bodyCx P w0 K mg base N_u_law_condition "_law_condition" s_u_law_condition f cdv A outer s H E) := ⟨rfl, rfl, sc_u_law_condition.nd, room, gd⟩
  simp only [D_u_law_condition]
  exact (gss_cons (gs_set 4 c.nd (ge_call c C_u_law_pick (gr_io 0 (gr_v ge_int gr_nil)) (by omega)))
    (gss_cons (gs_if (gb_and (gb_gt (ge_v 3) ge_int) (gb_and1 (gb_lt (ge_v 4) ge_int))).pt (gss_cons (gs_setLc 6 [("side", 7)] c (gi_rg1 M.n_range (ge_add c ge_int (ge_intF M.n_int (ge_gt (ge_v 4) ge_int)))) (by kernel_rfl) (fun _ _ _ _ _ => (gg_n 7 c.blk.nd)) (fun _ _ _ _ _ => gc_no) (fun _ _ _ _ _ => (ge_call c.blk C_u_law_condition (gr_io 0 (gr_v (ge_v 1) (gr_v (ge_v 2) (gr_v (ge_sub (ge_v 3) ge_int) gr_nil)))) (by omega) (by rw [I_u_law_condition n]; rfl))))
    (gss_cons (gs_ret (ge_add c (ge_tup (ga_cons (ge_ix c (ge_lst (ga_cons ge_str (ga_cons ge_str (ga_cons ge_str ga_nil)))) (ge_v 4)) ga_nil)) (ge_tuple M.n_tuple c (ge_v 6))))
    gss_nil)) gss_nil)
    (gss_cons (gs_if (gb_or (gb_eq c (ge_v 2) (ge_tup ga_nil)) (gb_or1 (gb_eq c (ge_v 4) ge_int))).pt (gss_cons (gs_ret (ge_call c C_u_law_of (gr_io 0 (gr_v (ge_lst (ga_cons (ge_tup (ga_cons ge_str ga_nil)) (ga_cons (ge_tup (ga_cons ge_str ga_nil)) (ga_cons (ge_tup (ga_cons ge_str (ga_cons (ge_call c C_u_law_thing (gr_io 0 (gr_v (ge_v 1) (gr_v (ge_v 2) gr_nil))) (by omega)) ga_nil))) ga_nil)))) gr_nil)) (by omega)))
    gss_nil) gss_nil)
    (gss_cons (gs_if (gb_lt (ge_v 4) ge_int) (gss_cons (gs_ret (ge_tup (ga_cons ge_str (ga_cons (ge_call c C_u_law_thing (gr_io 0 (gr_v (ge_v 1) (gr_v (ge_v 2) gr_nil))) (by omega)) ga_nil))))
    gss_nil) gss_nil)
    (gss_cons (gs_if (gb_eq c (ge_v 4) ge_int) (gss_cons (gs_ret (ge_tup (ga_cons ge_str ga_nil)))
    gss_nil) gss_nil)
    (gss_cons (gs_set 5 c.nd (ge_call c C_u_law_of (gr_io 0 (gr_v (ge_list M.n_list c (ge_v 2)) gr_nil)) (by omega)))
    (gss_cons (gs_ret (ge_if (gb_eq c (ge_v 4) ge_int) (ge_tup (ga_cons ge_str (ga_cons (ge_v 5) ga_nil))) (ge_tup (ga_cons ge_str (ga_cons (ge_v 5) (ga_cons (ge_call c C_u_law_thing (gr_io 0 (gr_v (ge_v 1) (gr_v (ge_v 2) gr_nil))) (by omega)) ga_nil))))))
    gss_nil)))))))
theorem ok_u_law_condition (n : Nat) (F : L2.Fun K "_law_condition" "_law_condition" s_u_law_condition f fd) (M : MG mg) (C_u_law_pick : CalG P w0 K mg base 1 "_law_pick" (spD (W0 K) 2 D_u_law_pick)) (C_u_law_of : CalG P w0 K mg base 2 "_law_of" (spD (W0 K) 2 D_u_law_of)) (C_u_law_condition : CalG P w0 K mg base (3 + n) "_law_condition" (spD (W0 K) 4 (D_u_law_condition n))) (C_u_law_thing : CalG P w0 K mg base 3 "_law_thing" (spD (W0 K) 3 D_u_law_thing)) : FnG P w0 K mg base ((3 + n) + 1) f fd P_u_law_condition (spD (W0 K) 4 (D_u_law_condition (n + 1))) :=
  fnD_of F sc_u_law_condition rfl (show ([0] : List Nat).Nodup by decide) (show ∀ i ∈ ([0] : List Nat), i < P_u_law_condition.length by decide) fun cdv A outer s H E room gd => d_u_law_condition n M C_u_law_pick C_u_law_of C_u_law_condition C_u_law_thing room gd
theorem sc_u_law_mixed : FnScope N_u_law_mixed P_u_law_mixed (defScope s_u_law_mixed) := ⟨rfl, rfl, rfl, by decide +kernel, rfl, by decide +kernel, by decide +kernel⟩
theorem d_u_law_mixed (M : MG mg) (C_u_law_pick : CalG P w0 K mg base 1 "_law_pick" (spD (W0 K) 2 D_u_law_pick)) (room : Room 1 (A.deeper (envOfC "_law_mixed" (defScope s_u_law_mixed) s.heap.objs.size f cdv))) (gd : A.guards = some []) :
    GSs (W0 K) [0] (bodyCx P w0 K mg base N_u_law_mixed "_law_mixed" s_u_law_mixed f cdv A outer s H E) (defBody s_u_law_mixed) D_u_law_mixed.body := by
  have c : Cok (W0 K) 1 (bodyCx P w0 K mg base N_u_law_mixed "_law_mixed" s_u_law_mixed f cdv A outer s H E) := ⟨rfl, rfl, sc_u_law_mixed.nd, room, gd⟩
  simp only [D_u_law_mixed]
  exact (gss_cons (gs_set 2 c.nd (ge_list M.n_list c (ge_v 1)))
    (gss_cons (gs_ret (ge_lc [("lap", 3)] c (gi_rg1 M.n_range (ge_len M.n_len c (ge_v 2))) (by kernel_rfl) (fun _ _ _ _ _ => (gg_n 3 c.blk.nd)) (fun _ _ _ _ _ => gc_no) (fun _ _ _ _ _ => (ge_popJ 2 (ge_call c.blk C_u_law_pick (gr_io 0 (gr_v (ge_len M.n_len c.blk (ge_v 2)) gr_nil)) (by omega))))))
    gss_nil))
theorem ok_u_law_mixed (F : L2.Fun K "_law_mixed" "_law_mixed" s_u_law_mixed f fd) (M : MG mg) (C_u_law_pick : CalG P w0 K mg base 1 "_law_pick" (spD (W0 K) 2 D_u_law_pick)) : FnG P w0 K mg base (1 + 1) f fd P_u_law_mixed (spD (W0 K) 2 D_u_law_mixed) :=
  fnD_of F sc_u_law_mixed rfl (show ([0] : List Nat).Nodup by decide) (show ∀ i ∈ ([0] : List Nat), i < P_u_law_mixed.length by decide) fun cdv A outer s H E room gd => d_u_law_mixed M C_u_law_pick room gd
theorem sc_u_law_acts : FnScope N_u_law_acts P_u_law_acts (defScope s_u_law_acts) := ⟨rfl, rfl, rfl, by decide +kernel, rfl, by decide +kernel, by decide +kernel⟩
theorem d_u_law_acts (M : MG mg) (C_u_law_pick : CalG P w0 K mg base 1 "_law_pick" (spD (W0 K) 2 D_u_law_pick)) (C_u_law_mixed : CalG P w0 K mg base 2 "_law_mixed" (spD (W0 K) 2 D_u_law_mixed)) (C_u_law_thing : CalG P w0 K mg base 3 "_law_thing" (spD (W0 K) 3 D_u_law_thing)) (C_u_law_of : CalG P w0 K mg base 2 "_law_of" (spD (W0 K) 2 D_u_law_of)) (room : Room 3 (A.deeper (envOfC "_law_acts" (defScope s_u_law_acts) s.heap.objs.size f cdv))) (gd : A.guards = some []) :
    GSs (W0 K) [0] (bodyCx P w0 K mg base N_u_law_acts "_law_acts" s_u_law_acts f cdv A outer s H E) (defBody s_u_law_acts) D_u_law_acts.body := by
  have c : Cok (W0 K) 3 (bodyCx P w0 K mg base N_u_law_acts "_law_acts" s_u_law_acts f cdv A outer s H E) := ⟨rfl, rfl, sc_u_law_acts.nd, room, gd⟩
  simp only [D_u_law_acts]
  exact (gss_cons (gs_setLc 4 [("k", 7)] c (gi_rg1 M.n_range (ge_call c C_u_law_of (gr_io 0 (gr_v (ge_lst (ga_cons ge_int (ga_cons ge_int (ga_cons ge_int (ga_cons ge_int (ga_cons ge_int (ga_cons ge_int ga_nil))))))) gr_nil)) (by omega))) (by kernel_rfl) (fun _ _ _ _ _ => (gg_n 7 c.blk.nd)) (fun _ _ _ _ _ => gc_no) (fun _ _ _ _ _ => (ge_tup (ga_cons ge_str (ga_cons (ge_call c.blk C_u_law_thing (gr_io 0 (gr_v (ge_v 1) (gr_v (ge_v 2) gr_nil))) (by omega)) ga_nil)))))
    (gss_cons (gs_for c PassesOwn.never (gi_seq c (ge_v 2)) (gg_n 5 c.nd) (gss_cons (gs_set 6 c.nd (ge_call c C_u_law_pick (gr_io 0 (gr_v ge_int gr_nil)) (by omega)))
    (gss_cons (gs_if (gb_lt (ge_v 6) ge_int) (gss_cons (gs_drop (ge_app 4 (ge_tup (ga_cons ge_str (ga_cons (ge_if (gb_eq c (ge_v 6) ge_int) (ge_call c C_u_law_thing (gr_io 0 (gr_v (ge_v 1) (gr_v (ge_v 2) gr_nil))) (by omega)) (ge_tup (ga_cons ge_str ga_nil))) (ga_cons (ge_v 5) ga_nil))))))
    gss_nil) (gss_cons (gs_if (gb_eq c (ge_v 6) ge_int) (gss_cons (gs_drop (ge_app 4 (ge_tup (ga_cons ge_str (ga_cons (ge_v 5) ga_nil)))))
    gss_nil) gss_nil)
    gss_nil))
    gss_nil)))
    (gss_cons (gs_if (gb_eq c (ge_call c C_u_law_pick (gr_io 0 (gr_v ge_int gr_nil)) (by omega)) ge_int) (gss_cons (gs_drop (ge_app 4 (ge_tup (ga_cons ge_str (ga_cons (ge_call c C_u_law_of (gr_io 0 (gr_v (ge_list M.n_list c (ge_v 3)) gr_nil)) (by omega)) ga_nil)))))
    gss_nil) gss_nil)
    (gss_cons (gs_ret (ge_tuple M.n_tuple c (ge_call c C_u_law_mixed (gr_io 0 (gr_v (ge_v 4) gr_nil)) (by omega))))
    gss_nil))))
theorem ok_u_law_acts (F : L2.Fun K "_law_acts" "_law_acts" s_u_law_acts f fd) (M : MG mg) (C_u_law_pick : CalG P w0 K mg base 1 "_law_pick" (spD (W0 K) 2 D_u_law_pick)) (C_u_law_mixed : CalG P w0 K mg base 2 "_law_mixed" (spD (W0 K) 2 D_u_law_mixed)) (C_u_law_thing : CalG P w0 K mg base 3 "_law_thing" (spD (W0 K) 3 D_u_law_thing)) (C_u_law_of : CalG P w0 K mg base 2 "_law_of" (spD (W0 K) 2 D_u_law_of)) : FnG P w0 K mg base (3 + 1) f fd P_u_law_acts (spD (W0 K) 4 D_u_law_acts) :=
  fnD_of F sc_u_law_acts rfl (show ([0] : List Nat).Nodup by decide) (show ∀ i ∈ ([0] : List Nat), i < P_u_law_acts.length by decide) fun cdv A outer s H E room gd => d_u_law_acts M C_u_law_pick C_u_law_mixed C_u_law_thing C_u_law_of room gd
theorem sc_u_law_program : FnScope N_u_law_program P_u_law_program (defScope s_u_law_program) := ⟨rfl, rfl, rfl, by decide +kernel, rfl, by decide +kernel, by decide +kernel⟩
theorem d_u_law_program (M : MG mg) (C_u_law_pick : CalG P w0 K mg base 1 "_law_pick" (spD (W0 K) 2 D_u_law_pick)) (C_u_law_condition : CalG P w0 K mg base 6 "_law_condition" (spD (W0 K) 4 (D_u_law_condition 3))) (C_u_law_acts : CalG P w0 K mg base 4 "_law_acts" (spD (W0 K) 4 D_u_law_acts)) (room : Room 6 (A.deeper (envOfC "_law_program" (defScope s_u_law_program) s.heap.objs.size f cdv))) (gd : A.guards = some []) :
    GSs (W0 K) [0] (bodyCx P w0 K mg base N_u_law_program "_law_program" s_u_law_program f cdv A outer s H E) (defBody s_u_law_program) D_u_law_program.body := by
  have c : Cok (W0 K) 6 (bodyCx P w0 K mg base N_u_law_program "_law_program" s_u_law_program f cdv A outer s H E) := ⟨rfl, rfl, sc_u_law_program.nd, room, gd⟩
  simp only [D_u_law_program]
  exact (gss_cons (gs_set 5 c.nd (ge_sl c (ge_tup (ga_cons ge_str (ga_cons ge_str (ga_cons ge_str ga_nil)))) gp_none (gp_some (ge_call c C_u_law_pick (gr_io 0 (gr_v (ge_add c (ge_v 3) ge_int) gr_nil)) (by omega)))))
    (gss_cons (gs_par2 c.nd c 6 7 (gl_cons (ge_sl c (ge_tup (ga_cons ge_str (ga_cons ge_str (ga_cons ge_str (ga_cons ge_str ga_nil))))) gp_none (gp_some (ge_add c ge_int (ge_call c C_u_law_pick (gr_io 0 (gr_v (ge_v 4) gr_nil)) (by omega))))) (gl_cons (ge_lst ga_nil) gl_nil)))
    (gss_cons (gs_for c PassesOwn.never (gi_seq c (ge_v 6)) (gg_n 8 c.nd) (gss_cons (gs_set 9 c.nd (ge_lst ga_nil))
    (gss_cons (gs_for c PassesOwn.never (gi_rg1 M.n_range (ge_call c C_u_law_pick (gr_io 0 (gr_v ge_int gr_nil)) (by omega))) (gg_n 10 c.nd) (gss_cons (gs_drop (ge_app 9 (ge_tup (ga_cons (ge_call c C_u_law_condition (gr_io 0 (gr_v (ge_v 1) (gr_v (ge_v 5) (gr_v ge_int gr_nil)))) (by omega)) (ga_cons (ge_call c C_u_law_acts (gr_io 0 (gr_v (ge_v 1) (gr_v (ge_v 5) (gr_v (ge_v 6) gr_nil)))) (by omega)) ga_nil)))))
    gss_nil))
    (gss_cons (gs_drop (ge_app 7 (ge_tup (ga_cons (ge_v 8) (ga_cons (ge_eq c (ge_call c C_u_law_pick (gr_io 0 (gr_v ge_int gr_nil)) (by omega)) ge_int) (ga_cons (ge_tuple M.n_tuple c (ge_v 9)) ga_nil))))))
    gss_nil))))
    (gss_cons (gs_ret (ge_tup (ga_cons ge_str (ga_cons (ge_v 2) (ga_cons (ge_v 5) (ga_cons (ge_tuple M.n_tuple c (ge_v 7)) ga_nil))))))
    gss_nil))))
theorem ok_u_law_program (F : L2.Fun K "_law_program" "_law_program" s_u_law_program f fd) (M : MG mg) (C_u_law_pick : CalG P w0 K mg base 1 "_law_pick" (spD (W0 K) 2 D_u_law_pick)) (C_u_law_condition : CalG P w0 K mg base 6 "_law_condition" (spD (W0 K) 4 (D_u_law_condition 3))) (C_u_law_acts : CalG P w0 K mg base 4 "_law_acts" (spD (W0 K) 4 D_u_law_acts)) : FnG P w0 K mg base (6 + 1) f fd P_u_law_program (spD (W0 K) 5 D_u_law_program) :=
  fnD_of F sc_u_law_program rfl (show ([0] : List Nat).Nodup by decide) (show ∀ i ∈ ([0] : List Nat), i < P_u_law_program.length by decide) fun cdv A outer s H E room gd => d_u_law_program M C_u_law_pick C_u_law_condition C_u_law_acts room gd
theorem sc_u_law_row : FnScope N_u_law_row P_u_law_row (defScope s_u_law_row) := ⟨rfl, rfl, rfl, by decide +kernel, rfl, by decide +kernel, by decide +kernel⟩
theorem d_u_law_row (M : MG mg) (C_u_law_of : CalG P w0 K mg base 2 "_law_of" (spD (W0 K) 2 D_u_law_of)) (room : Room 2 (A.deeper (envOfC "_law_row" (defScope s_u_law_row) s.heap.objs.size f cdv))) (gd : A.guards = some []) :
    GSs (W0 K) [0] (bodyCx P w0 K mg base N_u_law_row "_law_row" s_u_law_row f cdv A outer s H E) (defBody s_u_law_row) D_u_law_row.body := by
  have c : Cok (W0 K) 2 (bodyCx P w0 K mg base N_u_law_row "_law_row" s_u_law_row f cdv A outer s H E) := ⟨rfl, rfl, sc_u_law_row.nd, room, gd⟩
  simp only [D_u_law_row]
  exact (gss_cons (gs_set 3 c.nd (ge_add c (ge_lst (ga_cons ge_str (ga_cons ge_str (ga_cons ge_str (ga_cons ge_str (ga_cons ge_str (ga_cons ge_str (ga_cons ge_str ga_nil)))))))) (ge_list M.n_list c (ge_v 1))))
    (gss_cons (gs_ret (ge_tuple M.n_tuple c (ge_lc [("k", 4)] c (gi_rg1 M.n_range (ge_v 2)) (by kernel_rfl) (fun _ _ _ _ _ => (gg_n 4 c.blk.nd)) (fun _ _ _ _ _ => gc_no) (fun _ _ _ _ _ => (ge_call c.blk C_u_law_of (gr_io 0 (gr_v (ge_v 3) gr_nil)) (by omega))))))
    gss_nil))
theorem ok_u_law_row (F : L2.Fun K "_law_row" "_law_row" s_u_law_row f fd) (M : MG mg) (C_u_law_of : CalG P w0 K mg base 2 "_law_of" (spD (W0 K) 2 D_u_law_of)) : FnG P w0 K mg base (2 + 1) f fd P_u_law_row (spD (W0 K) 3 D_u_law_row) :=
  fnD_of F sc_u_law_row rfl (show ([0] : List Nat).Nodup by decide) (show ∀ i ∈ ([0] : List Nat), i < P_u_law_row.length by decide) fun cdv A outer s H E room gd => d_u_law_row M C_u_law_of room gd
theorem sc_u_law_worth : FnScope N_u_law_worth P_u_law_worth (defScope s_u_law_worth) := ⟨rfl, rfl, rfl, by decide +kernel, rfl, by decide +kernel, by decide +kernel⟩
theorem d_u_law_worth (M : MG mg)  (room : Room 0 (A.deeper (envOfC "_law_worth" (defScope s_u_law_worth) s.heap.objs.size f cdv))) (gd : A.guards = some []) :
    GSs (W0 K) [] (bodyCx P w0 K mg base N_u_law_worth "_law_worth" s_u_law_worth f cdv A outer s H E) (defBody s_u_law_worth) D_u_law_worth.body := by
  have c : Cok (W0 K) 0 (bodyCx P w0 K mg base N_u_law_worth "_law_worth" s_u_law_worth f cdv A outer s H E) := ⟨rfl, rfl, sc_u_law_worth.nd, room, gd⟩
  simp only [D_u_law_worth]
  exact (gss_cons (gs_if (gb_eq c (ge_v 2) (ge_tup (ga_cons ge_str ga_nil))) (gss_cons (gs_ret (ge_v 3))
    gss_nil) gss_nil)
    (gss_cons (gs_ret (ge_if (gb_eq c (ge_ix c (ge_v 2) ge_int) ge_str) (ge_ix c (ge_dictZip M.n_dict M.n_zip c (ge_v 0) (ge_v 1)) (ge_ix c (ge_v 2) ge_int)) (ge_ix c (ge_v 2) ge_int)))
    gss_nil))
theorem ok_u_law_worth (F : L2.Fun K "_law_worth" "_law_worth" s_u_law_worth f fd) (M : MG mg)  : FnG P w0 K mg base (0 + 1) f fd P_u_law_worth (spD (W0 K) 4 D_u_law_worth) :=
  fnD_of F sc_u_law_worth rfl (show ([] : List Nat).Nodup by decide) (show ∀ i ∈ ([] : List Nat), i < P_u_law_worth.length by decide) fun cdv A outer s H E room gd => d_u_law_worth M  room gd
theorem sc_u_law_holds : FnScope N_u_law_holds P_u_law_holds (defScope s_u_law_holds) := ⟨rfl, rfl, rfl, by decide +kernel, rfl, by decide +kernel, by decide +kernel⟩
theorem d_u_law_holds (n : Nat) (M : MG mg) (C_u_law_holds : CalG P w0 K mg base (1 + n) "_law_holds" (spD (W0 K) 5 (D_u_law_holds n))) (C_u_law_worth : CalG P w0 K mg base 1 "_law_worth" (spD (W0 K) 4 D_u_law_worth)) (room : Room (1 + n) (A.deeper (envOfC "_law_holds" (defScope s_u_law_holds) s.heap.objs.size f cdv))) (gd : A.guards = some []) :
    GSs (W0 K) [] (bodyCx P w0 K mg base N_u_law_holds "_law_holds" s_u_law_holds f cdv A outer s H E) (defBody s_u_law_holds) (D_u_law_holds (n + 1)).body := by
  have c : Cok (W0 K) (1 + n) (bodyCx P w0 K mg base N_u_law_holds "_law_holds" s_u_law_holds f cdv A outer s H E) := ⟨rfl, rfl, sc_u_law_holds.nd, room, gd⟩
  simp only [D_u_law_holds]
  exact (gss_cons (gs_par2 c.nd c 5 6 (gl_cons (ge_ix c (ge_v 3) ge_int) (gl_cons (ge_dictZip M.n_dict M.n_zip c (ge_v 1) (ge_v 2)) gl_nil)))
    (gss_cons (gs_if (gb_in c (ge_v 5) (ge_tup (ga_cons ge_str (ga_cons ge_str ga_nil)))) (gss_cons (gs_ret (ge_or (ge_eq c (ge_v 5) ge_str) (ge_one (ge_and (ge_notIn c (ge_v 4) (ge_v 0)) (ge_one (ge_notIn c (ge_v 4) (ge_lc [("one", 7)] c (gi_seq c (ge_v 2)) (by kernel_rfl) (fun _ _ _ _ _ => (gg_n 7 c.blk.nd)) (fun _ _ _ _ _ => (gc_if (gb_notN (ge_v 7)))) (fun _ _ _ _ _ => (ge_v 7)))))))))
    gss_nil) gss_nil)
    (gss_cons (gs_if (gb_eq c (ge_v 5) ge_str) (gss_cons (gs_ret (ge_not (ge_call c C_u_law_holds (gr_v (ge_v 0) (gr_v (ge_v 1) (gr_v (ge_v 2) (gr_v (ge_ix c (ge_v 3) ge_int) (gr_v (ge_v 4) gr_nil))))) (by omega) (by rw [I_u_law_holds n]; rfl))))
    gss_nil) gss_nil)
    (gss_cons (gs_if (gb_in c (ge_v 5) (ge_tup (ga_cons ge_str (ga_cons ge_str ga_nil)))) (gss_cons (gs_setLc 8 [("one", 7)] c (gi_seq c (ge_sl c (ge_v 3) (gp_some ge_int) gp_none)) (by kernel_rfl) (fun _ _ _ _ _ => (gg_n 7 c.blk.nd)) (fun _ _ _ _ _ => gc_no) (fun _ _ _ _ _ => (ge_call c.blk C_u_law_holds (gr_v (ge_v 0) (gr_v (ge_v 1) (gr_v (ge_v 2) (gr_v (ge_v 7) (gr_v (ge_v 4) gr_nil))))) (by omega) (by rw [I_u_law_holds n]; rfl))))
    (gss_cons (gs_ret (ge_if (gb_eq c (ge_v 5) ge_str) (ge_notIn c ge_bl (ge_v 8)) (ge_in c ge_bl (ge_v 8))))
    gss_nil)) gss_nil)
    (gss_cons (gs_if (gb_eq c (ge_v 5) ge_str) (gss_cons (gs_ret (ge_isN (ge_ix c (ge_v 6) (ge_ix c (ge_v 3) ge_int))))
    gss_nil) gss_nil)
    (gss_cons (gs_set 7 c.nd (ge_if (gb_eq c (ge_v 5) ge_str) (ge_v 4) (ge_ix c (ge_v 6) (ge_ix c (ge_v 3) ge_int))))
    (gss_cons (gs_ret (ge_and (ge_notN (ge_v 7)) (ge_one (ge_eq c (ge_v 7) (ge_call c C_u_law_worth (gr_v (ge_v 1) (gr_v (ge_v 2) (gr_v (ge_ix c (ge_v 3) (ge_neg ge_int)) (gr_v (ge_v 4) gr_nil)))) (by omega))))))
    gss_nil)))))))
theorem ok_u_law_holds (n : Nat) (F : L2.Fun K "_law_holds" "_law_holds" s_u_law_holds f fd) (M : MG mg) (C_u_law_holds : CalG P w0 K mg base (1 + n) "_law_holds" (spD (W0 K) 5 (D_u_law_holds n))) (C_u_law_worth : CalG P w0 K mg base 1 "_law_worth" (spD (W0 K) 4 D_u_law_worth)) : FnG P w0 K mg base ((1 + n) + 1) f fd P_u_law_holds (spD (W0 K) 5 (D_u_law_holds (n + 1))) :=
  fnD_of F sc_u_law_holds rfl (show ([] : List Nat).Nodup by decide) (show ∀ i ∈ ([] : List Nat), i < P_u_law_holds.length by decide) fun cdv A outer s H E room gd => d_u_law_holds n M C_u_law_holds C_u_law_worth room gd
theorem sc_u_law_first_rule : FnScope N_u_law_first_rule P_u_law_first_rule (defScope s_u_law_first_rule) := ⟨rfl, rfl, rfl, by decide +kernel, rfl, by decide +kernel, by decide +kernel⟩
theorem d_u_law_first_rule (M : MG mg) (C_u_law_holds : CalG P w0 K mg base 5 "_law_holds" (spD (W0 K) 5 (D_u_law_holds 4))) (room : Room 5 (A.deeper (envOfC "_law_first_rule" (defScope s_u_law_first_rule) s.heap.objs.size f cdv))) (gd : A.guards = some []) :
    GSs (W0 K) [] (bodyCx P w0 K mg base N_u_law_first_rule "_law_first_rule" s_u_law_first_rule f cdv A outer s H E) (defBody s_u_law_first_rule) D_u_law_first_rule.body := by
  have c : Cok (W0 K) 5 (bodyCx P w0 K mg base N_u_law_first_rule "_law_first_rule" s_u_law_first_rule f cdv A outer s H E) := ⟨rfl, rfl, sc_u_law_first_rule.nd, room, gd⟩
  simp only [D_u_law_first_rule]
  exact (gss_cons (gs_set 4 c.nd (ge_ix c (ge_lc [("mode", 7), ("is_yes", 8), ("rules", 4)] c (gi_seq c (ge_ix c (ge_v 1) ge_int)) (by kernel_rfl) (fun _ _ _ _ _ => (gg_t c.blk (ggs_cons (gg_n 7 c.blk.nd) (ggs_cons (gg_n 8 c.blk.nd) (ggs_cons (gg_n 4 c.blk.nd) ggs_nil))))) (fun _ _ _ _ _ => (gc_if (gb_eq c.blk (ge_v 7) (ge_ix c.blk (ge_v 2) ge_int)))) (fun _ _ _ _ _ => (ge_v 4))) ge_int))
    (gss_cons (gs_setLc 5 [("k", 6)] c (gi_rg1 M.n_range (ge_len M.n_len c (ge_v 4))) (by kernel_rfl) (fun _ _ _ _ _ => (gg_n 6 c.blk.nd)) (fun _ _ _ _ _ => (gc_if (gb_val (ge_call c.blk C_u_law_holds (gr_v (ge_v 0) (gr_v (ge_ix c.blk (ge_v 1) ge_int) (gr_v (ge_ix c.blk (ge_v 2) ge_int) (gr_v (ge_ix c.blk (ge_ix c.blk (ge_v 4) (ge_v 6)) ge_int) (gr_v (ge_v 3) gr_nil))))) (by omega))))) (fun _ _ _ _ _ => (ge_v 6)))
    (gss_cons (gs_ret (ge_if (gb_ne c (ge_v 5) (ge_lst ga_nil)) (ge_ix c (ge_v 5) ge_int) ge_non))
    gss_nil)))
theorem ok_u_law_first_rule (F : L2.Fun K "_law_first_rule" "_law_first_rule" s_u_law_first_rule f fd) (M : MG mg) (C_u_law_holds : CalG P w0 K mg base 5 "_law_holds" (spD (W0 K) 5 (D_u_law_holds 4))) : FnG P w0 K mg base (5 + 1) f fd P_u_law_first_rule (spD (W0 K) 4 D_u_law_first_rule) :=
  fnD_of F sc_u_law_first_rule rfl (show ([] : List Nat).Nodup by decide) (show ∀ i ∈ ([] : List Nat), i < P_u_law_first_rule.length by decide) fun cdv A outer s H E room gd => d_u_law_first_rule M C_u_law_holds room gd
theorem sc_u_law_step : FnScope N_u_law_step P_u_law_step (defScope s_u_law_step) := ⟨rfl, rfl, rfl, by decide +kernel, rfl, by decide +kernel, by decide +kernel⟩
theorem d_u_law_step (M : MG mg) (C_u_law_first_rule : CalG P w0 K mg base 6 "_law_first_rule" (spD (W0 K) 4 D_u_law_first_rule)) (C_u_law_worth : CalG P w0 K mg base 1 "_law_worth" (spD (W0 K) 4 D_u_law_worth)) (room : Room 6 (A.deeper (envOfC "_law_step" (defScope s_u_law_step) s.heap.objs.size f cdv))) (gd : A.guards = some []) :
    GSs (W0 K) [] (bodyCx P w0 K mg base N_u_law_step "_law_step" s_u_law_step f cdv A outer s H E) (defBody s_u_law_step) D_u_law_step.body := by
  have c : Cok (W0 K) 6 (bodyCx P w0 K mg base N_u_law_step "_law_step" s_u_law_step f cdv A outer s H E) := ⟨rfl, rfl, sc_u_law_step.nd, room, gd⟩
  simp only [D_u_law_step]
  exact (gss_cons (gs_parN c.nd c (gl_cons (ge_call c C_u_law_first_rule (gr_v (ge_v 0) (gr_v (ge_v 1) (gr_v (ge_v 2) (gr_v (ge_v 3) gr_nil)))) (by omega)) (gl_cons (ge_ix c (ge_v 1) ge_int) gl_nil)) (pgs_n 4 c.nd (pgs_n 5 c.nd pgs_n0)))
    (gss_cons (gs_if (gb_isN (ge_v 4)) (gss_cons (gs_ret (ge_tup (ga_cons (ge_tup ga_nil) (ga_cons (ge_v 2) ga_nil))))
    gss_nil) gss_nil)
    (gss_cons (gs_set 6 c.nd (ge_ix c (ge_ix c (ge_ix c (ge_lc [("mode", 9), ("is_yes", 14), ("rules", 15)] c (gi_seq c (ge_ix c (ge_v 1) ge_int)) (by kernel_rfl) (fun _ _ _ _ _ => (gg_t c.blk (ggs_cons (gg_n 9 c.blk.nd) (ggs_cons (gg_n 14 c.blk.nd) (ggs_cons (gg_n 15 c.blk.nd) ggs_nil))))) (fun _ _ _ _ _ => (gc_if (gb_eq c.blk (ge_v 9) (ge_ix c.blk (ge_v 2) ge_int)))) (fun _ _ _ _ _ => (ge_v 15))) ge_int) (ge_v 4)) ge_int))
    (gss_cons (gs_setLc 7 [("act", 12)] c (gi_seq c (ge_v 6)) (by kernel_rfl) (fun _ _ _ _ _ => (gg_n 12 c.blk.nd)) (fun _ _ _ _ _ => (gc_if (gb_eq c.blk (ge_ix c.blk (ge_v 12) ge_int) ge_str))) (fun _ _ _ _ _ => (ge_call c.blk C_u_law_worth (gr_v (ge_v 5) (gr_v (ge_ix c.blk (ge_v 2) ge_int) (gr_v (ge_ix c.blk (ge_v 12) ge_int) (gr_v (ge_v 3) gr_nil)))) (by omega))))
    (gss_cons (gs_par2 c.nd c 8 9 (gl_cons (ge_lst ga_nil) (gl_cons (ge_ix c (ge_v 2) ge_int) gl_nil)))
    (gss_cons (gs_for2 c PassesOwn.never (gi_zip c M.n_zip (ge_v 5) (ge_ix c (ge_v 2) ge_int)) (gg_2 c.calm (ggs_cons (gg_n 10 c.nd) (ggs_cons (gg_n 11 c.nd) ggs_nil))) (gss_cons (gs_for c PassesOwn.never (gi_seq c (ge_v 6)) (gg_n 12 c.nd) (gss_cons (gs_if (gb_and (gb_eq c (ge_ix c (ge_v 12) ge_int) ge_str) (gb_and1 (gb_eq c (ge_ix c (ge_v 12) ge_int) (ge_v 10)))).pt (gss_cons (gs_set 11 c.nd (ge_call c C_u_law_worth (gr_v (ge_v 5) (gr_v (ge_ix c (ge_v 2) ge_int) (gr_v (ge_ix c (ge_v 12) ge_int) (gr_v (ge_v 3) gr_nil)))) (by omega)))
    gss_nil) gss_nil)
    (gss_cons (gs_if (gb_eq c (ge_v 12) (ge_tup (ga_cons ge_str (ga_cons (ge_v 10) ga_nil)))) (gss_cons (gs_set 11 c.nd ge_non)
    gss_nil) gss_nil)
    gss_nil)))
    (gss_cons (gs_drop (ge_app 8 (ge_v 11)))
    gss_nil)))
    (gss_cons (gs_for c PassesOwn.never (gi_seq c (ge_v 6)) (gg_n 12 c.nd) (gss_cons (gs_set 9 c.nd (ge_if (gb_eq c (ge_ix c (ge_v 12) ge_int) ge_str) (ge_ix c (ge_v 12) ge_int) (ge_v 9)))
    gss_nil))
    (gss_cons (gs_ret (ge_tup (ga_cons (ge_tuple M.n_tuple c (ge_lc [("one", 13)] c (gi_seq c (ge_v 7)) (by kernel_rfl) (fun _ _ _ _ _ => (gg_n 13 c.blk.nd)) (fun _ _ _ _ _ => (gc_if (gb_notN (ge_v 13)))) (fun _ _ _ _ _ => (ge_v 13)))) (ga_cons (ge_tup (ga_cons (ge_v 9) (ga_cons (ge_tuple M.n_tuple c (ge_v 8)) ga_nil))) ga_nil))))
    gss_nil))))))))
theorem ok_u_law_step (F : L2.Fun K "_law_step" "_law_step" s_u_law_step f fd) (M : MG mg) (C_u_law_first_rule : CalG P w0 K mg base 6 "_law_first_rule" (spD (W0 K) 4 D_u_law_first_rule)) (C_u_law_worth : CalG P w0 K mg base 1 "_law_worth" (spD (W0 K) 4 D_u_law_worth)) : FnG P w0 K mg base (6 + 1) f fd P_u_law_step (spD (W0 K) 4 D_u_law_step) :=
  fnD_of F sc_u_law_step rfl (show ([] : List Nat).Nodup by decide) (show ∀ i ∈ ([] : List Nat), i < P_u_law_step.length by decide) fun cdv A outer s H E room gd => d_u_law_step M C_u_law_first_rule C_u_law_worth room gd
theorem sc_u_law_run : FnScope N_u_law_run P_u_law_run (defScope s_u_law_run) := ⟨rfl, rfl, rfl, by decide +kernel, rfl, by decide +kernel, by decide +kernel⟩
theorem d_u_law_run (M : MG mg) (C_u_law_step : CalG P w0 K mg base 7 "_law_step" (spD (W0 K) 4 D_u_law_step)) (room : Room 7 (A.deeper (envOfC "_law_run" (defScope s_u_law_run) s.heap.objs.size f cdv))) (gd : A.guards = some []) :
    GSs (W0 K) [] (bodyCx P w0 K mg base N_u_law_run "_law_run" s_u_law_run f cdv A outer s H E) (defBody s_u_law_run) D_u_law_run.body := by
  have c : Cok (W0 K) 7 (bodyCx P w0 K mg base N_u_law_run "_law_run" s_u_law_run f cdv A outer s H E) := ⟨rfl, rfl, sc_u_law_run.nd, room, gd⟩
  simp only [D_u_law_run]
  exact (gss_cons (gs_parN c.nd c (gl_cons (ge_tup (ga_cons (ge_ix c (ge_ix c (ge_ix c (ge_v 1) ge_int) ge_int) ge_int) (ga_cons (ge_mul c (ge_tup (ga_cons ge_non ga_nil)) (ge_len M.n_len c (ge_ix c (ge_v 1) ge_int))) ga_nil))) (gl_cons (ge_lst ga_nil) gl_nil)) (pgs_n 3 c.nd (pgs_n 4 c.nd pgs_n0)))
    (gss_cons (gs_for c PassesOwn.never (gi_seq c (ge_v 2)) (gg_n 5 c.nd) (gss_cons (gs_unp (ge_call c C_u_law_step (gr_v (ge_v 0) (gr_v (ge_v 1) (gr_v (ge_v 3) (gr_v (ge_v 5) gr_nil)))) (by omega)) (gg_t c (ggs_cons (gg_n 6 c.nd) (ggs_cons (gg_n 3 c.nd) ggs_nil))))
    (gss_cons (gs_drop (ge_app 4 (ge_v 6)))
    gss_nil)))
    (gss_cons (gs_ret (ge_tup (ga_cons (ge_tuple M.n_tuple c (ge_v 4)) (ga_cons (ge_ix c (ge_lc [("mode", 7), ("is_yes", 8), ("rules", 9)] c (gi_seq c (ge_ix c (ge_v 1) ge_int)) (by kernel_rfl) (fun _ _ _ _ _ => (gg_t c.blk (ggs_cons (gg_n 7 c.blk.nd) (ggs_cons (gg_n 8 c.blk.nd) (ggs_cons (gg_n 9 c.blk.nd) ggs_nil))))) (fun _ _ _ _ _ => (gc_if (gb_eq c.blk (ge_v 7) (ge_ix c.blk (ge_v 3) ge_int)))) (fun _ _ _ _ _ => (ge_v 8))) ge_int) (ga_cons (ge_v 3) ga_nil)))))
    gss_nil)))
theorem ok_u_law_run (F : L2.Fun K "_law_run" "_law_run" s_u_law_run f fd) (M : MG mg) (C_u_law_step : CalG P w0 K mg base 7 "_law_step" (spD (W0 K) 4 D_u_law_step)) : FnG P w0 K mg base (7 + 1) f fd P_u_law_run (spD (W0 K) 3 D_u_law_run) :=
  fnD_of F sc_u_law_run rfl (show ([] : List Nat).Nodup by decide) (show ∀ i ∈ ([] : List Nat), i < P_u_law_run.length by decide) fun cdv A outer s H E room gd => d_u_law_run M C_u_law_step room gd
theorem sc_first_stand : FnScope N_first_stand P_first_stand (defScope s_first_stand) := ⟨rfl, rfl, rfl, by decide +kernel, rfl, by decide +kernel, by decide +kernel⟩
theorem d_first_stand (M : MG mg)  (room : Room 0 (A.deeper (envOfC "first_stand" (defScope s_first_stand) s.heap.objs.size f cdv))) (gd : A.guards = some []) :
    GSs (W0 K) [] (bodyCx P w0 K mg base N_first_stand "first_stand" s_first_stand f cdv A outer s H E) (defBody s_first_stand) D_first_stand.body := by
  have c : Cok (W0 K) 0 (bodyCx P w0 K mg base N_first_stand "first_stand" s_first_stand f cdv A outer s H E) := ⟨rfl, rfl, sc_first_stand.nd, room, gd⟩
  simp only [D_first_stand]
  exact (gss_cons (gs_unp (ge_v 0) (gg_t c (ggs_cons (gg_n 1 c.nd) (ggs_cons (gg_n 2 c.nd) (ggs_cons (gg_n 3 c.nd) (ggs_cons (gg_n 4 c.nd) ggs_nil))))))
    (gss_cons (gs_ret (ge_tup (ga_cons (ge_ix c (ge_ix c (ge_v 4) ge_int) ge_int) (ga_cons (ge_mul c (ge_tup (ga_cons ge_non ga_nil)) (ge_len M.n_len c (ge_v 3))) ga_nil))))
    gss_nil))
theorem ok_first_stand (F : L2.Fun K "first_stand" "first_stand" s_first_stand f fd) (M : MG mg)  : FnG P w0 K mg base (0 + 1) f fd P_first_stand (spD (W0 K) 1 D_first_stand) :=
  fnD_of F sc_first_stand rfl (show ([] : List Nat).Nodup by decide) (show ∀ i ∈ ([] : List Nat), i < P_first_stand.length by decide) fun cdv A outer s H E room gd => d_first_stand M  room gd
theorem sc_program_yes : FnScope N_program_yes P_program_yes (defScope s_program_yes) := ⟨rfl, rfl, rfl, by decide +kernel, rfl, by decide +kernel, by decide +kernel⟩
theorem d_program_yes (M : MG mg)  (room : Room 0 (A.deeper (envOfC "program_yes" (defScope s_program_yes) s.heap.objs.size f cdv))) (gd : A.guards = some []) :
    GSs (W0 K) [] (bodyCx P w0 K mg base N_program_yes "program_yes" s_program_yes f cdv A outer s H E) (defBody s_program_yes) D_program_yes.body := by
  have c : Cok (W0 K) 0 (bodyCx P w0 K mg base N_program_yes "program_yes" s_program_yes f cdv A outer s H E) := ⟨rfl, rfl, sc_program_yes.nd, room, gd⟩
  simp only [D_program_yes]
  exact (gss_cons (gs_ret (ge_ix c (ge_lc [("name", 2), ("is_yes", 3), ("rules", 4)] c (gi_seq c (ge_ix c (ge_v 0) ge_int)) (by kernel_rfl) (fun _ _ _ _ _ => (gg_t c.blk (ggs_cons (gg_n 2 c.blk.nd) (ggs_cons (gg_n 3 c.blk.nd) (ggs_cons (gg_n 4 c.blk.nd) ggs_nil))))) (fun _ _ _ _ _ => (gc_if (gb_eq c.blk (ge_v 2) (ge_ix c.blk (ge_v 1) ge_int)))) (fun _ _ _ _ _ => (ge_v 3))) ge_int))
    gss_nil)
theorem ok_program_yes (F : L2.Fun K "program_yes" "program_yes" s_program_yes f fd) (M : MG mg)  : FnG P w0 K mg base (0 + 1) f fd P_program_yes (spD (W0 K) 2 D_program_yes) :=
  fnD_of F sc_program_yes rfl (show ([] : List Nat).Nodup by decide) (show ∀ i ∈ ([] : List Nat), i < P_program_yes.length by decide) fun cdv A outer s H E room gd => d_program_yes M  room gd
theorem sc_rules_of : FnScope N_rules_of P_rules_of (defScope s_rules_of) := ⟨rfl, rfl, rfl, by decide +kernel, rfl, by decide +kernel, by decide +kernel⟩
theorem d_rules_of (M : MG mg)  (room : Room 0 (A.deeper (envOfC "rules_of" (defScope s_rules_of) s.heap.objs.size f cdv))) (gd : A.guards = some []) :
    GSs (W0 K) [] (bodyCx P w0 K mg base N_rules_of "rules_of" s_rules_of f cdv A outer s H E) (defBody s_rules_of) D_rules_of.body := by
  have c : Cok (W0 K) 0 (bodyCx P w0 K mg base N_rules_of "rules_of" s_rules_of f cdv A outer s H E) := ⟨rfl, rfl, sc_rules_of.nd, room, gd⟩
  simp only [D_rules_of]
  exact (gss_cons (gs_ret (ge_ix c (ge_lc [("name", 2), ("is_yes", 3), ("rules", 4)] c (gi_seq c (ge_ix c (ge_v 0) ge_int)) (by kernel_rfl) (fun _ _ _ _ _ => (gg_t c.blk (ggs_cons (gg_n 2 c.blk.nd) (ggs_cons (gg_n 3 c.blk.nd) (ggs_cons (gg_n 4 c.blk.nd) ggs_nil))))) (fun _ _ _ _ _ => (gc_if (gb_eq c.blk (ge_v 2) (ge_v 1)))) (fun _ _ _ _ _ => (ge_v 4))) ge_int))
    gss_nil)
theorem ok_rules_of (F : L2.Fun K "rules_of" "rules_of" s_rules_of f fd) (M : MG mg)  : FnG P w0 K mg base (0 + 1) f fd P_rules_of (spD (W0 K) 2 D_rules_of) :=
  fnD_of F sc_rules_of rfl (show ([] : List Nat).Nodup by decide) (show ∀ i ∈ ([] : List Nat), i < P_rules_of.length by decide) fun cdv A outer s H E room gd => d_rules_of M  room gd
theorem sc_thing_value : FnScope N_thing_value P_thing_value (defScope s_thing_value) := ⟨rfl, rfl, rfl, by decide +kernel, rfl, by decide +kernel, by decide +kernel⟩
theorem d_thing_value (M : MG mg)  (room : Room 0 (A.deeper (envOfC "thing_value" (defScope s_thing_value) s.heap.objs.size f cdv))) (gd : A.guards = some []) :
    GSs (W0 K) [] (bodyCx P w0 K mg base N_thing_value "thing_value" s_thing_value f cdv A outer s H E) (defBody s_thing_value) D_thing_value.body := by
  have c : Cok (W0 K) 0 (bodyCx P w0 K mg base N_thing_value "thing_value" s_thing_value f cdv A outer s H E) := ⟨rfl, rfl, sc_thing_value.nd, room, gd⟩
  simp only [D_thing_value]
  exact (gss_cons (gs_if (gb_eq c (ge_ix c (ge_v 2) ge_int) ge_str) (gss_cons (gs_ret (ge_v 3))
    gss_nil) gss_nil)
    (gss_cons (gs_ret (ge_if (gb_eq c (ge_ix c (ge_v 2) ge_int) ge_str) (ge_ix c (ge_v 1) (ge_index c (ge_v 0) (ge_ix c (ge_v 2) ge_int))) (ge_ix c (ge_v 2) ge_int)))
    gss_nil))
theorem ok_thing_value (F : L2.Fun K "thing_value" "thing_value" s_thing_value f fd) (M : MG mg)  : FnG P w0 K mg base (0 + 1) f fd P_thing_value (spD (W0 K) 4 D_thing_value) :=
  fnD_of F sc_thing_value rfl (show ([] : List Nat).Nodup by decide) (show ∀ i ∈ ([] : List Nat), i < P_thing_value.length by decide) fun cdv A outer s H E room gd => d_thing_value M  room gd
theorem sc_simple_holds : FnScope N_simple_holds P_simple_holds (defScope s_simple_holds) := ⟨rfl, rfl, rfl, by decide +kernel, rfl, by decide +kernel, by decide +kernel⟩
theorem d_simple_holds (M : MG mg) (C_thing_value : CalG P w0 K mg base 1 "thing_value" (spD (W0 K) 4 D_thing_value)) (room : Room 1 (A.deeper (envOfC "simple_holds" (defScope s_simple_holds) s.heap.objs.size f cdv))) (gd : A.guards = some []) :
    GSs (W0 K) [] (bodyCx P w0 K mg base N_simple_holds "simple_holds" s_simple_holds f cdv A outer s H E) (defBody s_simple_holds) D_simple_holds.body := by
  have c : Cok (W0 K) 1 (bodyCx P w0 K mg base N_simple_holds "simple_holds" s_simple_holds f cdv A outer s H E) := ⟨rfl, rfl, sc_simple_holds.nd, room, gd⟩
  simp only [D_simple_holds]
  exact (gss_cons (gs_if (gb_eq c (ge_ix c (ge_v 3) ge_int) ge_str) (gss_cons (gs_ret ge_bl)
    gss_nil) gss_nil)
    (gss_cons (gs_if (gb_eq c (ge_ix c (ge_v 3) ge_int) ge_str) (gss_cons (gs_ret (ge_and (ge_notIn c (ge_v 4) (ge_v 0)) (ge_one (ge_notIn c (ge_v 4) (ge_v 2)))))
    gss_nil) gss_nil)
    (gss_cons (gs_if (gb_eq c (ge_ix c (ge_v 3) ge_int) ge_str) (gss_cons (gs_ret (ge_eq c (ge_call c C_thing_value (gr_v (ge_v 1) (gr_v (ge_v 2) (gr_v (ge_ix c (ge_v 3) ge_int) (gr_v (ge_v 4) gr_nil)))) (by omega)) (ge_v 4)))
    gss_nil) gss_nil)
    (gss_cons (gs_set 5 c.nd (ge_ix c (ge_v 2) (ge_index c (ge_v 1) (ge_ix c (ge_v 3) ge_int))))
    (gss_cons (gs_if (gb_eq c (ge_ix c (ge_v 3) ge_int) ge_str) (gss_cons (gs_ret (ge_isN (ge_v 5)))
    gss_nil) gss_nil)
    (gss_cons (gs_ret (ge_and (ge_notN (ge_v 5)) (ge_one (ge_eq c (ge_v 5) (ge_call c C_thing_value (gr_v (ge_v 1) (gr_v (ge_v 2) (gr_v (ge_ix c (ge_v 3) ge_int) (gr_v (ge_v 4) gr_nil)))) (by omega))))))
    gss_nil))))))
theorem ok_simple_holds (F : L2.Fun K "simple_holds" "simple_holds" s_simple_holds f fd) (M : MG mg) (C_thing_value : CalG P w0 K mg base 1 "thing_value" (spD (W0 K) 4 D_thing_value)) : FnG P w0 K mg base (1 + 1) f fd P_simple_holds (spD (W0 K) 5 D_simple_holds) :=
  fnD_of F sc_simple_holds rfl (show ([] : List Nat).Nodup by decide) (show ∀ i ∈ ([] : List Nat), i < P_simple_holds.length by decide) fun cdv A outer s H E room gd => d_simple_holds M C_thing_value room gd
theorem sc_does_hold : FnScope N_does_hold P_does_hold (defScope s_does_hold) := ⟨rfl, rfl, rfl, by decide +kernel, rfl, by decide +kernel, by decide +kernel⟩
theorem d_does_hold (M : MG mg) (C_simple_holds : CalG P w0 K mg base 2 "simple_holds" (spD (W0 K) 5 D_simple_holds)) (room : Room 2 (A.deeper (envOfC "does_hold" (defScope s_does_hold) s.heap.objs.size f cdv))) (gd : A.guards = some []) :
    GSs (W0 K) [] (bodyCx P w0 K mg base N_does_hold "does_hold" s_does_hold f cdv A outer s H E) (defBody s_does_hold) D_does_hold.body := by
  have c : Cok (W0 K) 2 (bodyCx P w0 K mg base N_does_hold "does_hold" s_does_hold f cdv A outer s H E) := ⟨rfl, rfl, sc_does_hold.nd, room, gd⟩
  simp only [D_does_hold]
  exact (gss_cons (gs_par2 c.nd c 5 6 (gl_cons (ge_lst (ga_cons (ge_tup (ga_cons (ge_v 3) (ga_cons ge_bl ga_nil))) ga_nil)) (gl_cons (ge_lst ga_nil) gl_nil)))
    (gss_cons (gs_while PassesOwn.never (gb_ne c (ge_v 5) (ge_lst ga_nil)) (gss_cons (gs_unp (ge_pop 5) (gg_t c (ggs_cons (gg_n 7 c.nd) (ggs_cons (gg_n 8 c.nd) ggs_nil))))
    (gss_cons (gs_if (gb_notIn c (ge_ix c (ge_v 7) ge_int) (ge_tup (ga_cons ge_str (ga_cons ge_str (ga_cons ge_str ga_nil))))) (gss_cons (gs_drop (ge_app 6 (ge_call c C_simple_holds (gr_v (ge_v 0) (gr_v (ge_v 1) (gr_v (ge_v 2) (gr_v (ge_v 7) (gr_v (ge_v 4) gr_nil))))) (by omega))))
    gss_nil) (gss_cons (gs_if (gb_not (gb_val (ge_v 8))) (gss_cons (gs_drop (ge_app 5 (ge_tup (ga_cons (ge_v 7) (ga_cons ge_bl ga_nil)))))
    (gss_cons (gs_drop (ge_ext c 5 (ge_lc [("one", 9)] c (gi_seq c (ge_sl c (ge_v 7) (gp_some ge_int) gp_none)) (by kernel_rfl) (fun _ _ _ _ _ => (gg_n 9 c.blk.nd)) (fun _ _ _ _ _ => gc_no) (fun _ _ _ _ _ => (ge_tup (ga_cons (ge_v 9) (ga_cons ge_bl ga_nil)))))))
    gss_nil)) (gss_cons (gs_if (gb_eq c (ge_ix c (ge_v 7) ge_int) ge_str) (gss_cons (gs_drop (ge_app 6 (ge_not (ge_pop 6))))
    gss_nil) (gss_cons (gs_par2 c.nd c 9 10 (gl_cons (ge_pop 6) (gl_cons (ge_pop 6) gl_nil)))
    (gss_cons (gs_drop (ge_app 6 (ge_if (gb_eq c (ge_ix c (ge_v 7) ge_int) ge_str) (ge_and (ge_v 9) (ge_one (ge_v 10))) (ge_or (ge_v 9) (ge_one (ge_v 10))))))
    gss_nil)))
    gss_nil))
    gss_nil))
    gss_nil)))
    (gss_cons (gs_ret (ge_ix c (ge_v 6) ge_int))
    gss_nil)))
theorem ok_does_hold (F : L2.Fun K "does_hold" "does_hold" s_does_hold f fd) (M : MG mg) (C_simple_holds : CalG P w0 K mg base 2 "simple_holds" (spD (W0 K) 5 D_simple_holds)) : FnG P w0 K mg base (2 + 1) f fd P_does_hold (spD (W0 K) 5 D_does_hold) :=
  fnD_of F sc_does_hold rfl (show ([] : List Nat).Nodup by decide) (show ∀ i ∈ ([] : List Nat), i < P_does_hold.length by decide) fun cdv A outer s H E room gd => d_does_hold M C_simple_holds room gd
theorem sc_rule_done : FnScope N_rule_done P_rule_done (defScope s_rule_done) := ⟨rfl, rfl, rfl, by decide +kernel, rfl, by decide +kernel, by decide +kernel⟩
theorem d_rule_done (M : MG mg) (C_rules_of : CalG P w0 K mg base 1 "rules_of" (spD (W0 K) 2 D_rules_of)) (C_does_hold : CalG P w0 K mg base 3 "does_hold" (spD (W0 K) 5 D_does_hold)) (room : Room 3 (A.deeper (envOfC "rule_done" (defScope s_rule_done) s.heap.objs.size f cdv))) (gd : A.guards = some []) :
    GSs (W0 K) [] (bodyCx P w0 K mg base N_rule_done "rule_done" s_rule_done f cdv A outer s H E) (defBody s_rule_done) D_rule_done.body := by
  have c : Cok (W0 K) 3 (bodyCx P w0 K mg base N_rule_done "rule_done" s_rule_done f cdv A outer s H E) := ⟨rfl, rfl, sc_rule_done.nd, room, gd⟩
  simp only [D_rule_done]
  exact (gss_cons (gs_unp (ge_v 2) (gg_t c (ggs_cons (gg_n 4 c.nd) (ggs_cons (gg_n 5 c.nd) ggs_nil))))
    (gss_cons (gs_for2 c PassesOwn.never (gi_enum c M.n_enumerate (ge_call c C_rules_of (gr_v (ge_v 1) (gr_v (ge_v 4) gr_nil)) (by omega))) (gg_2 c.calm (ggs_cons (gg_n 6 c.nd) (ggs_cons (gg_t c (ggs_cons (gg_n 7 c.nd) (ggs_cons (gg_n 8 c.nd) ggs_nil))) ggs_nil))) (gss_cons (gs_if (gb_val (ge_call c C_does_hold (gr_v (ge_v 0) (gr_v (ge_ix c (ge_v 1) ge_int) (gr_v (ge_v 5) (gr_v (ge_v 7) (gr_v (ge_v 3) gr_nil))))) (by omega))) (gss_cons (gs_ret (ge_v 6))
    gss_nil) gss_nil)
    gss_nil))
    (gss_cons (gs_ret ge_non)
    gss_nil)))
theorem ok_rule_done (F : L2.Fun K "rule_done" "rule_done" s_rule_done f fd) (M : MG mg) (C_rules_of : CalG P w0 K mg base 1 "rules_of" (spD (W0 K) 2 D_rules_of)) (C_does_hold : CalG P w0 K mg base 3 "does_hold" (spD (W0 K) 5 D_does_hold)) : FnG P w0 K mg base (3 + 1) f fd P_rule_done (spD (W0 K) 4 D_rule_done) :=
  fnD_of F sc_rule_done rfl (show ([] : List Nat).Nodup by decide) (show ∀ i ∈ ([] : List Nat), i < P_rule_done.length by decide) fun cdv A outer s H E room gd => d_rule_done M C_rules_of C_does_hold room gd
theorem sc_program_step : FnScope N_program_step P_program_step (defScope s_program_step) := ⟨rfl, rfl, rfl, by decide +kernel, rfl, by decide +kernel, by decide +kernel⟩
theorem d_program_step (M : MG mg) (C_rule_done : CalG P w0 K mg base 4 "rule_done" (spD (W0 K) 4 D_rule_done)) (C_rules_of : CalG P w0 K mg base 1 "rules_of" (spD (W0 K) 2 D_rules_of)) (C_thing_value : CalG P w0 K mg base 1 "thing_value" (spD (W0 K) 4 D_thing_value)) (room : Room 4 (A.deeper (envOfC "program_step" (defScope s_program_step) s.heap.objs.size f cdv))) (gd : A.guards = some []) :
    GSs (W0 K) [] (bodyCx P w0 K mg base N_program_step "program_step" s_program_step f cdv A outer s H E) (defBody s_program_step) D_program_step.body := by
  have c : Cok (W0 K) 4 (bodyCx P w0 K mg base N_program_step "program_step" s_program_step f cdv A outer s H E) := ⟨rfl, rfl, sc_program_step.nd, room, gd⟩
  simp only [D_program_step]
  exact (gss_cons (gs_unp (ge_tup (ga_cons (ge_call c C_rule_done (gr_v (ge_v 0) (gr_v (ge_v 1) (gr_v (ge_v 2) (gr_v (ge_v 3) gr_nil)))) (by omega)) (ga_cons (ge_ix c (ge_v 1) ge_int) (ga_cons (ge_v 2) ga_nil)))) (gg_t c (ggs_cons (gg_n 4 c.nd) (ggs_cons (gg_n 5 c.nd) (ggs_cons (gg_t c (ggs_cons (gg_n 6 c.nd) (ggs_cons (gg_n 7 c.nd) ggs_nil))) ggs_nil)))))
    (gss_cons (gs_if (gb_isN (ge_v 4)) (gss_cons (gs_ret (ge_tup (ga_cons (ge_tup ga_nil) (ga_cons (ge_v 2) ga_nil))))
    gss_nil) gss_nil)
    (gss_cons (gs_par3 c.nd c 8 9 10 (gl_cons (ge_lst ga_nil) (gl_cons (ge_list M.n_list c (ge_v 7)) (gl_cons (ge_v 6) gl_nil))))
    (gss_cons (gs_for c PassesOwn.never (gi_seq c (ge_ix c (ge_ix c (ge_call c C_rules_of (gr_v (ge_v 1) (gr_v (ge_v 6) gr_nil)) (by omega)) (ge_v 4)) ge_int)) (gg_n 11 c.nd) (gss_cons (gs_if (gb_eq c (ge_ix c (ge_v 11) ge_int) ge_str) (gss_cons (gs_drop (ge_app 8 (ge_call c C_thing_value (gr_v (ge_v 5) (gr_v (ge_v 7) (gr_v (ge_ix c (ge_v 11) ge_int) (gr_v (ge_v 3) gr_nil)))) (by omega))))
    gss_nil) (gss_cons (gs_if (gb_eq c (ge_ix c (ge_v 11) ge_int) ge_str) (gss_cons (gs_put c 9 (ge_call c C_thing_value (gr_v (ge_v 5) (gr_v (ge_v 7) (gr_v (ge_ix c (ge_v 11) ge_int) (gr_v (ge_v 3) gr_nil)))) (by omega)) (ge_index c (ge_v 5) (ge_ix c (ge_v 11) ge_int)))
    gss_nil) (gss_cons (gs_if (gb_eq c (ge_ix c (ge_v 11) ge_int) ge_str) (gss_cons (gs_put c 9 ge_non (ge_index c (ge_v 5) (ge_ix c (ge_v 11) ge_int)))
    gss_nil) (gss_cons (gs_set 10 c.nd (ge_ix c (ge_v 11) ge_int))
    gss_nil))
    gss_nil))
    gss_nil))
    gss_nil))
    (gss_cons (gs_ret (ge_tup (ga_cons (ge_tuple M.n_tuple c (ge_lc [("one", 12)] c (gi_seq c (ge_v 8)) (by kernel_rfl) (fun _ _ _ _ _ => (gg_n 12 c.blk.nd)) (fun _ _ _ _ _ => (gc_if (gb_notN (ge_v 12)))) (fun _ _ _ _ _ => (ge_v 12)))) (ga_cons (ge_tup (ga_cons (ge_v 10) (ga_cons (ge_tuple M.n_tuple c (ge_v 9)) ga_nil))) ga_nil))))
    gss_nil)))))
theorem ok_program_step (F : L2.Fun K "program_step" "program_step" s_program_step f fd) (M : MG mg) (C_rule_done : CalG P w0 K mg base 4 "rule_done" (spD (W0 K) 4 D_rule_done)) (C_rules_of : CalG P w0 K mg base 1 "rules_of" (spD (W0 K) 2 D_rules_of)) (C_thing_value : CalG P w0 K mg base 1 "thing_value" (spD (W0 K) 4 D_thing_value)) : FnG P w0 K mg base (4 + 1) f fd P_program_step (spD (W0 K) 4 D_program_step) :=
  fnD_of F sc_program_step rfl (show ([] : List Nat).Nodup by decide) (show ∀ i ∈ ([] : List Nat), i < P_program_step.length by decide) fun cdv A outer s H E room gd => d_program_step M C_rule_done C_rules_of C_thing_value room gd
theorem sc_program_run : FnScope N_program_run P_program_run (defScope s_program_run) := ⟨rfl, rfl, rfl, by decide +kernel, rfl, by decide +kernel, by decide +kernel⟩
theorem d_program_run (M : MG mg) (C_first_stand : CalG P w0 K mg base 1 "first_stand" (spD (W0 K) 1 D_first_stand)) (C_program_yes : CalG P w0 K mg base 1 "program_yes" (spD (W0 K) 2 D_program_yes)) (C_program_step : CalG P w0 K mg base 5 "program_step" (spD (W0 K) 4 D_program_step)) (room : Room 5 (A.deeper (envOfC "program_run" (defScope s_program_run) s.heap.objs.size f cdv))) (gd : A.guards = some []) :
    GSs (W0 K) [] (bodyCx P w0 K mg base N_program_run "program_run" s_program_run f cdv A outer s H E) (defBody s_program_run) D_program_run.body := by
  have c : Cok (W0 K) 5 (bodyCx P w0 K mg base N_program_run "program_run" s_program_run f cdv A outer s H E) := ⟨rfl, rfl, sc_program_run.nd, room, gd⟩
  simp only [D_program_run]
  exact (gss_cons (gs_par2 c.nd c 3 4 (gl_cons (ge_call c C_first_stand (gr_v (ge_v 1) gr_nil) (by omega)) (gl_cons (ge_lst ga_nil) gl_nil)))
    (gss_cons (gs_for c PassesOwn.never (gi_seq c (ge_v 2)) (gg_n 5 c.nd) (gss_cons (gs_set 6 c.nd (ge_lst ga_nil))
    (gss_cons (gs_for c PassesOwn.never (gi_seq c (ge_v 5)) (gg_n 7 c.nd) (gss_cons (gs_unp (ge_call c C_program_step (gr_v (ge_v 0) (gr_v (ge_v 1) (gr_v (ge_v 3) (gr_v (ge_v 7) gr_nil)))) (by omega)) (gg_t c (ggs_cons (gg_n 8 c.nd) (ggs_cons (gg_n 3 c.nd) ggs_nil))))
    (gss_cons (gs_drop (ge_ext c 6 (ge_v 8)))
    gss_nil)))
    (gss_cons (gs_drop (ge_app 4 (ge_tuple M.n_tuple c (ge_v 6))))
    gss_nil))))
    (gss_cons (gs_ret (ge_tup (ga_cons (ge_tuple M.n_tuple c (ge_v 4)) (ga_cons (ge_call c C_program_yes (gr_v (ge_v 1) (gr_v (ge_v 3) gr_nil)) (by omega)) (ga_cons (ge_v 3) ga_nil)))))
    gss_nil)))
theorem ok_program_run (F : L2.Fun K "program_run" "program_run" s_program_run f fd) (M : MG mg) (C_first_stand : CalG P w0 K mg base 1 "first_stand" (spD (W0 K) 1 D_first_stand)) (C_program_yes : CalG P w0 K mg base 1 "program_yes" (spD (W0 K) 2 D_program_yes)) (C_program_step : CalG P w0 K mg base 5 "program_step" (spD (W0 K) 4 D_program_step)) : FnG P w0 K mg base (5 + 1) f fd P_program_run (spD (W0 K) 3 D_program_run) :=
  fnD_of F sc_program_run rfl (show ([] : List Nat).Nodup by decide) (show ∀ i ∈ ([] : List Nat), i < P_program_run.length by decide) fun cdv A outer s H E room gd => d_program_run M C_first_stand C_program_yes C_program_step room gd
theorem sc_law : FnScope N_law P_law (defScope s_law) := ⟨rfl, rfl, rfl, by decide +kernel, rfl, by decide +kernel, by decide +kernel⟩
theorem d_law (M : MG mg) (C_u_law_source : CalG P w0 K mg base 1 "_law_source" (spD (W0 K) 1 D_u_law_source)) (C_u_law_words : CalG P w0 K mg base 3 "_law_words" (spD (W0 K) 1 D_u_law_words)) (C_u_law_program : CalG P w0 K mg base 7 "_law_program" (spD (W0 K) 5 D_u_law_program)) (C_u_law_row : CalG P w0 K mg base 3 "_law_row" (spD (W0 K) 3 D_u_law_row)) (C_u_law_run : CalG P w0 K mg base 8 "_law_run" (spD (W0 K) 3 D_u_law_run)) (C_u_law_pick : CalG P w0 K mg base 1 "_law_pick" (spD (W0 K) 2 D_u_law_pick)) (C_program_run : CalG P w0 K mg base 6 "program_run" (spD (W0 K) 3 D_program_run)) (C_u_law_of : CalG P w0 K mg base 2 "_law_of" (spD (W0 K) 2 D_u_law_of)) (C_u_law_first_rule : CalG P w0 K mg base 6 "_law_first_rule" (spD (W0 K) 4 D_u_law_first_rule)) (C_u_law_thing : CalG P w0 K mg base 3 "_law_thing" (spD (W0 K) 3 D_u_law_thing)) (C_u_law_worth : CalG P w0 K mg base 1 "_law_worth" (spD (W0 K) 4 D_u_law_worth)) (C_program_step : CalG P w0 K mg base 5 "program_step" (spD (W0 K) 4 D_program_step)) (C_first_stand : CalG P w0 K mg base 1 "first_stand" (spD (W0 K) 1 D_first_stand)) (C_rule_done : CalG P w0 K mg base 4 "rule_done" (spD (W0 K) 4 D_rule_done)) (C_thing_value : CalG P w0 K mg base 1 "thing_value" (spD (W0 K) 4 D_thing_value)) (C_u_law_step : CalG P w0 K mg base 7 "_law_step" (spD (W0 K) 4 D_u_law_step)) (C_u_law_holds : CalG P w0 K mg base 5 "_law_holds" (spD (W0 K) 5 (D_u_law_holds 4))) (C_program_yes : CalG P w0 K mg base 1 "program_yes" (spD (W0 K) 2 D_program_yes)) (C_does_hold : CalG P w0 K mg base 3 "does_hold" (spD (W0 K) 5 D_does_hold)) (room : Room 8 (A.deeper (envOfC "law" (defScope s_law) s.heap.objs.size f cdv))) (gd : A.guards = some []) :
    GSs (W0 K) [] (bodyCx P w0 K mg base N_law "law" s_law f cdv A outer s H E) (defBody s_law) D_law.body := by
  have c : Cok (W0 K) 8 (bodyCx P w0 K mg base N_law "law" s_law f cdv A outer s H E) := ⟨rfl, rfl, sc_law.nd, room, gd⟩
  simp only [D_law]
  exact (gss_cons (gs_set 1 c.nd (ge_call c C_u_law_source (gr_pass 0 gr_nil) (by omega)))
    (gss_cons (gs_set 2 c.nd (ge_call c C_u_law_words (gr_io 1 gr_nil) (by omega)))
    (gss_cons (gs_set 3 c.nd (ge_lst ga_nil))
    (gss_cons (gs_for c PassesOwn.never (gi_rg1 M.n_range ge_int) (gg_n 4 c.nd) (gss_cons (gs_set 5 c.nd (ge_call c C_u_law_program (gr_io 1 (gr_v (ge_v 2) (gr_v ge_str (gr_v ge_int (gr_v ge_int gr_nil))))) (by omega)))
    (gss_cons (gs_set 6 c.nd (ge_call c C_u_law_row (gr_io 1 (gr_v (ge_v 2) (gr_v (ge_call c C_u_law_of (gr_io 1 (gr_v (ge_lst (ga_cons ge_int (ga_cons ge_int (ga_cons ge_int (ga_cons ge_int ga_nil))))) gr_nil)) (by omega)) gr_nil))) (by omega)))
    (gss_cons (gs_drop (ge_app 3 (ge_tup (ga_cons (ge_v 5) (ga_cons (ge_v 6) ga_nil)))))
    (gss_cons (gs_par2 c.nd c 10 11 (gl_cons (ge_repr M.n_repr c (ge_v 5)) (gl_cons (ge_tup (ga_cons (ge_ix c (ge_ix c (ge_ix c (ge_v 5) ge_int) ge_int) ge_int) (ga_cons (ge_mul c (ge_tup (ga_cons ge_non ga_nil)) (ge_len M.n_len c (ge_ix c (ge_v 5) ge_int))) ga_nil))) gl_nil)))
    (gss_cons (gs_if (gb_neS (ge_repr M.n_repr c (ge_call c C_first_stand (gr_v (ge_v 5) gr_nil) (by omega))) (ge_repr M.n_repr c (ge_v 11))) (gss_cons (gs_ret ge_bl)
    gss_nil) gss_nil)
    (gss_cons (gs_for c PassesOwn.never (gi_seq c (ge_sl c (ge_v 6) gp_none (gp_some ge_int))) (gg_n 12 c.nd) (gss_cons (gs_set 19 c.nd (ge_call c C_u_law_first_rule (gr_v (ge_v 2) (gr_v (ge_v 5) (gr_v (ge_v 11) (gr_v (ge_v 12) gr_nil)))) (by omega)))
    (gss_cons (gs_if (gb_neS (ge_repr M.n_repr c (ge_call c C_rule_done (gr_v (ge_v 2) (gr_v (ge_v 5) (gr_v (ge_v 11) (gr_v (ge_v 12) gr_nil)))) (by omega))) (ge_repr M.n_repr c (ge_v 19))) (gss_cons (gs_ret ge_bl)
    gss_nil) gss_nil)
    (gss_cons (gs_for c PassesOwn.never (gi_seq c (ge_ix c (ge_v 5) ge_int)) (gg_t c (ggs_cons (gg_n 20 c.nd) (ggs_cons (gg_n 14 c.nd) (ggs_cons (gg_n 7 c.nd) ggs_nil)))) (gss_cons (gs_if (gb_eq c (ge_v 20) (ge_ix c (ge_v 11) ge_int)) (gss_cons (gs_for c PassesOwn.never (gi_seq c (ge_sl c (ge_v 7) gp_none (gp_some ge_int))) (gg_t c (ggs_cons (gg_n 24 c.nd) (ggs_cons (gg_n 25 c.nd) ggs_nil))) (gss_cons (gs_set 9 c.nd (ge_call c C_u_law_holds (gr_v (ge_v 2) (gr_v (ge_ix c (ge_v 5) ge_int) (gr_v (ge_ix c (ge_v 11) ge_int) (gr_v (ge_v 24) (gr_v (ge_v 12) gr_nil))))) (by omega)))
    (gss_cons (gs_if (gb_neS (ge_repr M.n_repr c (ge_call c C_does_hold (gr_v (ge_v 2) (gr_v (ge_ix c (ge_v 5) ge_int) (gr_v (ge_ix c (ge_v 11) ge_int) (gr_v (ge_v 24) (gr_v (ge_v 12) gr_nil))))) (by omega))) (ge_repr M.n_repr c (ge_v 9))) (gss_cons (gs_ret ge_bl)
    gss_nil) gss_nil)
    gss_nil)))
    (gss_cons (gs_if (gb_neS (ge_repr M.n_repr c (ge_call c C_program_yes (gr_v (ge_v 5) (gr_v (ge_v 11) gr_nil)) (by omega))) (ge_repr M.n_repr c (ge_v 14))) (gss_cons (gs_ret ge_bl)
    gss_nil) gss_nil)
    gss_nil)) gss_nil)
    gss_nil))
    (gss_cons (gs_set 21 c.nd (ge_call c C_u_law_thing (gr_io 1 (gr_v (ge_v 2) (gr_v (ge_ix c (ge_v 5) ge_int) gr_nil))) (by omega)))
    (gss_cons (gs_set 9 c.nd (ge_call c C_u_law_worth (gr_v (ge_ix c (ge_v 5) ge_int) (gr_v (ge_ix c (ge_v 11) ge_int) (gr_v (ge_v 21) (gr_v (ge_v 12) gr_nil)))) (by omega)))
    (gss_cons (gs_if (gb_neS (ge_repr M.n_repr c (ge_call c C_thing_value (gr_v (ge_ix c (ge_v 5) ge_int) (gr_v (ge_ix c (ge_v 11) ge_int) (gr_v (ge_v 21) (gr_v (ge_v 12) gr_nil)))) (by omega))) (ge_repr M.n_repr c (ge_v 9))) (gss_cons (gs_ret ge_bl)
    gss_nil) gss_nil)
    (gss_cons (gs_set 22 c.nd (ge_call c C_program_step (gr_v (ge_v 2) (gr_v (ge_v 5) (gr_v (ge_v 11) (gr_v (ge_v 12) gr_nil)))) (by omega)))
    (gss_cons (gs_if (gb_neS (ge_repr M.n_repr c (ge_v 22)) (ge_repr M.n_repr c (ge_call c C_u_law_step (gr_v (ge_v 2) (gr_v (ge_v 5) (gr_v (ge_v 11) (gr_v (ge_v 12) gr_nil)))) (by omega)))) (gss_cons (gs_ret ge_bl)
    gss_nil) gss_nil)
    (gss_cons (gs_set 11 c.nd (ge_ix c (ge_v 22) ge_int))
    gss_nil))))))))))
    (gss_cons (gs_if (gb_neS (ge_repr M.n_repr c (ge_v 5)) (ge_v 10)) (gss_cons (gs_ret ge_bl)
    gss_nil) gss_nil)
    gss_nil))))))))
    (gss_cons (gs_for c PassesOwn.never (gi_seq c (ge_add c (ge_v 3) (ge_rev (ge_v 3)))) (gg_t c (ggs_cons (gg_n 5 c.nd) (ggs_cons (gg_n 6 c.nd) ggs_nil))) (gss_cons (gs_unp (ge_call c C_u_law_run (gr_v (ge_v 2) (gr_v (ge_v 5) (gr_v (ge_v 6) gr_nil))) (by omega)) (gg_t c (ggs_cons (gg_n 13 c.nd) (ggs_cons (gg_n 14 c.nd) (ggs_cons (gg_n 11 c.nd) ggs_nil)))))
    (gss_cons (gs_if (gb_neS (ge_repr M.n_repr c (ge_call c C_program_run (gr_v (ge_v 2) (gr_v (ge_v 5) (gr_v (ge_tuple M.n_tuple c (ge_lc [("value", 12)] c (gi_seq c (ge_v 6)) (by kernel_rfl) (fun _ _ _ _ _ => (gg_n 12 c.blk.nd)) (fun _ _ _ _ _ => gc_no) (fun _ _ _ _ _ => (ge_tup (ga_cons (ge_v 12) ga_nil))))) gr_nil))) (by omega))) (ge_repr M.n_repr c (ge_tup (ga_cons (ge_v 13) (ga_cons (ge_v 14) (ga_cons (ge_v 11) ga_nil)))))) (gss_cons (gs_ret ge_bl)
    gss_nil) gss_nil)
    (gss_cons (gs_set 15 c.nd (ge_call c C_u_law_pick (gr_io 1 (gr_v (ge_add c (ge_len M.n_len c (ge_v 6)) ge_int) gr_nil)) (by omega)))
    (gss_cons (gs_set 16 c.nd (ge_tup (ga_cons (ge_sl c (ge_v 6) gp_none (gp_some (ge_v 15))) (ga_cons (ge_tup ga_nil) (ga_cons (ge_sl c (ge_v 6) (gp_some (ge_v 15)) gp_none) ga_nil)))))
    (gss_cons (gs_set 17 c.nd (ge_lst ga_nil))
    (gss_cons (gs_for c PassesOwn.never (gi_seq c (ge_tup (ga_cons (ge_sl c (ge_v 13) gp_none (gp_some (ge_v 15))) (ga_cons (ge_tup ga_nil) (ga_cons (ge_sl c (ge_v 13) (gp_some (ge_v 15)) gp_none) ga_nil))))) (gg_n 18 c.nd) (gss_cons (gs_set 22 c.nd (ge_tup ga_nil))
    (gss_cons (gs_for c PassesOwn.never (gi_seq c (ge_v 18)) (gg_n 23 c.nd) (gss_cons (gs_set 22 c.nd (ge_add c (ge_v 22) (ge_v 23)))
    gss_nil))
    (gss_cons (gs_drop (ge_app 17 (ge_v 22)))
    gss_nil))))
    (gss_cons (gs_if (gb_neS (ge_repr M.n_repr c (ge_call c C_program_run (gr_v (ge_v 2) (gr_v (ge_v 5) (gr_v (ge_v 16) gr_nil))) (by omega))) (ge_repr M.n_repr c (ge_tup (ga_cons (ge_tuple M.n_tuple c (ge_v 17)) (ga_cons (ge_v 14) (ga_cons (ge_v 11) ga_nil)))))) (gss_cons (gs_ret ge_bl)
    gss_nil) gss_nil)
    gss_nil))))))))
    (gss_cons (gs_set 7 c.nd (ge_tup (ga_cons (ge_tup (ga_cons (ge_tup (ga_cons ge_str (ga_cons ge_str ga_nil))) (ga_cons (ge_tup (ga_cons (ge_tup (ga_cons ge_str (ga_cons (ge_tup (ga_cons ge_str ga_nil)) (ga_cons ge_str ga_nil)))) ga_nil)) ga_nil))) ga_nil)))
    (gss_cons (gs_set 7 c.nd (ge_add c (ge_v 7) (ge_tup (ga_cons (ge_tup (ga_cons (ge_tup (ga_cons ge_str (ga_cons (ge_tup (ga_cons ge_str (ga_cons ge_str ga_nil))) ga_nil))) (ga_cons (ge_tup (ga_cons (ge_tup (ga_cons ge_str (ga_cons (ge_tup (ga_cons ge_str (ga_cons ge_str ga_nil))) ga_nil))) (ga_cons (ge_tup (ga_cons ge_str (ga_cons ge_str ga_nil))) ga_nil))) ga_nil))) ga_nil))))
    (gss_cons (gs_set 8 c.nd (ge_tup (ga_cons ge_str (ga_cons ge_str (ga_cons (ge_tup (ga_cons ge_str ga_nil)) (ga_cons (ge_tup (ga_cons (ge_tup (ga_cons ge_str (ga_cons ge_bl (ga_cons (ge_v 7) ga_nil)))) ga_nil)) ga_nil))))))
    (gss_cons (gs_set 9 c.nd (ge_tup (ga_cons (ge_tup (ga_cons (ge_tup ga_nil) (ga_cons (ge_tup ga_nil) (ga_cons (ge_tup (ga_cons ge_str ga_nil)) (ga_cons (ge_tup ga_nil) ga_nil))))) (ga_cons ge_bl (ga_cons (ge_tup (ga_cons ge_str (ga_cons (ge_tup (ga_cons ge_str ga_nil)) ga_nil))) ga_nil)))))
    (gss_cons (gs_ret (ge_eq c (ge_call c C_program_run (gr_v (ge_tup ga_nil) (gr_v (ge_v 8) (gr_v (ge_tup (ga_cons (ge_tup (ga_cons ge_str ga_nil)) (ga_cons (ge_tup (ga_cons ge_str ga_nil)) (ga_cons (ge_tup (ga_cons ge_str ga_nil)) (ga_cons (ge_tup (ga_cons ge_str ga_nil)) ga_nil))))) gr_nil))) (by omega)) (ge_v 9)))
    gss_nil))))))))))
theorem ok_law (F : L2.Fun K "law" "law" s_law f fd) (M : MG mg) (C_u_law_source : CalG P w0 K mg base 1 "_law_source" (spD (W0 K) 1 D_u_law_source)) (C_u_law_words : CalG P w0 K mg base 3 "_law_words" (spD (W0 K) 1 D_u_law_words)) (C_u_law_program : CalG P w0 K mg base 7 "_law_program" (spD (W0 K) 5 D_u_law_program)) (C_u_law_row : CalG P w0 K mg base 3 "_law_row" (spD (W0 K) 3 D_u_law_row)) (C_u_law_run : CalG P w0 K mg base 8 "_law_run" (spD (W0 K) 3 D_u_law_run)) (C_u_law_pick : CalG P w0 K mg base 1 "_law_pick" (spD (W0 K) 2 D_u_law_pick)) (C_program_run : CalG P w0 K mg base 6 "program_run" (spD (W0 K) 3 D_program_run)) (C_u_law_of : CalG P w0 K mg base 2 "_law_of" (spD (W0 K) 2 D_u_law_of)) (C_u_law_first_rule : CalG P w0 K mg base 6 "_law_first_rule" (spD (W0 K) 4 D_u_law_first_rule)) (C_u_law_thing : CalG P w0 K mg base 3 "_law_thing" (spD (W0 K) 3 D_u_law_thing)) (C_u_law_worth : CalG P w0 K mg base 1 "_law_worth" (spD (W0 K) 4 D_u_law_worth)) (C_program_step : CalG P w0 K mg base 5 "program_step" (spD (W0 K) 4 D_program_step)) (C_first_stand : CalG P w0 K mg base 1 "first_stand" (spD (W0 K) 1 D_first_stand)) (C_rule_done : CalG P w0 K mg base 4 "rule_done" (spD (W0 K) 4 D_rule_done)) (C_thing_value : CalG P w0 K mg base 1 "thing_value" (spD (W0 K) 4 D_thing_value)) (C_u_law_step : CalG P w0 K mg base 7 "_law_step" (spD (W0 K) 4 D_u_law_step)) (C_u_law_holds : CalG P w0 K mg base 5 "_law_holds" (spD (W0 K) 5 (D_u_law_holds 4))) (C_program_yes : CalG P w0 K mg base 1 "program_yes" (spD (W0 K) 2 D_program_yes)) (C_does_hold : CalG P w0 K mg base 3 "does_hold" (spD (W0 K) 5 D_does_hold)) : FnG P w0 K mg base (8 + 1) f fd P_law (spD (W0 K) 1 D_law) :=
  fnD_of F sc_law rfl (show ([] : List Nat).Nodup by decide) (show ∀ i ∈ ([] : List Nat), i < P_law.length by decide) fun cdv A outer s H E room gd => d_law M C_u_law_source C_u_law_words C_u_law_program C_u_law_row C_u_law_run C_u_law_pick C_program_run C_u_law_of C_u_law_first_rule C_u_law_thing C_u_law_worth C_program_step C_first_stand C_rule_done C_thing_value C_u_law_step C_u_law_holds C_program_yes C_does_hold room gd
end
/-- a def of the module as the top has written it -/
structure At (K : PySem.W.Frag) (mg : Str → Option Value) (x : Str) (st : Stmt) (ps : List Str) : Prop where
  ex : ∃ (f : Addr) (fd : FuncData), L2.Fun K x x st f fd ∧ mg x = some (.ref f) ∧ Binds K fd ps []
theorem at_mk {K : PySem.W.Frag} {mg : Str → Option Value} {hp : Heap} (KX : K.In hp) (G : hp.Ns mainGlobals mg) {x : Str} {st : Stmt} {ps : List Str} {f : Addr} {oc : Value} {od an : Option Addr} {osl : Array (Option Value)} {kV doc pm cdv ct : Value}
    (a : PySem.W.nsIn K mainGlobals x = some (some (.ref f))) (l : K.lookup f = some ⟨oc, od, .func (PySem.W.fnOf x x (defArgs st) (defBody st) (defScope st) .none kV doc pm an cdv ct), osl⟩) (c : PySem.W.codeIn K cdv x = true) (k : PySem.W.keepIn K (.ref f) = true)
    (hb : ∀ (kV doc pm : Value) (an : Option Addr) (cdv ct : Value) (us : List Value), us.length = ps.length → bindArgs (PySem.W.fnOf x x (defArgs st) (defBody st) (defScope st) .none kV doc pm an cdv ct) ⟨us, []⟩ = pure (ps.zip us)) : At K mg x st ps :=
  ⟨f, _, fun_mk l c k, PySem.W.mg_of KX G a, (fun_mk l c k).binds hb⟩
theorem law_ok {P : Program} {w0 : World} {K : PySem.W.Frag} {mg : Str → Option Value} {fa : Addr} (M : MG mg) (hfa : mg "law" = some (.ref fa)) (A_u_law_source : At K mg "_law_source" s_u_law_source P_u_law_source) (A_u_law_pick : At K mg "_law_pick" s_u_law_pick P_u_law_pick) (A_u_law_of : At K mg "_law_of" s_u_law_of P_u_law_of) (A_u_law_words : At K mg "_law_words" s_u_law_words P_u_law_words) (A_u_law_thing : At K mg "_law_thing" s_u_law_thing P_u_law_thing) (A_u_law_condition : At K mg "_law_condition" s_u_law_condition P_u_law_condition) (A_u_law_mixed : At K mg "_law_mixed" s_u_law_mixed P_u_law_mixed) (A_u_law_acts : At K mg "_law_acts" s_u_law_acts P_u_law_acts) (A_u_law_program : At K mg "_law_program" s_u_law_program P_u_law_program) (A_u_law_row : At K mg "_law_row" s_u_law_row P_u_law_row) (A_u_law_worth : At K mg "_law_worth" s_u_law_worth P_u_law_worth) (A_u_law_holds : At K mg "_law_holds" s_u_law_holds P_u_law_holds) (A_u_law_first_rule : At K mg "_law_first_rule" s_u_law_first_rule P_u_law_first_rule) (A_u_law_step : At K mg "_law_step" s_u_law_step P_u_law_step) (A_u_law_run : At K mg "_law_run" s_u_law_run P_u_law_run) (A_first_stand : At K mg "first_stand" s_first_stand P_first_stand) (A_program_yes : At K mg "program_yes" s_program_yes P_program_yes) (A_rules_of : At K mg "rules_of" s_rules_of P_rules_of) (A_thing_value : At K mg "thing_value" s_thing_value P_thing_value) (A_simple_holds : At K mg "simple_holds" s_simple_holds P_simple_holds) (A_does_hold : At K mg "does_hold" s_does_hold P_does_hold) (A_rule_done : At K mg "rule_done" s_rule_done P_rule_done) (A_program_step : At K mg "program_step" s_program_step P_program_step) (A_program_run : At K mg "program_run" s_program_run P_program_run) (A_law : At K mg "law" s_law P_law) :
    ∃ fd : FuncData, (∀ (s : Shared) (u : Value), BindsTo s fd ⟨[u], []⟩ [("script", u)]) ∧ ∀ base : Heap, K.In base → base.Ns mainGlobals mg → FnG P w0 K mg base 9 fa fd ["script"] (spD (W0 K) 1 D_law) := by
  obtain ⟨f_u_law_source, fd_u_law_source, F_u_law_source, m_u_law_source, b_u_law_source⟩ := A_u_law_source.ex
  obtain ⟨f_u_law_pick, fd_u_law_pick, F_u_law_pick, m_u_law_pick, b_u_law_pick⟩ := A_u_law_pick.ex
  obtain ⟨f_u_law_of, fd_u_law_of, F_u_law_of, m_u_law_of, b_u_law_of⟩ := A_u_law_of.ex
  obtain ⟨f_u_law_words, fd_u_law_words, F_u_law_words, m_u_law_words, b_u_law_words⟩ := A_u_law_words.ex
  obtain ⟨f_u_law_thing, fd_u_law_thing, F_u_law_thing, m_u_law_thing, b_u_law_thing⟩ := A_u_law_thing.ex
  obtain ⟨f_u_law_condition, fd_u_law_condition, F_u_law_condition, m_u_law_condition, b_u_law_condition⟩ := A_u_law_condition.ex
  obtain ⟨f_u_law_mixed, fd_u_law_mixed, F_u_law_mixed, m_u_law_mixed, b_u_law_mixed⟩ := A_u_law_mixed.ex
  obtain ⟨f_u_law_acts, fd_u_law_acts, F_u_law_acts, m_u_law_acts, b_u_law_acts⟩ := A_u_law_acts.ex
  obtain ⟨f_u_law_program, fd_u_law_program, F_u_law_program, m_u_law_program, b_u_law_program⟩ := A_u_law_program.ex
  obtain ⟨f_u_law_row, fd_u_law_row, F_u_law_row, m_u_law_row, b_u_law_row⟩ := A_u_law_row.ex
  obtain ⟨f_u_law_worth, fd_u_law_worth, F_u_law_worth, m_u_law_worth, b_u_law_worth⟩ := A_u_law_worth.ex
  obtain ⟨f_u_law_holds, fd_u_law_holds, F_u_law_holds, m_u_law_holds, b_u_law_holds⟩ := A_u_law_holds.ex
  obtain ⟨f_u_law_first_rule, fd_u_law_first_rule, F_u_law_first_rule, m_u_law_first_rule, b_u_law_first_rule⟩ := A_u_law_first_rule.ex
  obtain ⟨f_u_law_step, fd_u_law_step, F_u_law_step, m_u_law_step, b_u_law_step⟩ := A_u_law_step.ex
  obtain ⟨f_u_law_run, fd_u_law_run, F_u_law_run, m_u_law_run, b_u_law_run⟩ := A_u_law_run.ex
  obtain ⟨f_first_stand, fd_first_stand, F_first_stand, m_first_stand, b_first_stand⟩ := A_first_stand.ex
  obtain ⟨f_program_yes, fd_program_yes, F_program_yes, m_program_yes, b_program_yes⟩ := A_program_yes.ex
  obtain ⟨f_rules_of, fd_rules_of, F_rules_of, m_rules_of, b_rules_of⟩ := A_rules_of.ex
  obtain ⟨f_thing_value, fd_thing_value, F_thing_value, m_thing_value, b_thing_value⟩ := A_thing_value.ex
  obtain ⟨f_simple_holds, fd_simple_holds, F_simple_holds, m_simple_holds, b_simple_holds⟩ := A_simple_holds.ex
  obtain ⟨f_does_hold, fd_does_hold, F_does_hold, m_does_hold, b_does_hold⟩ := A_does_hold.ex
  obtain ⟨f_rule_done, fd_rule_done, F_rule_done, m_rule_done, b_rule_done⟩ := A_rule_done.ex
  obtain ⟨f_program_step, fd_program_step, F_program_step, m_program_step, b_program_step⟩ := A_program_step.ex
  obtain ⟨f_program_run, fd_program_run, F_program_run, m_program_run, b_program_run⟩ := A_program_run.ex
  obtain ⟨f_law, fd_law, F_law, m_law, b_law⟩ := A_law.ex
  rw [m_law] at hfa
  cases hfa
  refine ⟨fd_law, fun s u => ?_, fun base KB _ => ?_⟩
  · obtain ⟨oc, od, kV, doc, pm, an, cdv, ct, osl, rfl, _⟩ := F_law.ex
    exact .of_eq rfl
  · have C_u_law_source : CalG P w0 K mg base 1 "_law_source" (spD (W0 K) 1 D_u_law_source) := ⟨f_u_law_source, fd_u_law_source, P_u_law_source, ok_u_law_source F_u_law_source M , m_u_law_source, F_u_law_source.kp, b_u_law_source⟩
    have C_u_law_pick : CalG P w0 K mg base 1 "_law_pick" (spD (W0 K) 2 D_u_law_pick) := ⟨f_u_law_pick, fd_u_law_pick, P_u_law_pick, ok_u_law_pick F_u_law_pick M , m_u_law_pick, F_u_law_pick.kp, b_u_law_pick⟩
    have C_u_law_of : CalG P w0 K mg base 2 "_law_of" (spD (W0 K) 2 D_u_law_of) := ⟨f_u_law_of, fd_u_law_of, P_u_law_of, ok_u_law_of F_u_law_of M C_u_law_pick, m_u_law_of, F_u_law_of.kp, b_u_law_of⟩
    have C_u_law_words : CalG P w0 K mg base 3 "_law_words" (spD (W0 K) 1 D_u_law_words) := ⟨f_u_law_words, fd_u_law_words, P_u_law_words, ok_u_law_words F_u_law_words M C_u_law_of, m_u_law_words, F_u_law_words.kp, b_u_law_words⟩
    have C_u_law_thing : CalG P w0 K mg base 3 "_law_thing" (spD (W0 K) 3 D_u_law_thing) := ⟨f_u_law_thing, fd_u_law_thing, P_u_law_thing, ok_u_law_thing F_u_law_thing M C_u_law_of, m_u_law_thing, F_u_law_thing.kp, b_u_law_thing⟩
    have C_u_law_condition : ∀ n, CalG P w0 K mg base (3 + n) "_law_condition" (spD (W0 K) 4 (D_u_law_condition n)) := fun n => by
      induction n with
      | zero => exact ⟨f_u_law_condition, fd_u_law_condition, P_u_law_condition, fnD_of (k := 2) (N := N_u_law_condition) (d := D_u_law_condition 0) F_u_law_condition sc_u_law_condition rfl (show ([0] : List Nat).Nodup by decide) (show ∀ i ∈ ([0] : List Nat), i < P_u_law_condition.length by decide) (fun _ _ _ _ _ _ _ _ => gss_never), m_u_law_condition, F_u_law_condition.kp, b_u_law_condition⟩
      | succ n ih => exact ⟨f_u_law_condition, fd_u_law_condition, P_u_law_condition, ok_u_law_condition n F_u_law_condition M C_u_law_pick C_u_law_of ih C_u_law_thing, m_u_law_condition, F_u_law_condition.kp, b_u_law_condition⟩
    have C_u_law_mixed : CalG P w0 K mg base 2 "_law_mixed" (spD (W0 K) 2 D_u_law_mixed) := ⟨f_u_law_mixed, fd_u_law_mixed, P_u_law_mixed, ok_u_law_mixed F_u_law_mixed M C_u_law_pick, m_u_law_mixed, F_u_law_mixed.kp, b_u_law_mixed⟩
    have C_u_law_acts : CalG P w0 K mg base 4 "_law_acts" (spD (W0 K) 4 D_u_law_acts) := ⟨f_u_law_acts, fd_u_law_acts, P_u_law_acts, ok_u_law_acts F_u_law_acts M C_u_law_pick C_u_law_mixed C_u_law_thing C_u_law_of, m_u_law_acts, F_u_law_acts.kp, b_u_law_acts⟩
    have C_u_law_program : CalG P w0 K mg base 7 "_law_program" (spD (W0 K) 5 D_u_law_program) := ⟨f_u_law_program, fd_u_law_program, P_u_law_program, ok_u_law_program F_u_law_program M C_u_law_pick (C_u_law_condition 3) C_u_law_acts, m_u_law_program, F_u_law_program.kp, b_u_law_program⟩
    have C_u_law_row : CalG P w0 K mg base 3 "_law_row" (spD (W0 K) 3 D_u_law_row) := ⟨f_u_law_row, fd_u_law_row, P_u_law_row, ok_u_law_row F_u_law_row M C_u_law_of, m_u_law_row, F_u_law_row.kp, b_u_law_row⟩
    have C_u_law_worth : CalG P w0 K mg base 1 "_law_worth" (spD (W0 K) 4 D_u_law_worth) := ⟨f_u_law_worth, fd_u_law_worth, P_u_law_worth, ok_u_law_worth F_u_law_worth M , m_u_law_worth, F_u_law_worth.kp, b_u_law_worth⟩
    have C_u_law_holds : ∀ n, CalG P w0 K mg base (1 + n) "_law_holds" (spD (W0 K) 5 (D_u_law_holds n)) := fun n => by
      induction n with
      | zero => exact ⟨f_u_law_holds, fd_u_law_holds, P_u_law_holds, fnD_of (k := 0) (N := N_u_law_holds) (d := D_u_law_holds 0) F_u_law_holds sc_u_law_holds rfl (show ([] : List Nat).Nodup by decide) (show ∀ i ∈ ([] : List Nat), i < P_u_law_holds.length by decide) (fun _ _ _ _ _ _ _ _ => gss_never), m_u_law_holds, F_u_law_holds.kp, b_u_law_holds⟩
      | succ n ih => exact ⟨f_u_law_holds, fd_u_law_holds, P_u_law_holds, ok_u_law_holds n F_u_law_holds M ih C_u_law_worth, m_u_law_holds, F_u_law_holds.kp, b_u_law_holds⟩
    have C_u_law_first_rule : CalG P w0 K mg base 6 "_law_first_rule" (spD (W0 K) 4 D_u_law_first_rule) := ⟨f_u_law_first_rule, fd_u_law_first_rule, P_u_law_first_rule, ok_u_law_first_rule F_u_law_first_rule M (C_u_law_holds 4), m_u_law_first_rule, F_u_law_first_rule.kp, b_u_law_first_rule⟩
    have C_u_law_step : CalG P w0 K mg base 7 "_law_step" (spD (W0 K) 4 D_u_law_step) := ⟨f_u_law_step, fd_u_law_step, P_u_law_step, ok_u_law_step F_u_law_step M C_u_law_first_rule C_u_law_worth, m_u_law_step, F_u_law_step.kp, b_u_law_step⟩
    have C_u_law_run : CalG P w0 K mg base 8 "_law_run" (spD (W0 K) 3 D_u_law_run) := ⟨f_u_law_run, fd_u_law_run, P_u_law_run, ok_u_law_run F_u_law_run M C_u_law_step, m_u_law_run, F_u_law_run.kp, b_u_law_run⟩
    have C_first_stand : CalG P w0 K mg base 1 "first_stand" (spD (W0 K) 1 D_first_stand) := ⟨f_first_stand, fd_first_stand, P_first_stand, ok_first_stand F_first_stand M , m_first_stand, F_first_stand.kp, b_first_stand⟩
    have C_program_yes : CalG P w0 K mg base 1 "program_yes" (spD (W0 K) 2 D_program_yes) := ⟨f_program_yes, fd_program_yes, P_program_yes, ok_program_yes F_program_yes M , m_program_yes, F_program_yes.kp, b_program_yes⟩
    have C_rules_of : CalG P w0 K mg base 1 "rules_of" (spD (W0 K) 2 D_rules_of) := ⟨f_rules_of, fd_rules_of, P_rules_of, ok_rules_of F_rules_of M , m_rules_of, F_rules_of.kp, b_rules_of⟩
    have C_thing_value : CalG P w0 K mg base 1 "thing_value" (spD (W0 K) 4 D_thing_value) := ⟨f_thing_value, fd_thing_value, P_thing_value, ok_thing_value F_thing_value M , m_thing_value, F_thing_value.kp, b_thing_value⟩
    have C_simple_holds : CalG P w0 K mg base 2 "simple_holds" (spD (W0 K) 5 D_simple_holds) := ⟨f_simple_holds, fd_simple_holds, P_simple_holds, ok_simple_holds F_simple_holds M C_thing_value, m_simple_holds, F_simple_holds.kp, b_simple_holds⟩
    have C_does_hold : CalG P w0 K mg base 3 "does_hold" (spD (W0 K) 5 D_does_hold) := ⟨f_does_hold, fd_does_hold, P_does_hold, ok_does_hold F_does_hold M C_simple_holds, m_does_hold, F_does_hold.kp, b_does_hold⟩
    have C_rule_done : CalG P w0 K mg base 4 "rule_done" (spD (W0 K) 4 D_rule_done) := ⟨f_rule_done, fd_rule_done, P_rule_done, ok_rule_done F_rule_done M C_rules_of C_does_hold, m_rule_done, F_rule_done.kp, b_rule_done⟩
    have C_program_step : CalG P w0 K mg base 5 "program_step" (spD (W0 K) 4 D_program_step) := ⟨f_program_step, fd_program_step, P_program_step, ok_program_step F_program_step M C_rule_done C_rules_of C_thing_value, m_program_step, F_program_step.kp, b_program_step⟩
    have C_program_run : CalG P w0 K mg base 6 "program_run" (spD (W0 K) 3 D_program_run) := ⟨f_program_run, fd_program_run, P_program_run, ok_program_run F_program_run M C_first_stand C_program_yes C_program_step, m_program_run, F_program_run.kp, b_program_run⟩
    exact ok_law F_law M C_u_law_source C_u_law_words C_u_law_program C_u_law_row C_u_law_run C_u_law_pick C_program_run C_u_law_of C_u_law_first_rule C_u_law_thing C_u_law_worth C_program_step C_first_stand C_rule_done C_thing_value C_u_law_step (C_u_law_holds 4) C_program_yes C_does_hold
end K07

set_option Elab.async false
set_option linter.all false
set_option maxRecDepth 100000
set_option maxHeartbeats 4000000
namespace K07
open PySem KV
theorem pick_turn (S1 : Src) (n : Int) (s : Sl) (hs : s = [some (.src S1), some (.val (.int n)), none, none]) :
    ((bAnd (bVal (k2 pGt (kX 1) (kC (.int 1)))) (bAnd (bVal (k2 pLt (kSGet 0 .left) (kC (.int 2)))) (bVal (k2 pGt (kSLen 0) (kC (.int 0)))))) s).W fun r =>
      if r.1 = true then ((sCons (sSPut 0 .left (kSPop 0)) sNil) r.2).W fun q => (q.1 = .nx ∨ q.1 = .ct) ∧ ∃ m', m' < S1.cells.length ∧ ∃ S2 : Src, q.2 = [some (.src S2), some (.val (.int n)), none, none] ∧ S2.cells.length = m'
      else r.2 = s := by
  subst hs
  simp only [run_mk, List.map_cons, List.map_nil, List.length_cons, List.length_nil, List.cons_append, List.nil_append, List.replicate_succ, List.replicate_zero, Nat.reduceAdd, Nat.reduceSub, List.getElem?_cons_zero, List.getElem?_cons_succ, List.set_cons_zero, List.set_cons_succ, R.bind_ok, sCons, sNil, sIf, sRet, retL, dropL, sSet, setL, sDrop, sUnp, sPar, lNil, lCons, kF, putL, gN, gT, gAll, kC, kX, kD, kG, kS, scl, k1, k2, L.get, L.take, T.toD, aNil, aCons, kTup, kLst, bVal, bAnd, bOr, bNot, kAnd, kOr, kNot, kIf, boolOf, kCall, cNil, cV, cMv, cPass, lend, back, resL, outs, endOf, srcAt, kSGet, kSLen, kInt, SF.get, SF.put, bl, nm, if_true, if_false, Bool.false_eq_true, Bool.not_true, Bool.not_false, pGt, pLt]
  by_cases h1 : (1 : Int) < n
  · simp only [h1, decide_true, run_mk, List.map_cons, List.map_nil, List.length_cons, List.length_nil, List.cons_append, List.nil_append, List.replicate_succ, List.replicate_zero, Nat.reduceAdd, Nat.reduceSub, List.getElem?_cons_zero, List.getElem?_cons_succ, List.set_cons_zero, List.set_cons_succ, R.bind_ok, sCons, sNil, sIf, sRet, retL, dropL, sSet, setL, sDrop, sUnp, sPar, lNil, lCons, kF, putL, gN, gT, gAll, kC, kX, kD, kG, kS, scl, k1, k2, L.get, L.take, T.toD, aNil, aCons, kTup, kLst, bVal, bAnd, bOr, bNot, kAnd, kOr, kNot, kIf, boolOf, kCall, cNil, cV, cMv, cPass, lend, back, resL, outs, endOf, srcAt, kSGet, kSLen, kInt, SF.get, SF.put, bl, nm, if_true, if_false, Bool.false_eq_true, Bool.not_true, Bool.not_false]
    by_cases h2 : S1.left < 2
    · simp only [h2, decide_true, run_mk, List.map_cons, List.map_nil, List.length_cons, List.length_nil, List.cons_append, List.nil_append, List.replicate_succ, List.replicate_zero, Nat.reduceAdd, Nat.reduceSub, List.getElem?_cons_zero, List.getElem?_cons_succ, List.set_cons_zero, List.set_cons_succ, R.bind_ok, sCons, sNil, sIf, sRet, retL, dropL, sSet, setL, sDrop, sUnp, sPar, lNil, lCons, kF, putL, gN, gT, gAll, kC, kX, kD, kG, kS, scl, k1, k2, L.get, L.take, T.toD, aNil, aCons, kTup, kLst, bVal, bAnd, bOr, bNot, kAnd, kOr, kNot, kIf, boolOf, kCall, cNil, cV, cMv, cPass, lend, back, resL, outs, endOf, srcAt, kSGet, kSLen, kInt, SF.get, SF.put, bl, nm, if_true, if_false, Bool.false_eq_true, Bool.not_true, Bool.not_false]
      by_cases h3 : (0 : Int) < S1.cells.length
      · simp only [h3, decide_true, run_mk, List.map_cons, List.map_nil, List.length_cons, List.length_nil, List.cons_append, List.nil_append, List.replicate_succ, List.replicate_zero, Nat.reduceAdd, Nat.reduceSub, List.getElem?_cons_zero, List.getElem?_cons_succ, List.set_cons_zero, List.set_cons_succ, R.bind_ok, sCons, sNil, sIf, sRet, retL, dropL, sSet, setL, sDrop, sUnp, sPar, lNil, lCons, kF, putL, gN, gT, gAll, kC, kX, kD, kG, kS, scl, k1, k2, L.get, L.take, T.toD, aNil, aCons, kTup, kLst, bVal, bAnd, bOr, bNot, kAnd, kOr, kNot, kIf, boolOf, kCall, cNil, cV, cMv, cPass, lend, back, resL, outs, endOf, srcAt, kSGet, kSLen, kInt, SF.get, SF.put, bl, nm, if_true, if_false, Bool.false_eq_true, Bool.not_true, Bool.not_false, R.W_ok]
        have hl : S1.cells.length - 1 < S1.cells.length := by omega
        simp only [sSPut, kSPop, run_mk, List.map_cons, List.map_nil, List.length_cons, List.length_nil, List.cons_append, List.nil_append, List.replicate_succ, List.replicate_zero, Nat.reduceAdd, Nat.reduceSub, List.getElem?_cons_zero, List.getElem?_cons_succ, List.set_cons_zero, List.set_cons_succ, R.bind_ok, sCons, sNil, sIf, sRet, retL, dropL, sSet, setL, sDrop, sUnp, sPar, lNil, lCons, kF, putL, gN, gT, gAll, kC, kX, kD, kG, kS, scl, k1, k2, L.get, L.take, T.toD, aNil, aCons, kTup, kLst, bVal, bAnd, bOr, bNot, kAnd, kOr, kNot, kIf, boolOf, kCall, cNil, cV, cMv, cPass, lend, back, resL, outs, endOf, srcAt, kSGet, kSLen, kInt, SF.get, SF.put, bl, nm, if_true, if_false, Bool.false_eq_true, Bool.not_true, Bool.not_false, List.getElem?_eq_getElem hl, R.W_ok]
        refine ⟨.inl trivial, S1.cells.length - 1, hl, _, rfl, ?_⟩
        simp
      · simp only [h3, decide_false, run_mk, List.map_cons, List.map_nil, List.length_cons, List.length_nil, List.cons_append, List.nil_append, List.replicate_succ, List.replicate_zero, Nat.reduceAdd, Nat.reduceSub, List.getElem?_cons_zero, List.getElem?_cons_succ, List.set_cons_zero, List.set_cons_succ, R.bind_ok, sCons, sNil, sIf, sRet, retL, dropL, sSet, setL, sDrop, sUnp, sPar, lNil, lCons, kF, putL, gN, gT, gAll, kC, kX, kD, kG, kS, scl, k1, k2, L.get, L.take, T.toD, aNil, aCons, kTup, kLst, bVal, bAnd, bOr, bNot, kAnd, kOr, kNot, kIf, boolOf, kCall, cNil, cV, cMv, cPass, lend, back, resL, outs, endOf, srcAt, kSGet, kSLen, kInt, SF.get, SF.put, bl, nm, if_true, if_false, Bool.false_eq_true, Bool.not_true, Bool.not_false, R.W_ok]
    · simp only [h2, decide_false, run_mk, List.map_cons, List.map_nil, List.length_cons, List.length_nil, List.cons_append, List.nil_append, List.replicate_succ, List.replicate_zero, Nat.reduceAdd, Nat.reduceSub, List.getElem?_cons_zero, List.getElem?_cons_succ, List.set_cons_zero, List.set_cons_succ, R.bind_ok, sCons, sNil, sIf, sRet, retL, dropL, sSet, setL, sDrop, sUnp, sPar, lNil, lCons, kF, putL, gN, gT, gAll, kC, kX, kD, kG, kS, scl, k1, k2, L.get, L.take, T.toD, aNil, aCons, kTup, kLst, bVal, bAnd, bOr, bNot, kAnd, kOr, kNot, kIf, boolOf, kCall, cNil, cV, cMv, cPass, lend, back, resL, outs, endOf, srcAt, kSGet, kSLen, kInt, SF.get, SF.put, bl, nm, if_true, if_false, Bool.false_eq_true, Bool.not_true, Bool.not_false, R.W_ok]
  · simp only [h1, decide_false, run_mk, List.map_cons, List.map_nil, List.length_cons, List.length_nil, List.cons_append, List.nil_append, List.replicate_succ, List.replicate_zero, Nat.reduceAdd, Nat.reduceSub, List.getElem?_cons_zero, List.getElem?_cons_succ, List.set_cons_zero, List.set_cons_succ, R.bind_ok, sCons, sNil, sIf, sRet, retL, dropL, sSet, setL, sDrop, sUnp, sPar, lNil, lCons, kF, putL, gN, gT, gAll, kC, kX, kD, kG, kS, scl, k1, k2, L.get, L.take, T.toD, aNil, aCons, kTup, kLst, bVal, bAnd, bOr, bNot, kAnd, kOr, kNot, kIf, boolOf, kCall, cNil, cV, cMv, cPass, lend, back, resL, outs, endOf, srcAt, kSGet, kSLen, kInt, SF.get, SF.put, bl, nm, if_true, if_false, Bool.false_eq_true, Bool.not_true, Bool.not_false, R.W_ok]
theorem pick_ok (S : Src) (n : Nat) (hn : n ≤ 1000000) (hc : S.cells.length ≤ 1000) : ∃ (r : Nat) (S' : Src), D_u_law_pick.run [.src S, .val (.int n)] = .ok (.val (.int r), [.src S']) ∧ (r < n ∨ (n ≤ 1 ∧ r = 0)) ∧ S'.cells.length ≤ S.cells.length := by
  have hw := while_inv (c := bAnd (bVal (k2 pGt (kX 1) (kC (.int 1)))) (bAnd (bVal (k2 pLt (kSGet 0 .left) (kC (.int 2)))) (bVal (k2 pGt (kSLen 0) (kC (.int 0)))))) (b := sCons (sSPut 0 .left (kSPop 0)) sNil)
    (fun m s => ∃ S1 : Src, s = [some (.src S1), some (.val (.int n)), none, none] ∧ S1.cells.length = m ∧ m ≤ S.cells.length)
    (fun s => ∃ S1 : Src, s = [some (.src S1), some (.val (.int n)), none, none] ∧ S1.cells.length ≤ S.cells.length)
    (fun m s ⟨S1, e1, e2, e3⟩ => R.W_mono (pick_turn S1 n s e1) fun r hr => by
      by_cases hb : r.1 = true
      · rw [if_pos hb] at hr ⊢
        exact R.W_mono hr fun q ⟨h1, m', h2, S2, h3, h4⟩ => ⟨h1, m', by omega, S2, h3, h4, by omega⟩
      · rw [if_neg hb] at hr ⊢
        rw [hr]
        exact ⟨S1, e1, by omega⟩)
    (n := fuel) (m := S.cells.length) (s := [some (.src S), some (.val (.int n)), none, none]) ⟨S, rfl, rfl, Nat.le_refl _⟩ (by show _ < 1000000; omega)
  obtain ⟨⟨fl, s1⟩, e1, e2, S1, e3, e4⟩ := R.W_get hw
  simp only at e2 e3
  subst e2 e3
  simp only [run_mk, List.map_cons, List.map_nil, List.length_cons, List.length_nil, List.cons_append, List.nil_append, List.replicate_succ, List.replicate_zero, Nat.reduceAdd, Nat.reduceSub, List.getElem?_cons_zero, List.getElem?_cons_succ, List.set_cons_zero, List.set_cons_succ, R.bind_ok, sCons, sNil, sIf, sRet, retL, dropL, sSet, setL, sDrop, sUnp, sPar, lNil, lCons, kF, putL, gN, gT, gAll, kC, kX, kD, kG, kS, scl, k1, k2, L.get, L.take, T.toD, aNil, aCons, kTup, kLst, bVal, bAnd, bOr, bNot, kAnd, kOr, kNot, kIf, boolOf, kCall, cNil, cV, cMv, cPass, lend, back, resL, outs, endOf, srcAt, kSGet, kSLen, kInt, SF.get, SF.put, bl, nm, if_true, if_false, Bool.false_eq_true, Bool.not_true, Bool.not_false, D_u_law_pick, sWhile, e1, pLt, pGt]
  have hmax : (if (n : Int) > 1 then (n : Int) else 1) > 0 := by split <;> omega
  have hmax2 : (if (n : Int) > 1 then (n : Int) else 1) < 1000000000 := by split <;> omega
  by_cases hs1 : (n : Int) < 2
  · simp only [hs1, decide_true, run_mk, List.map_cons, List.map_nil, List.length_cons, List.length_nil, List.cons_append, List.nil_append, List.replicate_succ, List.replicate_zero, Nat.reduceAdd, Nat.reduceSub, List.getElem?_cons_zero, List.getElem?_cons_succ, List.set_cons_zero, List.set_cons_succ, R.bind_ok, sCons, sNil, sIf, sRet, retL, dropL, sSet, setL, sDrop, sUnp, sPar, lNil, lCons, kF, putL, gN, gT, gAll, kC, kX, kD, kG, kS, scl, k1, k2, L.get, L.take, T.toD, aNil, aCons, kTup, kLst, bVal, bAnd, bOr, bNot, kAnd, kOr, kNot, kIf, boolOf, kCall, cNil, cV, cMv, cPass, lend, back, resL, outs, endOf, srcAt, kSGet, kSLen, kInt, SF.get, SF.put, bl, nm, if_true, if_false, Bool.false_eq_true, Bool.not_true, Bool.not_false, sSPut, pMax2, pDiv, pMod, pInt, hmax, hmax2, and_self]
    have e0 : ¬ ((n : Int) > 1) := by omega
    rw [if_neg e0, Int.emod_one]
    exact ⟨0, _, rfl, .inr ⟨by omega, rfl⟩, e4⟩
  · simp only [hs1, decide_false, run_mk, List.map_cons, List.map_nil, List.length_cons, List.length_nil, List.cons_append, List.nil_append, List.replicate_succ, List.replicate_zero, Nat.reduceAdd, Nat.reduceSub, List.getElem?_cons_zero, List.getElem?_cons_succ, List.set_cons_zero, List.set_cons_succ, R.bind_ok, sCons, sNil, sIf, sRet, retL, dropL, sSet, setL, sDrop, sUnp, sPar, lNil, lCons, kF, putL, gN, gT, gAll, kC, kX, kD, kG, kS, scl, k1, k2, L.get, L.take, T.toD, aNil, aCons, kTup, kLst, bVal, bAnd, bOr, bNot, kAnd, kOr, kNot, kIf, boolOf, kCall, cNil, cV, cMv, cPass, lend, back, resL, outs, endOf, srcAt, kSGet, kSLen, kInt, SF.get, SF.put, bl, nm, if_true, if_false, Bool.false_eq_true, Bool.not_true, Bool.not_false]
    have e0 : (n : Int) > 1 := by omega
    by_cases hs2 : (1 : Int) < S1.left
    · simp only [hs2, decide_true, run_mk, List.map_cons, List.map_nil, List.length_cons, List.length_nil, List.cons_append, List.nil_append, List.replicate_succ, List.replicate_zero, Nat.reduceAdd, Nat.reduceSub, List.getElem?_cons_zero, List.getElem?_cons_succ, List.set_cons_zero, List.set_cons_succ, R.bind_ok, sCons, sNil, sIf, sRet, retL, dropL, sSet, setL, sDrop, sUnp, sPar, lNil, lCons, kF, putL, gN, gT, gAll, kC, kX, kD, kG, kS, scl, k1, k2, L.get, L.take, T.toD, aNil, aCons, kTup, kLst, bVal, bAnd, bOr, bNot, kAnd, kOr, kNot, kIf, boolOf, kCall, cNil, cV, cMv, cPass, lend, back, resL, outs, endOf, srcAt, kSGet, kSLen, kInt, SF.get, SF.put, bl, nm, if_true, if_false, Bool.false_eq_true, Bool.not_true, Bool.not_false, sSPut, pMax2, pDiv, pMod, pInt, hmax, hmax2, and_self]
      rw [if_pos e0]
      have h1 := Int.emod_nonneg S1.left (show (n : Int) ≠ 0 by omega)
      have h2 := Int.emod_lt_of_pos S1.left (show (0 : Int) < n by omega)
      obtain ⟨r, hr⟩ : ∃ r : Nat, S1.left % (n : Int) = r := ⟨_, (Int.toNat_of_nonneg h1).symm⟩
      rw [hr] at h2 ⊢
      exact ⟨r, _, rfl, .inl (by omega), e4⟩
    · have t1 : (-2 ^ 64 < (104729 : Int) ∧ (104729 : Int) < 2 ^ 64) := by decide
      have t2 : (-2 ^ 64 < (17 : Int) ∧ (17 : Int) < 2 ^ 64) := by decide
      have t3 : (0 : Int) < 998244353 := by decide
      have t4 : (0 : Int) < 2147483647 := by decide
      have t5 : (0 : Int) < 16 ∧ (16 : Int) < 1000000000 := by decide
      have t6 : ∀ x : Int, (-2 ^ 64 < x % 998244353 ∧ x % 998244353 < 2 ^ 64) := fun x => by
        have h1 := Int.emod_nonneg x (show (998244353 : Int) ≠ 0 by decide)
        have h2 := Int.emod_lt_of_pos x (show (0 : Int) < 998244353 by decide)
        omega
      have t7 : (0 : Int) < n := by omega
      simp only [hs2, decide_false, run_mk, List.map_cons, List.map_nil, List.length_cons, List.length_nil, List.cons_append, List.nil_append, List.replicate_succ, List.replicate_zero, Nat.reduceAdd, Nat.reduceSub, List.getElem?_cons_zero, List.getElem?_cons_succ, List.set_cons_zero, List.set_cons_succ, R.bind_ok, sCons, sNil, sIf, sRet, retL, dropL, sSet, setL, sDrop, sUnp, sPar, lNil, lCons, kF, putL, gN, gT, gAll, kC, kX, kD, kG, kS, scl, k1, k2, L.get, L.take, T.toD, aNil, aCons, kTup, kLst, bVal, bAnd, bOr, bNot, kAnd, kOr, kNot, kIf, boolOf, kCall, cNil, cV, cMv, cPass, lend, back, resL, outs, endOf, srcAt, kSGet, kSLen, kInt, SF.get, SF.put, bl, nm, if_true, if_false, Bool.false_eq_true, Bool.not_true, Bool.not_false, sSPut, pMax2, pDiv, pMod, pInt, pAdd, pMul, t1, t2, t3, t4, t5, t6, t7, or_true, true_or, and_self]
      generalize (_ / 16 : Int) = z
      have h1 := Int.emod_nonneg z (show (n : Int) ≠ 0 by omega)
      have h2 := Int.emod_lt_of_pos z t7
      obtain ⟨r, hr⟩ : ∃ r : Nat, z % (n : Int) = r := ⟨_, (Int.toNat_of_nonneg h1).symm⟩
      rw [hr] at h2 ⊢
      exact ⟨r, _, rfl, .inl (by omega), e4⟩
/-- the source, as long as it is used -/
def Sok (S : Src) : Prop := S.cells.length ≤ 1000
theorem pick (S : Src) (n : Nat) (hS : Sok S) (hn : 0 < n) (hm : n ≤ 1000000) : ∃ (r : Nat) (S' : Src), D_u_law_pick.run [.src S, .val (.int n)] = .ok (.val (.int r), [.src S']) ∧ r < n ∧ Sok S' := by
  obtain ⟨r, S', h1, h2, h3⟩ := pick_ok S n hm hS
  exact ⟨r, S', h1, by omega, Nat.le_trans h3 hS⟩
theorem ixD_nat {n r : Nat} (h : r < n) : ixD n (r : Int) = some r := by
  unfold ixD L2.ixN
  rw [if_pos (by omega), if_pos (by omega)]
  simp
theorem of_ok (S : Src) (ds : List D) (hS : Sok S) (hn : 0 < ds.length) (hm : ds.length ≤ 1000000) : ∃ (d : D) (S' : Src), D_u_law_of.run [.src S, .val (.list ds)] = .ok (.val d, [.src S']) ∧ d ∈ ds ∧ Sok S' := by
  obtain ⟨r, S', h1, h2, h3⟩ := pick S ds.length hS hn hm
  refine ⟨ds[r], S', ?_, List.getElem_mem _, h3⟩
  simp only [run_mk, List.map_cons, List.map_nil, List.length_cons, List.length_nil, List.cons_append, List.nil_append, List.replicate_succ, List.replicate_zero, Nat.reduceAdd, Nat.reduceSub, List.getElem?_cons_zero, List.getElem?_cons_succ, List.set_cons_zero, List.set_cons_succ, R.bind_ok, sCons, sNil, sIf, sRet, retL, dropL, sSet, setL, sDrop, sUnp, sPar, lNil, lCons, kF, putL, gN, gT, gAll, kC, kX, kD, kG, kS, scl, k1, k2, L.get, L.take, T.toD, aNil, aCons, kTup, kLst, bVal, bAnd, bOr, bNot, kAnd, kOr, kNot, kIf, boolOf, kCall, cNil, cV, cMv, cPass, lend, back, resL, outs, endOf, srcAt, kSGet, kSLen, kInt, SF.get, SF.put, bl, nm, if_true, if_false, Bool.false_eq_true, Bool.not_true, Bool.not_false, D_u_law_of, pLen, h1, pIx, ixD_nat h2, Option.bind_some, List.getElem?_eq_getElem h2, optD]
def absD : D → D
  | .int i => .int (if i < 0 then -i else i)
  | d => d
theorem source_ok (ns : List Int) (h : ns.length ≤ 63) : ∃ S : Src, D_u_law_source.run [.scr ns] = .ok (.src S, []) ∧ Sok S := by
  have hw := for_inv (g := gN 2) (b := sCons (sSet 1 (k2 pMod (k1 pInt (k2 pAdd (k2 pAdd (k2 pMul (kX 1) (kC (.int 69069))) (k2 pMul (kX 2) (kC (.int 31)))) (kC (.int 5)))) (kC (.int 2147483629)))) sNil) (ds := ns.map PyData.int)
    (fun _ s => ∃ (m : Int) (t : Option T), s = [some (.scr ns), some (.val (.int m)), t]) (s := [some (.scr ns), some (.val (.int 11)), none]) ⟨11, none, rfl⟩ (fun i x s hx ⟨m, t, hs⟩ => by
      subst hs
      obtain ⟨z, hz, rfl⟩ : ∃ z, z ∈ ns ∧ x = .int z := by
        have := List.mem_of_getElem? hx
        simpa [eq_comm] using this
      have t1 : (-2 ^ 64 < (69069 : Int) ∧ (69069 : Int) < 2 ^ 64) := by decide
      have t2 : (-2 ^ 64 < (31 : Int) ∧ (31 : Int) < 2 ^ 64) := by decide
      have t3 : (0 : Int) < 2147483629 := by decide
      simp only [run_mk, List.map_cons, List.map_nil, List.length_cons, List.length_nil, List.cons_append, List.nil_append, List.replicate_succ, List.replicate_zero, Nat.reduceAdd, Nat.reduceSub, List.getElem?_cons_zero, List.getElem?_cons_succ, List.set_cons_zero, List.set_cons_succ, R.bind_ok, sCons, sNil, sIf, sRet, retL, dropL, sSet, setL, sDrop, sUnp, sPar, lNil, lCons, kF, putL, gN, gT, gAll, kC, kX, kD, kG, kS, scl, k1, k2, L.get, L.take, T.toD, aNil, aCons, kTup, kLst, bVal, bAnd, bOr, bNot, kAnd, kOr, kNot, kIf, boolOf, kCall, cNil, cV, cMv, cPass, lend, back, resL, outs, endOf, srcAt, kSGet, kSLen, kInt, SF.get, SF.put, bl, nm, if_true, if_false, Bool.false_eq_true, Bool.not_true, Bool.not_false, pMul, pAdd, pInt, pMod, t1, t2, t3, or_true, true_or, R.W_ok, true_and]
      exact ⟨_, _, rfl⟩)
  obtain ⟨⟨fl, s1⟩, e1, e2, m, t, e3⟩ := R.W_get hw
  simp only at e2 e3
  subst e2 e3
  obtain ⟨s2, hc, hs2⟩ := comp_pure2 (g := gN 2) (c := none) (f := k1 pAbs (kX 2)) (own := [2]) (s := [some (.scr ns), some (.val (.int m)), t]) (fun x => [some (.scr ns), some (.val (.int m)), some (.val x)]) (fun _ => true)
    absD rfl (ds := ns.map PyData.int) (fun x hx => by
      obtain ⟨z, hz, rfl⟩ : ∃ z, z ∈ ns ∧ x = .int z := by simpa [eq_comm] using hx
      refine ⟨rfl, rfl, rfl, fun _ => ?_⟩
      simp only [run_mk, List.map_cons, List.map_nil, List.length_cons, List.length_nil, List.cons_append, List.nil_append, List.replicate_succ, List.replicate_zero, Nat.reduceAdd, Nat.reduceSub, List.getElem?_cons_zero, List.getElem?_cons_succ, List.set_cons_zero, List.set_cons_succ, R.bind_ok, sCons, sNil, sIf, sRet, retL, dropL, sSet, setL, sDrop, sUnp, sPar, lNil, lCons, kF, putL, gN, gT, gAll, kC, kX, kD, kG, kS, scl, k1, k2, L.get, L.take, T.toD, aNil, aCons, kTup, kLst, bVal, bAnd, bOr, bNot, kAnd, kOr, kNot, kIf, boolOf, kCall, cNil, cV, cMv, cPass, lend, back, resL, outs, endOf, srcAt, kSGet, kSLen, kInt, SF.get, SF.put, bl, nm, if_true, if_false, Bool.false_eq_true, Bool.not_true, Bool.not_false, pAbs, absD])
  have hl : ∀ zs : List Int, (zs.map PyData.int).map absD = (zs.map fun i : Int => if i < 0 then -i else i).map PyData.int := fun zs => by simp [absD]
  have hf : (ns.map PyData.int).filter (fun _ => true) = ns.map PyData.int := by simp
  rw [hf, hl] at hc
  have hi : ∀ zs : List Int, intsOf (zs.map PyData.int).reverse = some zs.reverse := fun zs => by
    rw [← List.map_reverse]
    generalize zs.reverse = ys
    induction ys with
    | nil => rfl
    | cons y ys ih => rw [List.map_cons, intsOf, ih]; rfl
  have hz : szOk (ns.map fun i : Int => if i < 0 then -i else i).length = true := decide_eq_true (by rw [List.length_map]; omega)
  have hs3 : ∃ t2, s2 = [some (.scr ns), some (.val (.int m)), t2] := by
    rcases hs2 with rfl | rfl
    · exact ⟨t, rfl⟩
    · exact ⟨none, rfl⟩
  obtain ⟨t2, rfl⟩ := hs3
  rw [List.length_map] at hz
  simp only [run_mk, List.map_cons, List.map_nil, List.length_cons, List.length_nil, List.cons_append, List.nil_append, List.replicate_succ, List.replicate_zero, Nat.reduceAdd, Nat.reduceSub, List.getElem?_cons_zero, List.getElem?_cons_succ, List.set_cons_zero, List.set_cons_succ, R.bind_ok, sCons, sNil, sIf, sRet, retL, dropL, sSet, setL, sDrop, sUnp, sPar, lNil, lCons, kF, putL, gN, gT, gAll, kC, kX, kD, kG, kS, scl, k1, k2, L.get, L.take, T.toD, aNil, aCons, kTup, kLst, bVal, bAnd, bOr, bNot, kAnd, kOr, kNot, kIf, boolOf, kCall, cNil, cV, cMv, cPass, lend, back, resL, outs, endOf, srcAt, kSGet, kSLen, kInt, SF.get, SF.put, bl, nm, if_true, if_false, Bool.false_eq_true, Bool.not_true, Bool.not_false, D_u_law_source, sFor, iScr, scrAt, e1, kSrc, kComp, hc, List.length_map, hz, pRev, hi]
  refine ⟨_, rfl, ?_⟩
  show List.length (List.reverse _) ≤ 1000
  rw [List.length_reverse, List.length_map]
  omega
end K07

set_option Elab.async false
set_option linter.all false
set_option maxRecDepth 100000
set_option maxHeartbeats 4000000
namespace K07
open PySem KV
theorem q_it_it : pEq (.str "it") (.str "it") = bl true := by kernel_rfl
theorem q_it_box : pEq (.str "it") (.str "box") = bl false := by kernel_rfl
theorem q_it_word : pEq (.str "it") (.str "word") = bl false := by kernel_rfl
theorem q_it_any : pEq (.str "it") (.str "any") = bl false := by kernel_rfl
theorem q_it_new : pEq (.str "it") (.str "new") = bl false := by kernel_rfl
theorem q_it_empty : pEq (.str "it") (.str "empty") = bl false := by kernel_rfl
theorem q_it_same : pEq (.str "it") (.str "same") = bl false := by kernel_rfl
theorem q_it_not : pEq (.str "it") (.str "not") = bl false := by kernel_rfl
theorem q_it_and : pEq (.str "it") (.str "and") = bl false := by kernel_rfl
theorem q_it_or : pEq (.str "it") (.str "or") = bl false := by kernel_rfl
theorem q_it_tell : pEq (.str "it") (.str "tell") = bl false := by kernel_rfl
theorem q_it_put : pEq (.str "it") (.str "put") = bl false := by kernel_rfl
theorem q_it_drop : pEq (.str "it") (.str "drop") = bl false := by kernel_rfl
theorem q_it_go : pEq (.str "it") (.str "go") = bl false := by kernel_rfl
theorem q_it_then : pEq (.str "it") (.str "then") = bl false := by kernel_rfl
theorem q_it_run : pEq (.str "it") (.str "run") = bl false := by kernel_rfl
theorem q_it_program : pEq (.str "it") (.str "program") = bl false := by kernel_rfl
theorem q_it_pipe : pEq (.str "it") (.str "pipe") = bl false := by kernel_rfl
theorem q_it_promise : pEq (.str "it") (.str "promise") = bl false := by kernel_rfl
theorem q_box_it : pEq (.str "box") (.str "it") = bl false := by kernel_rfl
theorem q_box_box : pEq (.str "box") (.str "box") = bl true := by kernel_rfl
theorem q_box_word : pEq (.str "box") (.str "word") = bl false := by kernel_rfl
theorem q_box_any : pEq (.str "box") (.str "any") = bl false := by kernel_rfl
theorem q_box_new : pEq (.str "box") (.str "new") = bl false := by kernel_rfl
theorem q_box_empty : pEq (.str "box") (.str "empty") = bl false := by kernel_rfl
theorem q_box_same : pEq (.str "box") (.str "same") = bl false := by kernel_rfl
theorem q_box_not : pEq (.str "box") (.str "not") = bl false := by kernel_rfl
theorem q_box_and : pEq (.str "box") (.str "and") = bl false := by kernel_rfl
theorem q_box_or : pEq (.str "box") (.str "or") = bl false := by kernel_rfl
theorem q_box_tell : pEq (.str "box") (.str "tell") = bl false := by kernel_rfl
theorem q_box_put : pEq (.str "box") (.str "put") = bl false := by kernel_rfl
theorem q_box_drop : pEq (.str "box") (.str "drop") = bl false := by kernel_rfl
theorem q_box_go : pEq (.str "box") (.str "go") = bl false := by kernel_rfl
theorem q_box_then : pEq (.str "box") (.str "then") = bl false := by kernel_rfl
theorem q_box_run : pEq (.str "box") (.str "run") = bl false := by kernel_rfl
theorem q_box_program : pEq (.str "box") (.str "program") = bl false := by kernel_rfl
theorem q_box_pipe : pEq (.str "box") (.str "pipe") = bl false := by kernel_rfl
theorem q_box_promise : pEq (.str "box") (.str "promise") = bl false := by kernel_rfl
theorem q_word_it : pEq (.str "word") (.str "it") = bl false := by kernel_rfl
theorem q_word_box : pEq (.str "word") (.str "box") = bl false := by kernel_rfl
theorem q_word_word : pEq (.str "word") (.str "word") = bl true := by kernel_rfl
theorem q_word_any : pEq (.str "word") (.str "any") = bl false := by kernel_rfl
theorem q_word_new : pEq (.str "word") (.str "new") = bl false := by kernel_rfl
theorem q_word_empty : pEq (.str "word") (.str "empty") = bl false := by kernel_rfl
theorem q_word_same : pEq (.str "word") (.str "same") = bl false := by kernel_rfl
theorem q_word_not : pEq (.str "word") (.str "not") = bl false := by kernel_rfl
theorem q_word_and : pEq (.str "word") (.str "and") = bl false := by kernel_rfl
theorem q_word_or : pEq (.str "word") (.str "or") = bl false := by kernel_rfl
theorem q_word_tell : pEq (.str "word") (.str "tell") = bl false := by kernel_rfl
theorem q_word_put : pEq (.str "word") (.str "put") = bl false := by kernel_rfl
theorem q_word_drop : pEq (.str "word") (.str "drop") = bl false := by kernel_rfl
theorem q_word_go : pEq (.str "word") (.str "go") = bl false := by kernel_rfl
theorem q_word_then : pEq (.str "word") (.str "then") = bl false := by kernel_rfl
theorem q_word_run : pEq (.str "word") (.str "run") = bl false := by kernel_rfl
theorem q_word_program : pEq (.str "word") (.str "program") = bl false := by kernel_rfl
theorem q_word_pipe : pEq (.str "word") (.str "pipe") = bl false := by kernel_rfl
theorem q_word_promise : pEq (.str "word") (.str "promise") = bl false := by kernel_rfl
theorem q_any_it : pEq (.str "any") (.str "it") = bl false := by kernel_rfl
theorem q_any_box : pEq (.str "any") (.str "box") = bl false := by kernel_rfl
theorem q_any_word : pEq (.str "any") (.str "word") = bl false := by kernel_rfl
theorem q_any_any : pEq (.str "any") (.str "any") = bl true := by kernel_rfl
theorem q_any_new : pEq (.str "any") (.str "new") = bl false := by kernel_rfl
theorem q_any_empty : pEq (.str "any") (.str "empty") = bl false := by kernel_rfl
theorem q_any_same : pEq (.str "any") (.str "same") = bl false := by kernel_rfl
theorem q_any_not : pEq (.str "any") (.str "not") = bl false := by kernel_rfl
theorem q_any_and : pEq (.str "any") (.str "and") = bl false := by kernel_rfl
theorem q_any_or : pEq (.str "any") (.str "or") = bl false := by kernel_rfl
theorem q_any_tell : pEq (.str "any") (.str "tell") = bl false := by kernel_rfl
theorem q_any_put : pEq (.str "any") (.str "put") = bl false := by kernel_rfl
theorem q_any_drop : pEq (.str "any") (.str "drop") = bl false := by kernel_rfl
theorem q_any_go : pEq (.str "any") (.str "go") = bl false := by kernel_rfl
theorem q_any_then : pEq (.str "any") (.str "then") = bl false := by kernel_rfl
theorem q_any_run : pEq (.str "any") (.str "run") = bl false := by kernel_rfl
theorem q_any_program : pEq (.str "any") (.str "program") = bl false := by kernel_rfl
theorem q_any_pipe : pEq (.str "any") (.str "pipe") = bl false := by kernel_rfl
theorem q_any_promise : pEq (.str "any") (.str "promise") = bl false := by kernel_rfl
theorem q_new_it : pEq (.str "new") (.str "it") = bl false := by kernel_rfl
theorem q_new_box : pEq (.str "new") (.str "box") = bl false := by kernel_rfl
theorem q_new_word : pEq (.str "new") (.str "word") = bl false := by kernel_rfl
theorem q_new_any : pEq (.str "new") (.str "any") = bl false := by kernel_rfl
theorem q_new_new : pEq (.str "new") (.str "new") = bl true := by kernel_rfl
theorem q_new_empty : pEq (.str "new") (.str "empty") = bl false := by kernel_rfl
theorem q_new_same : pEq (.str "new") (.str "same") = bl false := by kernel_rfl
theorem q_new_not : pEq (.str "new") (.str "not") = bl false := by kernel_rfl
theorem q_new_and : pEq (.str "new") (.str "and") = bl false := by kernel_rfl
theorem q_new_or : pEq (.str "new") (.str "or") = bl false := by kernel_rfl
theorem q_new_tell : pEq (.str "new") (.str "tell") = bl false := by kernel_rfl
theorem q_new_put : pEq (.str "new") (.str "put") = bl false := by kernel_rfl
theorem q_new_drop : pEq (.str "new") (.str "drop") = bl false := by kernel_rfl
theorem q_new_go : pEq (.str "new") (.str "go") = bl false := by kernel_rfl
theorem q_new_then : pEq (.str "new") (.str "then") = bl false := by kernel_rfl
theorem q_new_run : pEq (.str "new") (.str "run") = bl false := by kernel_rfl
theorem q_new_program : pEq (.str "new") (.str "program") = bl false := by kernel_rfl
theorem q_new_pipe : pEq (.str "new") (.str "pipe") = bl false := by kernel_rfl
theorem q_new_promise : pEq (.str "new") (.str "promise") = bl false := by kernel_rfl
theorem q_empty_it : pEq (.str "empty") (.str "it") = bl false := by kernel_rfl
theorem q_empty_box : pEq (.str "empty") (.str "box") = bl false := by kernel_rfl
theorem q_empty_word : pEq (.str "empty") (.str "word") = bl false := by kernel_rfl
theorem q_empty_any : pEq (.str "empty") (.str "any") = bl false := by kernel_rfl
theorem q_empty_new : pEq (.str "empty") (.str "new") = bl false := by kernel_rfl
theorem q_empty_empty : pEq (.str "empty") (.str "empty") = bl true := by kernel_rfl
theorem q_empty_same : pEq (.str "empty") (.str "same") = bl false := by kernel_rfl
theorem q_empty_not : pEq (.str "empty") (.str "not") = bl false := by kernel_rfl
theorem q_empty_and : pEq (.str "empty") (.str "and") = bl false := by kernel_rfl
theorem q_empty_or : pEq (.str "empty") (.str "or") = bl false := by kernel_rfl
theorem q_empty_tell : pEq (.str "empty") (.str "tell") = bl false := by kernel_rfl
theorem q_empty_put : pEq (.str "empty") (.str "put") = bl false := by kernel_rfl
theorem q_empty_drop : pEq (.str "empty") (.str "drop") = bl false := by kernel_rfl
theorem q_empty_go : pEq (.str "empty") (.str "go") = bl false := by kernel_rfl
theorem q_empty_then : pEq (.str "empty") (.str "then") = bl false := by kernel_rfl
theorem q_empty_run : pEq (.str "empty") (.str "run") = bl false := by kernel_rfl
theorem q_empty_program : pEq (.str "empty") (.str "program") = bl false := by kernel_rfl
theorem q_empty_pipe : pEq (.str "empty") (.str "pipe") = bl false := by kernel_rfl
theorem q_empty_promise : pEq (.str "empty") (.str "promise") = bl false := by kernel_rfl
theorem q_same_it : pEq (.str "same") (.str "it") = bl false := by kernel_rfl
theorem q_same_box : pEq (.str "same") (.str "box") = bl false := by kernel_rfl
theorem q_same_word : pEq (.str "same") (.str "word") = bl false := by kernel_rfl
theorem q_same_any : pEq (.str "same") (.str "any") = bl false := by kernel_rfl
theorem q_same_new : pEq (.str "same") (.str "new") = bl false := by kernel_rfl
theorem q_same_empty : pEq (.str "same") (.str "empty") = bl false := by kernel_rfl
theorem q_same_same : pEq (.str "same") (.str "same") = bl true := by kernel_rfl
theorem q_same_not : pEq (.str "same") (.str "not") = bl false := by kernel_rfl
theorem q_same_and : pEq (.str "same") (.str "and") = bl false := by kernel_rfl
theorem q_same_or : pEq (.str "same") (.str "or") = bl false := by kernel_rfl
theorem q_same_tell : pEq (.str "same") (.str "tell") = bl false := by kernel_rfl
theorem q_same_put : pEq (.str "same") (.str "put") = bl false := by kernel_rfl
theorem q_same_drop : pEq (.str "same") (.str "drop") = bl false := by kernel_rfl
theorem q_same_go : pEq (.str "same") (.str "go") = bl false := by kernel_rfl
theorem q_same_then : pEq (.str "same") (.str "then") = bl false := by kernel_rfl
theorem q_same_run : pEq (.str "same") (.str "run") = bl false := by kernel_rfl
theorem q_same_program : pEq (.str "same") (.str "program") = bl false := by kernel_rfl
theorem q_same_pipe : pEq (.str "same") (.str "pipe") = bl false := by kernel_rfl
theorem q_same_promise : pEq (.str "same") (.str "promise") = bl false := by kernel_rfl
theorem q_not_it : pEq (.str "not") (.str "it") = bl false := by kernel_rfl
theorem q_not_box : pEq (.str "not") (.str "box") = bl false := by kernel_rfl
theorem q_not_word : pEq (.str "not") (.str "word") = bl false := by kernel_rfl
theorem q_not_any : pEq (.str "not") (.str "any") = bl false := by kernel_rfl
theorem q_not_new : pEq (.str "not") (.str "new") = bl false := by kernel_rfl
theorem q_not_empty : pEq (.str "not") (.str "empty") = bl false := by kernel_rfl
theorem q_not_same : pEq (.str "not") (.str "same") = bl false := by kernel_rfl
theorem q_not_not : pEq (.str "not") (.str "not") = bl true := by kernel_rfl
theorem q_not_and : pEq (.str "not") (.str "and") = bl false := by kernel_rfl
theorem q_not_or : pEq (.str "not") (.str "or") = bl false := by kernel_rfl
theorem q_not_tell : pEq (.str "not") (.str "tell") = bl false := by kernel_rfl
theorem q_not_put : pEq (.str "not") (.str "put") = bl false := by kernel_rfl
theorem q_not_drop : pEq (.str "not") (.str "drop") = bl false := by kernel_rfl
theorem q_not_go : pEq (.str "not") (.str "go") = bl false := by kernel_rfl
theorem q_not_then : pEq (.str "not") (.str "then") = bl false := by kernel_rfl
theorem q_not_run : pEq (.str "not") (.str "run") = bl false := by kernel_rfl
theorem q_not_program : pEq (.str "not") (.str "program") = bl false := by kernel_rfl
theorem q_not_pipe : pEq (.str "not") (.str "pipe") = bl false := by kernel_rfl
theorem q_not_promise : pEq (.str "not") (.str "promise") = bl false := by kernel_rfl
theorem q_and_it : pEq (.str "and") (.str "it") = bl false := by kernel_rfl
theorem q_and_box : pEq (.str "and") (.str "box") = bl false := by kernel_rfl
theorem q_and_word : pEq (.str "and") (.str "word") = bl false := by kernel_rfl
theorem q_and_any : pEq (.str "and") (.str "any") = bl false := by kernel_rfl
theorem q_and_new : pEq (.str "and") (.str "new") = bl false := by kernel_rfl
theorem q_and_empty : pEq (.str "and") (.str "empty") = bl false := by kernel_rfl
theorem q_and_same : pEq (.str "and") (.str "same") = bl false := by kernel_rfl
theorem q_and_not : pEq (.str "and") (.str "not") = bl false := by kernel_rfl
theorem q_and_and : pEq (.str "and") (.str "and") = bl true := by kernel_rfl
theorem q_and_or : pEq (.str "and") (.str "or") = bl false := by kernel_rfl
theorem q_and_tell : pEq (.str "and") (.str "tell") = bl false := by kernel_rfl
theorem q_and_put : pEq (.str "and") (.str "put") = bl false := by kernel_rfl
theorem q_and_drop : pEq (.str "and") (.str "drop") = bl false := by kernel_rfl
theorem q_and_go : pEq (.str "and") (.str "go") = bl false := by kernel_rfl
theorem q_and_then : pEq (.str "and") (.str "then") = bl false := by kernel_rfl
theorem q_and_run : pEq (.str "and") (.str "run") = bl false := by kernel_rfl
theorem q_and_program : pEq (.str "and") (.str "program") = bl false := by kernel_rfl
theorem q_and_pipe : pEq (.str "and") (.str "pipe") = bl false := by kernel_rfl
theorem q_and_promise : pEq (.str "and") (.str "promise") = bl false := by kernel_rfl
theorem q_or_it : pEq (.str "or") (.str "it") = bl false := by kernel_rfl
theorem q_or_box : pEq (.str "or") (.str "box") = bl false := by kernel_rfl
theorem q_or_word : pEq (.str "or") (.str "word") = bl false := by kernel_rfl
theorem q_or_any : pEq (.str "or") (.str "any") = bl false := by kernel_rfl
theorem q_or_new : pEq (.str "or") (.str "new") = bl false := by kernel_rfl
theorem q_or_empty : pEq (.str "or") (.str "empty") = bl false := by kernel_rfl
theorem q_or_same : pEq (.str "or") (.str "same") = bl false := by kernel_rfl
theorem q_or_not : pEq (.str "or") (.str "not") = bl false := by kernel_rfl
theorem q_or_and : pEq (.str "or") (.str "and") = bl false := by kernel_rfl
theorem q_or_or : pEq (.str "or") (.str "or") = bl true := by kernel_rfl
theorem q_or_tell : pEq (.str "or") (.str "tell") = bl false := by kernel_rfl
theorem q_or_put : pEq (.str "or") (.str "put") = bl false := by kernel_rfl
theorem q_or_drop : pEq (.str "or") (.str "drop") = bl false := by kernel_rfl
theorem q_or_go : pEq (.str "or") (.str "go") = bl false := by kernel_rfl
theorem q_or_then : pEq (.str "or") (.str "then") = bl false := by kernel_rfl
theorem q_or_run : pEq (.str "or") (.str "run") = bl false := by kernel_rfl
theorem q_or_program : pEq (.str "or") (.str "program") = bl false := by kernel_rfl
theorem q_or_pipe : pEq (.str "or") (.str "pipe") = bl false := by kernel_rfl
theorem q_or_promise : pEq (.str "or") (.str "promise") = bl false := by kernel_rfl
theorem q_tell_it : pEq (.str "tell") (.str "it") = bl false := by kernel_rfl
theorem q_tell_box : pEq (.str "tell") (.str "box") = bl false := by kernel_rfl
theorem q_tell_word : pEq (.str "tell") (.str "word") = bl false := by kernel_rfl
theorem q_tell_any : pEq (.str "tell") (.str "any") = bl false := by kernel_rfl
theorem q_tell_new : pEq (.str "tell") (.str "new") = bl false := by kernel_rfl
theorem q_tell_empty : pEq (.str "tell") (.str "empty") = bl false := by kernel_rfl
theorem q_tell_same : pEq (.str "tell") (.str "same") = bl false := by kernel_rfl
theorem q_tell_not : pEq (.str "tell") (.str "not") = bl false := by kernel_rfl
theorem q_tell_and : pEq (.str "tell") (.str "and") = bl false := by kernel_rfl
theorem q_tell_or : pEq (.str "tell") (.str "or") = bl false := by kernel_rfl
theorem q_tell_tell : pEq (.str "tell") (.str "tell") = bl true := by kernel_rfl
theorem q_tell_put : pEq (.str "tell") (.str "put") = bl false := by kernel_rfl
theorem q_tell_drop : pEq (.str "tell") (.str "drop") = bl false := by kernel_rfl
theorem q_tell_go : pEq (.str "tell") (.str "go") = bl false := by kernel_rfl
theorem q_tell_then : pEq (.str "tell") (.str "then") = bl false := by kernel_rfl
theorem q_tell_run : pEq (.str "tell") (.str "run") = bl false := by kernel_rfl
theorem q_tell_program : pEq (.str "tell") (.str "program") = bl false := by kernel_rfl
theorem q_tell_pipe : pEq (.str "tell") (.str "pipe") = bl false := by kernel_rfl
theorem q_tell_promise : pEq (.str "tell") (.str "promise") = bl false := by kernel_rfl
theorem q_put_it : pEq (.str "put") (.str "it") = bl false := by kernel_rfl
theorem q_put_box : pEq (.str "put") (.str "box") = bl false := by kernel_rfl
theorem q_put_word : pEq (.str "put") (.str "word") = bl false := by kernel_rfl
theorem q_put_any : pEq (.str "put") (.str "any") = bl false := by kernel_rfl
theorem q_put_new : pEq (.str "put") (.str "new") = bl false := by kernel_rfl
theorem q_put_empty : pEq (.str "put") (.str "empty") = bl false := by kernel_rfl
theorem q_put_same : pEq (.str "put") (.str "same") = bl false := by kernel_rfl
theorem q_put_not : pEq (.str "put") (.str "not") = bl false := by kernel_rfl
theorem q_put_and : pEq (.str "put") (.str "and") = bl false := by kernel_rfl
theorem q_put_or : pEq (.str "put") (.str "or") = bl false := by kernel_rfl
theorem q_put_tell : pEq (.str "put") (.str "tell") = bl false := by kernel_rfl
theorem q_put_put : pEq (.str "put") (.str "put") = bl true := by kernel_rfl
theorem q_put_drop : pEq (.str "put") (.str "drop") = bl false := by kernel_rfl
theorem q_put_go : pEq (.str "put") (.str "go") = bl false := by kernel_rfl
theorem q_put_then : pEq (.str "put") (.str "then") = bl false := by kernel_rfl
theorem q_put_run : pEq (.str "put") (.str "run") = bl false := by kernel_rfl
theorem q_put_program : pEq (.str "put") (.str "program") = bl false := by kernel_rfl
theorem q_put_pipe : pEq (.str "put") (.str "pipe") = bl false := by kernel_rfl
theorem q_put_promise : pEq (.str "put") (.str "promise") = bl false := by kernel_rfl
theorem q_drop_it : pEq (.str "drop") (.str "it") = bl false := by kernel_rfl
theorem q_drop_box : pEq (.str "drop") (.str "box") = bl false := by kernel_rfl
theorem q_drop_word : pEq (.str "drop") (.str "word") = bl false := by kernel_rfl
theorem q_drop_any : pEq (.str "drop") (.str "any") = bl false := by kernel_rfl
theorem q_drop_new : pEq (.str "drop") (.str "new") = bl false := by kernel_rfl
theorem q_drop_empty : pEq (.str "drop") (.str "empty") = bl false := by kernel_rfl
theorem q_drop_same : pEq (.str "drop") (.str "same") = bl false := by kernel_rfl
theorem q_drop_not : pEq (.str "drop") (.str "not") = bl false := by kernel_rfl
theorem q_drop_and : pEq (.str "drop") (.str "and") = bl false := by kernel_rfl
theorem q_drop_or : pEq (.str "drop") (.str "or") = bl false := by kernel_rfl
theorem q_drop_tell : pEq (.str "drop") (.str "tell") = bl false := by kernel_rfl
theorem q_drop_put : pEq (.str "drop") (.str "put") = bl false := by kernel_rfl
theorem q_drop_drop : pEq (.str "drop") (.str "drop") = bl true := by kernel_rfl
theorem q_drop_go : pEq (.str "drop") (.str "go") = bl false := by kernel_rfl
theorem q_drop_then : pEq (.str "drop") (.str "then") = bl false := by kernel_rfl
theorem q_drop_run : pEq (.str "drop") (.str "run") = bl false := by kernel_rfl
theorem q_drop_program : pEq (.str "drop") (.str "program") = bl false := by kernel_rfl
theorem q_drop_pipe : pEq (.str "drop") (.str "pipe") = bl false := by kernel_rfl
theorem q_drop_promise : pEq (.str "drop") (.str "promise") = bl false := by kernel_rfl
theorem q_go_it : pEq (.str "go") (.str "it") = bl false := by kernel_rfl
theorem q_go_box : pEq (.str "go") (.str "box") = bl false := by kernel_rfl
theorem q_go_word : pEq (.str "go") (.str "word") = bl false := by kernel_rfl
theorem q_go_any : pEq (.str "go") (.str "any") = bl false := by kernel_rfl
theorem q_go_new : pEq (.str "go") (.str "new") = bl false := by kernel_rfl
theorem q_go_empty : pEq (.str "go") (.str "empty") = bl false := by kernel_rfl
theorem q_go_same : pEq (.str "go") (.str "same") = bl false := by kernel_rfl
theorem q_go_not : pEq (.str "go") (.str "not") = bl false := by kernel_rfl
theorem q_go_and : pEq (.str "go") (.str "and") = bl false := by kernel_rfl
theorem q_go_or : pEq (.str "go") (.str "or") = bl false := by kernel_rfl
theorem q_go_tell : pEq (.str "go") (.str "tell") = bl false := by kernel_rfl
theorem q_go_put : pEq (.str "go") (.str "put") = bl false := by kernel_rfl
theorem q_go_drop : pEq (.str "go") (.str "drop") = bl false := by kernel_rfl
theorem q_go_go : pEq (.str "go") (.str "go") = bl true := by kernel_rfl
theorem q_go_then : pEq (.str "go") (.str "then") = bl false := by kernel_rfl
theorem q_go_run : pEq (.str "go") (.str "run") = bl false := by kernel_rfl
theorem q_go_program : pEq (.str "go") (.str "program") = bl false := by kernel_rfl
theorem q_go_pipe : pEq (.str "go") (.str "pipe") = bl false := by kernel_rfl
theorem q_go_promise : pEq (.str "go") (.str "promise") = bl false := by kernel_rfl
theorem q_then_it : pEq (.str "then") (.str "it") = bl false := by kernel_rfl
theorem q_then_box : pEq (.str "then") (.str "box") = bl false := by kernel_rfl
theorem q_then_word : pEq (.str "then") (.str "word") = bl false := by kernel_rfl
theorem q_then_any : pEq (.str "then") (.str "any") = bl false := by kernel_rfl
theorem q_then_new : pEq (.str "then") (.str "new") = bl false := by kernel_rfl
theorem q_then_empty : pEq (.str "then") (.str "empty") = bl false := by kernel_rfl
theorem q_then_same : pEq (.str "then") (.str "same") = bl false := by kernel_rfl
theorem q_then_not : pEq (.str "then") (.str "not") = bl false := by kernel_rfl
theorem q_then_and : pEq (.str "then") (.str "and") = bl false := by kernel_rfl
theorem q_then_or : pEq (.str "then") (.str "or") = bl false := by kernel_rfl
theorem q_then_tell : pEq (.str "then") (.str "tell") = bl false := by kernel_rfl
theorem q_then_put : pEq (.str "then") (.str "put") = bl false := by kernel_rfl
theorem q_then_drop : pEq (.str "then") (.str "drop") = bl false := by kernel_rfl
theorem q_then_go : pEq (.str "then") (.str "go") = bl false := by kernel_rfl
theorem q_then_then : pEq (.str "then") (.str "then") = bl true := by kernel_rfl
theorem q_then_run : pEq (.str "then") (.str "run") = bl false := by kernel_rfl
theorem q_then_program : pEq (.str "then") (.str "program") = bl false := by kernel_rfl
theorem q_then_pipe : pEq (.str "then") (.str "pipe") = bl false := by kernel_rfl
theorem q_then_promise : pEq (.str "then") (.str "promise") = bl false := by kernel_rfl
theorem q_run_it : pEq (.str "run") (.str "it") = bl false := by kernel_rfl
theorem q_run_box : pEq (.str "run") (.str "box") = bl false := by kernel_rfl
theorem q_run_word : pEq (.str "run") (.str "word") = bl false := by kernel_rfl
theorem q_run_any : pEq (.str "run") (.str "any") = bl false := by kernel_rfl
theorem q_run_new : pEq (.str "run") (.str "new") = bl false := by kernel_rfl
theorem q_run_empty : pEq (.str "run") (.str "empty") = bl false := by kernel_rfl
theorem q_run_same : pEq (.str "run") (.str "same") = bl false := by kernel_rfl
theorem q_run_not : pEq (.str "run") (.str "not") = bl false := by kernel_rfl
theorem q_run_and : pEq (.str "run") (.str "and") = bl false := by kernel_rfl
theorem q_run_or : pEq (.str "run") (.str "or") = bl false := by kernel_rfl
theorem q_run_tell : pEq (.str "run") (.str "tell") = bl false := by kernel_rfl
theorem q_run_put : pEq (.str "run") (.str "put") = bl false := by kernel_rfl
theorem q_run_drop : pEq (.str "run") (.str "drop") = bl false := by kernel_rfl
theorem q_run_go : pEq (.str "run") (.str "go") = bl false := by kernel_rfl
theorem q_run_then : pEq (.str "run") (.str "then") = bl false := by kernel_rfl
theorem q_run_run : pEq (.str "run") (.str "run") = bl true := by kernel_rfl
theorem q_run_program : pEq (.str "run") (.str "program") = bl false := by kernel_rfl
theorem q_run_pipe : pEq (.str "run") (.str "pipe") = bl false := by kernel_rfl
theorem q_run_promise : pEq (.str "run") (.str "promise") = bl false := by kernel_rfl
theorem q_program_it : pEq (.str "program") (.str "it") = bl false := by kernel_rfl
theorem q_program_box : pEq (.str "program") (.str "box") = bl false := by kernel_rfl
theorem q_program_word : pEq (.str "program") (.str "word") = bl false := by kernel_rfl
theorem q_program_any : pEq (.str "program") (.str "any") = bl false := by kernel_rfl
theorem q_program_new : pEq (.str "program") (.str "new") = bl false := by kernel_rfl
theorem q_program_empty : pEq (.str "program") (.str "empty") = bl false := by kernel_rfl
theorem q_program_same : pEq (.str "program") (.str "same") = bl false := by kernel_rfl
theorem q_program_not : pEq (.str "program") (.str "not") = bl false := by kernel_rfl
theorem q_program_and : pEq (.str "program") (.str "and") = bl false := by kernel_rfl
theorem q_program_or : pEq (.str "program") (.str "or") = bl false := by kernel_rfl
theorem q_program_tell : pEq (.str "program") (.str "tell") = bl false := by kernel_rfl
theorem q_program_put : pEq (.str "program") (.str "put") = bl false := by kernel_rfl
theorem q_program_drop : pEq (.str "program") (.str "drop") = bl false := by kernel_rfl
theorem q_program_go : pEq (.str "program") (.str "go") = bl false := by kernel_rfl
theorem q_program_then : pEq (.str "program") (.str "then") = bl false := by kernel_rfl
theorem q_program_run : pEq (.str "program") (.str "run") = bl false := by kernel_rfl
theorem q_program_program : pEq (.str "program") (.str "program") = bl true := by kernel_rfl
theorem q_program_pipe : pEq (.str "program") (.str "pipe") = bl false := by kernel_rfl
theorem q_program_promise : pEq (.str "program") (.str "promise") = bl false := by kernel_rfl
theorem q_pipe_it : pEq (.str "pipe") (.str "it") = bl false := by kernel_rfl
theorem q_pipe_box : pEq (.str "pipe") (.str "box") = bl false := by kernel_rfl
theorem q_pipe_word : pEq (.str "pipe") (.str "word") = bl false := by kernel_rfl
theorem q_pipe_any : pEq (.str "pipe") (.str "any") = bl false := by kernel_rfl
theorem q_pipe_new : pEq (.str "pipe") (.str "new") = bl false := by kernel_rfl
theorem q_pipe_empty : pEq (.str "pipe") (.str "empty") = bl false := by kernel_rfl
theorem q_pipe_same : pEq (.str "pipe") (.str "same") = bl false := by kernel_rfl
theorem q_pipe_not : pEq (.str "pipe") (.str "not") = bl false := by kernel_rfl
theorem q_pipe_and : pEq (.str "pipe") (.str "and") = bl false := by kernel_rfl
theorem q_pipe_or : pEq (.str "pipe") (.str "or") = bl false := by kernel_rfl
theorem q_pipe_tell : pEq (.str "pipe") (.str "tell") = bl false := by kernel_rfl
theorem q_pipe_put : pEq (.str "pipe") (.str "put") = bl false := by kernel_rfl
theorem q_pipe_drop : pEq (.str "pipe") (.str "drop") = bl false := by kernel_rfl
theorem q_pipe_go : pEq (.str "pipe") (.str "go") = bl false := by kernel_rfl
theorem q_pipe_then : pEq (.str "pipe") (.str "then") = bl false := by kernel_rfl
theorem q_pipe_run : pEq (.str "pipe") (.str "run") = bl false := by kernel_rfl
theorem q_pipe_program : pEq (.str "pipe") (.str "program") = bl false := by kernel_rfl
theorem q_pipe_pipe : pEq (.str "pipe") (.str "pipe") = bl true := by kernel_rfl
theorem q_pipe_promise : pEq (.str "pipe") (.str "promise") = bl false := by kernel_rfl
theorem q_promise_it : pEq (.str "promise") (.str "it") = bl false := by kernel_rfl
theorem q_promise_box : pEq (.str "promise") (.str "box") = bl false := by kernel_rfl
theorem q_promise_word : pEq (.str "promise") (.str "word") = bl false := by kernel_rfl
theorem q_promise_any : pEq (.str "promise") (.str "any") = bl false := by kernel_rfl
theorem q_promise_new : pEq (.str "promise") (.str "new") = bl false := by kernel_rfl
theorem q_promise_empty : pEq (.str "promise") (.str "empty") = bl false := by kernel_rfl
theorem q_promise_same : pEq (.str "promise") (.str "same") = bl false := by kernel_rfl
theorem q_promise_not : pEq (.str "promise") (.str "not") = bl false := by kernel_rfl
theorem q_promise_and : pEq (.str "promise") (.str "and") = bl false := by kernel_rfl
theorem q_promise_or : pEq (.str "promise") (.str "or") = bl false := by kernel_rfl
theorem q_promise_tell : pEq (.str "promise") (.str "tell") = bl false := by kernel_rfl
theorem q_promise_put : pEq (.str "promise") (.str "put") = bl false := by kernel_rfl
theorem q_promise_drop : pEq (.str "promise") (.str "drop") = bl false := by kernel_rfl
theorem q_promise_go : pEq (.str "promise") (.str "go") = bl false := by kernel_rfl
theorem q_promise_then : pEq (.str "promise") (.str "then") = bl false := by kernel_rfl
theorem q_promise_run : pEq (.str "promise") (.str "run") = bl false := by kernel_rfl
theorem q_promise_program : pEq (.str "promise") (.str "program") = bl false := by kernel_rfl
theorem q_promise_pipe : pEq (.str "promise") (.str "pipe") = bl false := by kernel_rfl
theorem q_promise_promise : pEq (.str "promise") (.str "promise") = bl true := by kernel_rfl

/-! ### programs, as data of their own -/
inductive Th where
  | it
  | box (b : Str)
  | word (x : Str)
inductive Cd where
  | any
  | new
  | it (t : Th)
  | empty (b : Str)
  | same (b : Str) (t : Th)
  | not (c : Cd)
  | and (c d : Cd)
  | or (c d : Cd)
inductive Ac where
  | tell (t : Th)
  | put (t : Th) (b : Str)
  | drop (b : Str)
  | go (m : Str)
structure Md where
  name : Str
  yes : Bool
  rules : List (Cd × List Ac)
structure Pg where
  name : Str
  boxes : List Str
  modes : List Md
def Th.enc : Th → D
  | .it => .tuple [.str "it"]
  | .box b => .tuple [.str "box", .str b]
  | .word x => .tuple [.str "word", .str x]
def Cd.enc : Cd → D
  | .any => .tuple [.str "any"]
  | .new => .tuple [.str "new"]
  | .it t => .tuple [.str "it", t.enc]
  | .empty b => .tuple [.str "empty", .str b]
  | .same b t => .tuple [.str "same", .str b, t.enc]
  | .not c => .tuple [.str "not", c.enc]
  | .and c d => .tuple [.str "and", c.enc, d.enc]
  | .or c d => .tuple [.str "or", c.enc, d.enc]
def Ac.enc : Ac → D
  | .tell t => .tuple [.str "tell", t.enc]
  | .put t b => .tuple [.str "put", t.enc, .str b]
  | .drop b => .tuple [.str "drop", .str b]
  | .go m => .tuple [.str "go", .str m]
def strsE (bs : List Str) : D := .tuple (bs.map .str)
def ruleE (r : Cd × List Ac) : D := .tuple [r.1.enc, .tuple (r.2.map Ac.enc)]
def Md.enc (m : Md) : D := .tuple [.str m.name, .bool m.yes, .tuple (m.rules.map ruleE)]
def Pg.enc (p : Pg) : D := .tuple [.str "program", .str p.name, strsE p.boxes, .tuple (p.modes.map Md.enc)]
def optE : Option Str → D
  | none => .none
  | some x => .str x
def valsE (vs : List (Option Str)) : D := .tuple (vs.map optE)
def stE (s : Str × List (Option Str)) : D := .tuple [.str s.1, valsE s.2]

/-- a text as it occurs here -/
def Sk (x : Str) : Prop := PyData.strOk x = true ∧ x.cps.size ≤ 20
/-- what a box holds -/
def look : List Str → List (Option Str) → Str → Option Str
  | b :: bs, v :: vs, x => if b = x then v else look bs vs x
  | _, _, _ => none
def worth (bs : List Str) (vs : List (Option Str)) : Th → Str → Option Str
  | .it, v => some v
  | .box b, _ => look bs vs b
  | .word x, _ => some x
def holds (ws bs : List Str) (vs : List (Option Str)) (v : Str) : Cd → Bool
  | .any => true
  | .new => !decide (v ∈ ws) && !decide (some v ∈ vs)
  | .it t => decide (worth bs vs t v = some v)
  | .empty b => (look bs vs b).isNone
  | .same b t => (look bs vs b).isSome && decide (look bs vs b = worth bs vs t v)
  | .not c => !holds ws bs vs v c
  | .and c d => holds ws bs vs v c && holds ws bs vs v d
  | .or c d => holds ws bs vs v c || holds ws bs vs v d
def WT (bs : List Str) : Th → Prop
  | .it => True
  | .box b => b ∈ bs
  | .word x => Sk x
def WC (bs : List Str) : Cd → Prop
  | .any => True
  | .new => True
  | .it t => WT bs t
  | .empty b => b ∈ bs
  | .same b t => b ∈ bs ∧ WT bs t
  | .not c => WC bs c
  | .and c d => WC bs c ∧ WC bs d
  | .or c d => WC bs c ∧ WC bs d
/-- the values of the boxes -/
structure WV (bs : List Str) (vs : List (Option Str)) : Prop where
  len : vs.length = bs.length
  bok : ∀ b ∈ bs, Sk b
  ok : ∀ x, some x ∈ vs → Sk x
theorem eqOk_opt {o : Option Str} (h : ∀ x, o = some x → Sk x) : eqOk (optE o) = true := by
  cases o with
  | none => rfl
  | some x => exact (fit_str (n := 0) (m := 20) (h x rfl).1 (h x rfl).2).eqOk (by decide)
theorem fit_strs {bs : List Str} (h : ∀ b ∈ bs, Sk b) : ∀ d ∈ bs.map PyData.str, fit 0 20 d := fun d hd => by
  obtain ⟨b, hb, rfl⟩ := List.mem_map.mp hd
  exact fit_str (h b hb).1 (h b hb).2
theorem fit_opts {vs : List (Option Str)} (h : ∀ x, some x ∈ vs → Sk x) : ∀ d ∈ vs.map optE, fit 0 20 d := fun d hd => by
  obtain ⟨o, ho, rfl⟩ := List.mem_map.mp hd
  cases o with
  | none => exact fit_none
  | some x => exact fit_str (h x ho).1 (h x ho).2
theorem eqOk_strs {bs : List Str} (h : ∀ b ∈ bs, Sk b) : eqOk (strsE bs) = true := (fit_tup (fit_strs h) (Nat.le_refl _)).eqOk (by decide)
theorem eqOk_vals {vs : List (Option Str)} (h : ∀ x, some x ∈ vs → Sk x) : eqOk (valsE vs) = true := (fit_tup (fit_opts h) (Nat.le_refl _)).eqOk (by decide)
theorem eqOk_sk {x : Str} (h : Sk x) : eqOk (.str x) = true := (fit_str (n := 0) (m := 20) h.1 h.2).eqOk (by decide)
theorem at_box : ∀ {bs : List Str} {vs : List (Option Str)} {b : Str}, b ∈ bs → vs.length = bs.length → ∃ j : Nat, firstAt (.str b) (bs.map PyData.str) = some j ∧ (vs.map optE)[j]? = some (optE (look bs vs b)) ∧ j < bs.length
  | [], _, b, h, _ => nomatch h
  | c :: bs, [], b, _, h => by simp at h
  | c :: bs, v :: vs, b, h, hl => by
    by_cases e : c = b
    · subst e
      exact ⟨0, by simp [firstAt, eqv_str_self], by simp [look], by simp⟩
    · have hb : b ∈ bs := by
        rcases List.mem_cons.mp h with z | z
        · exact (e z.symm).elim
        · exact z
      obtain ⟨j, h1, h2, h3⟩ := at_box (bs := bs) (vs := vs) hb (by simpa using hl)
      exact ⟨j + 1, by simp [firstAt, eqv_str, e, h1], by simpa [look, e] using h2, by simp [h3]⟩
theorem index_box {bs : List Str} {vs : List (Option Str)} {b : Str} (w : WV bs vs) (h : b ∈ bs) : ∃ j : Nat, pIndex (strsE bs) (.str b) = nm j ∧ pIx (valsE vs) (.int j) = .ok (.d (optE (look bs vs b))) ∧ j < bs.length := by
  obtain ⟨j, h1, h2, h3⟩ := at_box h w.len
  refine ⟨j, ?_, ?_, h3⟩
  · unfold strsE pIndex
    simp only [eqOk_sk (w.bok b h), show eqOk (.tuple (bs.map PyData.str)) = true from eqOk_strs w.bok, Bool.and_self, if_true, h1]
  · have hj := ixD_nat (n := (vs.map optE).length) (r := j) (by rw [List.length_map, w.len]; exact h3)
    show optD ((ixD (vs.map optE).length (j : Int)).bind fun j => (vs.map optE)[j]?) = _
    rw [hj]
    simp only [Option.bind_some, h2, optD]
theorem ix0 {a : D} {r : List D} : pIx (.tuple (a :: r)) (.int 0) = .ok (.d a) := by
  simp only [pIx, ixD_nat (n := (a :: r).length) (r := 0) (by simp), Option.bind_some, List.getElem?_cons_zero, optD, show ((0 : Nat) : Int) = 0 from rfl]
  have := ixD_nat (n := (a :: r).length) (r := 0) (by simp)
  simp only [Int.natCast_zero] at this ⊢
  rw [show ixD (a :: r).length 0 = some 0 from this]
  rfl
theorem ix1 {a b : D} {r : List D} : pIx (.tuple (a :: b :: r)) (.int 1) = .ok (.d b) := by
  have := ixD_nat (n := (a :: b :: r).length) (r := 1) (by simp)
  simp only [pIx]
  rw [show ixD (a :: b :: r).length 1 = some 1 from this]
  rfl
theorem ix2 {a b c : D} {r : List D} : pIx (.tuple (a :: b :: c :: r)) (.int 2) = .ok (.d c) := by
  have := ixD_nat (n := (a :: b :: c :: r).length) (r := 2) (by simp)
  simp only [pIx]
  rw [show ixD (a :: b :: c :: r).length 2 = some 2 from this]
  rfl
theorem ix3 {a b c d : D} {r : List D} : pIx (.tuple (a :: b :: c :: d :: r)) (.int 3) = .ok (.d d) := by
  have := ixD_nat (n := (a :: b :: c :: d :: r).length) (r := 3) (by simp)
  simp only [pIx]
  rw [show ixD (a :: b :: c :: d :: r).length 3 = some 3 from this]
  rfl
theorem thing_ok {bs : List Str} {vs : List (Option Str)} {t : Th} {v : Str} (w : WV bs vs) (wt : WT bs t) : D_thing_value.run [.val (strsE bs), .val (valsE vs), .val t.enc, .val (.str v)] = .ok (.val (optE (worth bs vs t v)), []) := by
  cases t with
  | it => simp only [run_mk, List.map_cons, List.map_nil, List.length_cons, List.length_nil, List.cons_append, List.nil_append, List.replicate_succ, List.replicate_zero, Nat.reduceAdd, Nat.reduceSub, List.getElem?_cons_zero, List.getElem?_cons_succ, List.set_cons_zero, List.set_cons_succ, R.bind_ok, sCons, sNil, sIf, sRet, retL, dropL, sSet, setL, sDrop, sUnp, sPar, lNil, lCons, kF, putL, gN, gT, gAll, kC, kX, kD, kG, kS, scl, k1, k2, L.get, L.take, T.toD, aNil, aCons, kTup, kLst, bVal, bAnd, bOr, bNot, kAnd, kOr, kNot, kIf, boolOf, kCall, cNil, cV, cMv, cPass, lend, back, resL, outs, endOf, srcAt, kSGet, kSLen, kInt, SF.get, SF.put, bl, nm, if_true, if_false, Bool.false_eq_true, Bool.not_true, Bool.not_false, D_thing_value, Th.enc, ix0, ix1, q_it_it]; rfl
  | word x => simp only [run_mk, List.map_cons, List.map_nil, List.length_cons, List.length_nil, List.cons_append, List.nil_append, List.replicate_succ, List.replicate_zero, Nat.reduceAdd, Nat.reduceSub, List.getElem?_cons_zero, List.getElem?_cons_succ, List.set_cons_zero, List.set_cons_succ, R.bind_ok, sCons, sNil, sIf, sRet, retL, dropL, sSet, setL, sDrop, sUnp, sPar, lNil, lCons, kF, putL, gN, gT, gAll, kC, kX, kD, kG, kS, scl, k1, k2, L.get, L.take, T.toD, aNil, aCons, kTup, kLst, bVal, bAnd, bOr, bNot, kAnd, kOr, kNot, kIf, boolOf, kCall, cNil, cV, cMv, cPass, lend, back, resL, outs, endOf, srcAt, kSGet, kSLen, kInt, SF.get, SF.put, bl, nm, if_true, if_false, Bool.false_eq_true, Bool.not_true, Bool.not_false, D_thing_value, Th.enc, ix0, ix1, q_word_it, q_word_box]; rfl
  | box b =>
    obtain ⟨j, h1, h2, h3⟩ := index_box w wt
    simp only [run_mk, List.map_cons, List.map_nil, List.length_cons, List.length_nil, List.cons_append, List.nil_append, List.replicate_succ, List.replicate_zero, Nat.reduceAdd, Nat.reduceSub, List.getElem?_cons_zero, List.getElem?_cons_succ, List.set_cons_zero, List.set_cons_succ, R.bind_ok, sCons, sNil, sIf, sRet, retL, dropL, sSet, setL, sDrop, sUnp, sPar, lNil, lCons, kF, putL, gN, gT, gAll, kC, kX, kD, kG, kS, scl, k1, k2, L.get, L.take, T.toD, aNil, aCons, kTup, kLst, bVal, bAnd, bOr, bNot, kAnd, kOr, kNot, kIf, boolOf, kCall, cNil, cV, cMv, cPass, lend, back, resL, outs, endOf, srcAt, kSGet, kSLen, kInt, SF.get, SF.put, bl, nm, if_true, if_false, Bool.false_eq_true, Bool.not_true, Bool.not_false, D_thing_value, Th.enc, ix0, ix1, q_box_it, q_box_box, kIndex, likeSeq, h1, h2, strsE] at h1 h2 ⊢
    rfl
/-! ### conditions -/
theorem eqv_opt {o o' : Option Str} : PyData.eqv (optE o) (optE o') = decide (o = o') := by
  cases o with
  | none => cases o' <;> simp [optE, PyData.eqv]
  | some x => cases o' with
    | none => simp [optE, PyData.eqv]
    | some y => simp only [optE, eqv_str, Option.some.injEq]
theorem pEq_opt {o o' : Option Str} (h : ∀ x, o = some x → Sk x) (h' : ∀ x, o' = some x → Sk x) : pEq (optE o) (optE o') = bl (decide (o = o')) := by rw [pEq_of (eqOk_opt h) (eqOk_opt h'), eqv_opt]
theorem inB_strs {v : Str} : ∀ {ws : List Str}, inB (.str v) (ws.map PyData.str) = decide (v ∈ ws)
  | [] => by simp [inB]
  | w :: ws => by
    have ih := inB_strs (v := v) (ws := ws)
    simp only [inB, List.map_cons, List.any_cons, eqv_str] at ih ⊢
    rw [ih]
    by_cases e : w = v
    · subst e; simp
    · simp [e, Ne.symm e]
theorem inB_opts {v : Str} : ∀ {vs : List (Option Str)}, inB (.str v) (vs.map optE) = decide (some v ∈ vs)
  | [] => by simp [inB]
  | o :: vs => by
    have ih := inB_opts (v := v) (vs := vs)
    have e0 : PyData.eqv (optE o) (.str v) = decide (o = some v) := eqv_opt (o' := some v)
    simp only [inB, List.map_cons, List.any_cons, e0] at ih ⊢
    rw [ih]
    by_cases e : o = some v
    · subst e; simp
    · simp [e, Ne.symm e]
theorem notIn_strs {v : Str} {ws : List Str} (hv : Sk v) (hw : ∀ w ∈ ws, Sk w) : pNotIn (.str v) (strsE ws) = bl (!decide (v ∈ ws)) := by
  unfold pNotIn pIn strsE
  simp only [eqOk_sk hv, show eqOk (.tuple (ws.map PyData.str)) = true from eqOk_strs hw, Bool.and_self, if_true, inB_strs, R.bind_ok, bl]
theorem notIn_vals {v : Str} {vs : List (Option Str)} (hv : Sk v) (hw : ∀ x, some x ∈ vs → Sk x) : pNotIn (.str v) (valsE vs) = bl (!decide (some v ∈ vs)) := by
  unfold pNotIn pIn valsE
  simp only [eqOk_sk hv, show eqOk (.tuple (vs.map optE)) = true from eqOk_vals hw, Bool.and_self, if_true, inB_opts, R.bind_ok, bl]
theorem look_ok : ∀ {bs : List Str} {vs : List (Option Str)} {b x : Str}, look bs vs b = some x → some x ∈ vs
  | [], _, _, _, h => by simp [look] at h
  | _ :: _, [], _, _, h => by simp [look] at h
  | c :: bs, v :: vs, b, x, h => by
    unfold look at h
    split at h
    · subst h; exact List.mem_cons_self ..
    · exact List.mem_cons_of_mem _ (look_ok h)
theorem worth_ok {bs : List Str} {vs : List (Option Str)} {t : Th} {v : Str} (w : WV bs vs) (wt : WT bs t) (hv : Sk v) : ∀ x, worth bs vs t v = some x → Sk x := fun x h => by
  cases t with
  | it => cases h; exact hv
  | word y => cases h; exact wt
  | box b => exact w.ok x (look_ok h)
theorem isN_opt {o : Option Str} : isNone (optE o) = o.isNone := by cases o <;> rfl
def Cd.plain : Cd → Prop
  | .not _ => False
  | .and _ _ => False
  | .or _ _ => False
  | _ => True
theorem simple_ok {ws bs : List Str} {vs : List (Option Str)} {c : Cd} {v : Str} (w : WV bs vs) (hw : ∀ x ∈ ws, Sk x) (hv : Sk v) (wc : WC bs c) (hp : c.plain) :
    D_simple_holds.run [.val (strsE ws), .val (strsE bs), .val (valsE vs), .val c.enc, .val (.str v)] = .ok (.val (.bool (holds ws bs vs v c)), []) := by
  cases c with
  | not _ => exact hp.elim
  | and _ _ => exact hp.elim
  | or _ _ => exact hp.elim
  | any => simp only [run_mk, List.map_cons, List.map_nil, List.length_cons, List.length_nil, List.cons_append, List.nil_append, List.replicate_succ, List.replicate_zero, Nat.reduceAdd, Nat.reduceSub, List.getElem?_cons_zero, List.getElem?_cons_succ, List.set_cons_zero, List.set_cons_succ, R.bind_ok, sCons, sNil, sIf, sRet, retL, dropL, sSet, setL, sDrop, sUnp, sPar, lNil, lCons, kF, putL, gN, gT, gAll, kC, kX, kD, kG, kS, scl, k1, k2, L.get, L.take, T.toD, aNil, aCons, kTup, kLst, bVal, bAnd, bOr, bNot, kAnd, kOr, kNot, kIf, boolOf, kCall, cNil, cV, cMv, cPass, lend, back, resL, outs, endOf, srcAt, kSGet, kSLen, kInt, SF.get, SF.put, bl, nm, if_true, if_false, Bool.false_eq_true, Bool.not_true, Bool.not_false, D_simple_holds, Cd.enc, ix0, ix1, q_it_it, q_it_box, q_it_word, q_it_any, q_it_new, q_it_empty, q_it_same, q_it_not, q_it_and, q_it_or, q_it_tell, q_it_put, q_it_drop, q_it_go, q_it_then, q_it_run, q_it_program, q_it_pipe, q_it_promise, q_box_it, q_box_box, q_box_word, q_box_any, q_box_new, q_box_empty, q_box_same, q_box_not, q_box_and, q_box_or, q_box_tell, q_box_put, q_box_drop, q_box_go, q_box_then, q_box_run, q_box_program, q_box_pipe, q_box_promise, q_word_it, q_word_box, q_word_word, q_word_any, q_word_new, q_word_empty, q_word_same, q_word_not, q_word_and, q_word_or, q_word_tell, q_word_put, q_word_drop, q_word_go, q_word_then, q_word_run, q_word_program, q_word_pipe, q_word_promise, q_any_it, q_any_box, q_any_word, q_any_any, q_any_new, q_any_empty, q_any_same, q_any_not, q_any_and, q_any_or, q_any_tell, q_any_put, q_any_drop, q_any_go, q_any_then, q_any_run, q_any_program, q_any_pipe, q_any_promise, q_new_it, q_new_box, q_new_word, q_new_any, q_new_new, q_new_empty, q_new_same, q_new_not, q_new_and, q_new_or, q_new_tell, q_new_put, q_new_drop, q_new_go, q_new_then, q_new_run, q_new_program, q_new_pipe, q_new_promise, q_empty_it, q_empty_box, q_empty_word, q_empty_any, q_empty_new, q_empty_empty, q_empty_same, q_empty_not, q_empty_and, q_empty_or, q_empty_tell, q_empty_put, q_empty_drop, q_empty_go, q_empty_then, q_empty_run, q_empty_program, q_empty_pipe, q_empty_promise, q_same_it, q_same_box, q_same_word, q_same_any, q_same_new, q_same_empty, q_same_same, q_same_not, q_same_and, q_same_or, q_same_tell, q_same_put, q_same_drop, q_same_go, q_same_then, q_same_run, q_same_program, q_same_pipe, q_same_promise, q_not_it, q_not_box, q_not_word, q_not_any, q_not_new, q_not_empty, q_not_same, q_not_not, q_not_and, q_not_or, q_not_tell, q_not_put, q_not_drop, q_not_go, q_not_then, q_not_run, q_not_program, q_not_pipe, q_not_promise, q_and_it, q_and_box, q_and_word, q_and_any, q_and_new, q_and_empty, q_and_same, q_and_not, q_and_and, q_and_or, q_and_tell, q_and_put, q_and_drop, q_and_go, q_and_then, q_and_run, q_and_program, q_and_pipe, q_and_promise, q_or_it, q_or_box, q_or_word, q_or_any, q_or_new, q_or_empty, q_or_same, q_or_not, q_or_and, q_or_or, q_or_tell, q_or_put, q_or_drop, q_or_go, q_or_then, q_or_run, q_or_program, q_or_pipe, q_or_promise, q_tell_it, q_tell_box, q_tell_word, q_tell_any, q_tell_new, q_tell_empty, q_tell_same, q_tell_not, q_tell_and, q_tell_or, q_tell_tell, q_tell_put, q_tell_drop, q_tell_go, q_tell_then, q_tell_run, q_tell_program, q_tell_pipe, q_tell_promise, q_put_it, q_put_box, q_put_word, q_put_any, q_put_new, q_put_empty, q_put_same, q_put_not, q_put_and, q_put_or, q_put_tell, q_put_put, q_put_drop, q_put_go, q_put_then, q_put_run, q_put_program, q_put_pipe, q_put_promise, q_drop_it, q_drop_box, q_drop_word, q_drop_any, q_drop_new, q_drop_empty, q_drop_same, q_drop_not, q_drop_and, q_drop_or, q_drop_tell, q_drop_put, q_drop_drop, q_drop_go, q_drop_then, q_drop_run, q_drop_program, q_drop_pipe, q_drop_promise, q_go_it, q_go_box, q_go_word, q_go_any, q_go_new, q_go_empty, q_go_same, q_go_not, q_go_and, q_go_or, q_go_tell, q_go_put, q_go_drop, q_go_go, q_go_then, q_go_run, q_go_program, q_go_pipe, q_go_promise, q_then_it, q_then_box, q_then_word, q_then_any, q_then_new, q_then_empty, q_then_same, q_then_not, q_then_and, q_then_or, q_then_tell, q_then_put, q_then_drop, q_then_go, q_then_then, q_then_run, q_then_program, q_then_pipe, q_then_promise, q_run_it, q_run_box, q_run_word, q_run_any, q_run_new, q_run_empty, q_run_same, q_run_not, q_run_and, q_run_or, q_run_tell, q_run_put, q_run_drop, q_run_go, q_run_then, q_run_run, q_run_program, q_run_pipe, q_run_promise, q_program_it, q_program_box, q_program_word, q_program_any, q_program_new, q_program_empty, q_program_same, q_program_not, q_program_and, q_program_or, q_program_tell, q_program_put, q_program_drop, q_program_go, q_program_then, q_program_run, q_program_program, q_program_pipe, q_program_promise, q_pipe_it, q_pipe_box, q_pipe_word, q_pipe_any, q_pipe_new, q_pipe_empty, q_pipe_same, q_pipe_not, q_pipe_and, q_pipe_or, q_pipe_tell, q_pipe_put, q_pipe_drop, q_pipe_go, q_pipe_then, q_pipe_run, q_pipe_program, q_pipe_pipe, q_pipe_promise, q_promise_it, q_promise_box, q_promise_word, q_promise_any, q_promise_new, q_promise_empty, q_promise_same, q_promise_not, q_promise_and, q_promise_or, q_promise_tell, q_promise_put, q_promise_drop, q_promise_go, q_promise_then, q_promise_run, q_promise_program, q_promise_pipe, q_promise_promise]; rfl
  | new =>
    simp only [run_mk, List.map_cons, List.map_nil, List.length_cons, List.length_nil, List.cons_append, List.nil_append, List.replicate_succ, List.replicate_zero, Nat.reduceAdd, Nat.reduceSub, List.getElem?_cons_zero, List.getElem?_cons_succ, List.set_cons_zero, List.set_cons_succ, R.bind_ok, sCons, sNil, sIf, sRet, retL, dropL, sSet, setL, sDrop, sUnp, sPar, lNil, lCons, kF, putL, gN, gT, gAll, kC, kX, kD, kG, kS, scl, k1, k2, L.get, L.take, T.toD, aNil, aCons, kTup, kLst, bVal, bAnd, bOr, bNot, kAnd, kOr, kNot, kIf, boolOf, kCall, cNil, cV, cMv, cPass, lend, back, resL, outs, endOf, srcAt, kSGet, kSLen, kInt, SF.get, SF.put, bl, nm, if_true, if_false, Bool.false_eq_true, Bool.not_true, Bool.not_false, D_simple_holds, Cd.enc, ix0, ix1, q_it_it, q_it_box, q_it_word, q_it_any, q_it_new, q_it_empty, q_it_same, q_it_not, q_it_and, q_it_or, q_it_tell, q_it_put, q_it_drop, q_it_go, q_it_then, q_it_run, q_it_program, q_it_pipe, q_it_promise, q_box_it, q_box_box, q_box_word, q_box_any, q_box_new, q_box_empty, q_box_same, q_box_not, q_box_and, q_box_or, q_box_tell, q_box_put, q_box_drop, q_box_go, q_box_then, q_box_run, q_box_program, q_box_pipe, q_box_promise, q_word_it, q_word_box, q_word_word, q_word_any, q_word_new, q_word_empty, q_word_same, q_word_not, q_word_and, q_word_or, q_word_tell, q_word_put, q_word_drop, q_word_go, q_word_then, q_word_run, q_word_program, q_word_pipe, q_word_promise, q_any_it, q_any_box, q_any_word, q_any_any, q_any_new, q_any_empty, q_any_same, q_any_not, q_any_and, q_any_or, q_any_tell, q_any_put, q_any_drop, q_any_go, q_any_then, q_any_run, q_any_program, q_any_pipe, q_any_promise, q_new_it, q_new_box, q_new_word, q_new_any, q_new_new, q_new_empty, q_new_same, q_new_not, q_new_and, q_new_or, q_new_tell, q_new_put, q_new_drop, q_new_go, q_new_then, q_new_run, q_new_program, q_new_pipe, q_new_promise, q_empty_it, q_empty_box, q_empty_word, q_empty_any, q_empty_new, q_empty_empty, q_empty_same, q_empty_not, q_empty_and, q_empty_or, q_empty_tell, q_empty_put, q_empty_drop, q_empty_go, q_empty_then, q_empty_run, q_empty_program, q_empty_pipe, q_empty_promise, q_same_it, q_same_box, q_same_word, q_same_any, q_same_new, q_same_empty, q_same_same, q_same_not, q_same_and, q_same_or, q_same_tell, q_same_put, q_same_drop, q_same_go, q_same_then, q_same_run, q_same_program, q_same_pipe, q_same_promise, q_not_it, q_not_box, q_not_word, q_not_any, q_not_new, q_not_empty, q_not_same, q_not_not, q_not_and, q_not_or, q_not_tell, q_not_put, q_not_drop, q_not_go, q_not_then, q_not_run, q_not_program, q_not_pipe, q_not_promise, q_and_it, q_and_box, q_and_word, q_and_any, q_and_new, q_and_empty, q_and_same, q_and_not, q_and_and, q_and_or, q_and_tell, q_and_put, q_and_drop, q_and_go, q_and_then, q_and_run, q_and_program, q_and_pipe, q_and_promise, q_or_it, q_or_box, q_or_word, q_or_any, q_or_new, q_or_empty, q_or_same, q_or_not, q_or_and, q_or_or, q_or_tell, q_or_put, q_or_drop, q_or_go, q_or_then, q_or_run, q_or_program, q_or_pipe, q_or_promise, q_tell_it, q_tell_box, q_tell_word, q_tell_any, q_tell_new, q_tell_empty, q_tell_same, q_tell_not, q_tell_and, q_tell_or, q_tell_tell, q_tell_put, q_tell_drop, q_tell_go, q_tell_then, q_tell_run, q_tell_program, q_tell_pipe, q_tell_promise, q_put_it, q_put_box, q_put_word, q_put_any, q_put_new, q_put_empty, q_put_same, q_put_not, q_put_and, q_put_or, q_put_tell, q_put_put, q_put_drop, q_put_go, q_put_then, q_put_run, q_put_program, q_put_pipe, q_put_promise, q_drop_it, q_drop_box, q_drop_word, q_drop_any, q_drop_new, q_drop_empty, q_drop_same, q_drop_not, q_drop_and, q_drop_or, q_drop_tell, q_drop_put, q_drop_drop, q_drop_go, q_drop_then, q_drop_run, q_drop_program, q_drop_pipe, q_drop_promise, q_go_it, q_go_box, q_go_word, q_go_any, q_go_new, q_go_empty, q_go_same, q_go_not, q_go_and, q_go_or, q_go_tell, q_go_put, q_go_drop, q_go_go, q_go_then, q_go_run, q_go_program, q_go_pipe, q_go_promise, q_then_it, q_then_box, q_then_word, q_then_any, q_then_new, q_then_empty, q_then_same, q_then_not, q_then_and, q_then_or, q_then_tell, q_then_put, q_then_drop, q_then_go, q_then_then, q_then_run, q_then_program, q_then_pipe, q_then_promise, q_run_it, q_run_box, q_run_word, q_run_any, q_run_new, q_run_empty, q_run_same, q_run_not, q_run_and, q_run_or, q_run_tell, q_run_put, q_run_drop, q_run_go, q_run_then, q_run_run, q_run_program, q_run_pipe, q_run_promise, q_program_it, q_program_box, q_program_word, q_program_any, q_program_new, q_program_empty, q_program_same, q_program_not, q_program_and, q_program_or, q_program_tell, q_program_put, q_program_drop, q_program_go, q_program_then, q_program_run, q_program_program, q_program_pipe, q_program_promise, q_pipe_it, q_pipe_box, q_pipe_word, q_pipe_any, q_pipe_new, q_pipe_empty, q_pipe_same, q_pipe_not, q_pipe_and, q_pipe_or, q_pipe_tell, q_pipe_put, q_pipe_drop, q_pipe_go, q_pipe_then, q_pipe_run, q_pipe_program, q_pipe_pipe, q_pipe_promise, q_promise_it, q_promise_box, q_promise_word, q_promise_any, q_promise_new, q_promise_empty, q_promise_same, q_promise_not, q_promise_and, q_promise_or, q_promise_tell, q_promise_put, q_promise_drop, q_promise_go, q_promise_then, q_promise_run, q_promise_program, q_promise_pipe, q_promise_promise, notIn_strs hv hw, notIn_vals hv w.ok, holds]
    cases h : decide (v ∈ ws) <;> simp only [run_mk, List.map_cons, List.map_nil, List.length_cons, List.length_nil, List.cons_append, List.nil_append, List.replicate_succ, List.replicate_zero, Nat.reduceAdd, Nat.reduceSub, List.getElem?_cons_zero, List.getElem?_cons_succ, List.set_cons_zero, List.set_cons_succ, R.bind_ok, sCons, sNil, sIf, sRet, retL, dropL, sSet, setL, sDrop, sUnp, sPar, lNil, lCons, kF, putL, gN, gT, gAll, kC, kX, kD, kG, kS, scl, k1, k2, L.get, L.take, T.toD, aNil, aCons, kTup, kLst, bVal, bAnd, bOr, bNot, kAnd, kOr, kNot, kIf, boolOf, kCall, cNil, cV, cMv, cPass, lend, back, resL, outs, endOf, srcAt, kSGet, kSLen, kInt, SF.get, SF.put, bl, nm, if_true, if_false, Bool.false_eq_true, Bool.not_true, Bool.not_false, Bool.false_and, Bool.true_and]
  | it t =>
    have e := thing_ok (v := v) w wc
    have e2 : pEq (optE (worth bs vs t v)) (.str v) = bl (decide (worth bs vs t v = some v)) := pEq_opt (o' := some v) (worth_ok w wc hv) fun x h => by cases h; exact hv
    simp only [run_mk, List.map_cons, List.map_nil, List.length_cons, List.length_nil, List.cons_append, List.nil_append, List.replicate_succ, List.replicate_zero, Nat.reduceAdd, Nat.reduceSub, List.getElem?_cons_zero, List.getElem?_cons_succ, List.set_cons_zero, List.set_cons_succ, R.bind_ok, sCons, sNil, sIf, sRet, retL, dropL, sSet, setL, sDrop, sUnp, sPar, lNil, lCons, kF, putL, gN, gT, gAll, kC, kX, kD, kG, kS, scl, k1, k2, L.get, L.take, T.toD, aNil, aCons, kTup, kLst, bVal, bAnd, bOr, bNot, kAnd, kOr, kNot, kIf, boolOf, kCall, cNil, cV, cMv, cPass, lend, back, resL, outs, endOf, srcAt, kSGet, kSLen, kInt, SF.get, SF.put, bl, nm, if_true, if_false, Bool.false_eq_true, Bool.not_true, Bool.not_false, D_simple_holds, Cd.enc, ix0, ix1, q_it_it, q_it_box, q_it_word, q_it_any, q_it_new, q_it_empty, q_it_same, q_it_not, q_it_and, q_it_or, q_it_tell, q_it_put, q_it_drop, q_it_go, q_it_then, q_it_run, q_it_program, q_it_pipe, q_it_promise, q_box_it, q_box_box, q_box_word, q_box_any, q_box_new, q_box_empty, q_box_same, q_box_not, q_box_and, q_box_or, q_box_tell, q_box_put, q_box_drop, q_box_go, q_box_then, q_box_run, q_box_program, q_box_pipe, q_box_promise, q_word_it, q_word_box, q_word_word, q_word_any, q_word_new, q_word_empty, q_word_same, q_word_not, q_word_and, q_word_or, q_word_tell, q_word_put, q_word_drop, q_word_go, q_word_then, q_word_run, q_word_program, q_word_pipe, q_word_promise, q_any_it, q_any_box, q_any_word, q_any_any, q_any_new, q_any_empty, q_any_same, q_any_not, q_any_and, q_any_or, q_any_tell, q_any_put, q_any_drop, q_any_go, q_any_then, q_any_run, q_any_program, q_any_pipe, q_any_promise, q_new_it, q_new_box, q_new_word, q_new_any, q_new_new, q_new_empty, q_new_same, q_new_not, q_new_and, q_new_or, q_new_tell, q_new_put, q_new_drop, q_new_go, q_new_then, q_new_run, q_new_program, q_new_pipe, q_new_promise, q_empty_it, q_empty_box, q_empty_word, q_empty_any, q_empty_new, q_empty_empty, q_empty_same, q_empty_not, q_empty_and, q_empty_or, q_empty_tell, q_empty_put, q_empty_drop, q_empty_go, q_empty_then, q_empty_run, q_empty_program, q_empty_pipe, q_empty_promise, q_same_it, q_same_box, q_same_word, q_same_any, q_same_new, q_same_empty, q_same_same, q_same_not, q_same_and, q_same_or, q_same_tell, q_same_put, q_same_drop, q_same_go, q_same_then, q_same_run, q_same_program, q_same_pipe, q_same_promise, q_not_it, q_not_box, q_not_word, q_not_any, q_not_new, q_not_empty, q_not_same, q_not_not, q_not_and, q_not_or, q_not_tell, q_not_put, q_not_drop, q_not_go, q_not_then, q_not_run, q_not_program, q_not_pipe, q_not_promise, q_and_it, q_and_box, q_and_word, q_and_any, q_and_new, q_and_empty, q_and_same, q_and_not, q_and_and, q_and_or, q_and_tell, q_and_put, q_and_drop, q_and_go, q_and_then, q_and_run, q_and_program, q_and_pipe, q_and_promise, q_or_it, q_or_box, q_or_word, q_or_any, q_or_new, q_or_empty, q_or_same, q_or_not, q_or_and, q_or_or, q_or_tell, q_or_put, q_or_drop, q_or_go, q_or_then, q_or_run, q_or_program, q_or_pipe, q_or_promise, q_tell_it, q_tell_box, q_tell_word, q_tell_any, q_tell_new, q_tell_empty, q_tell_same, q_tell_not, q_tell_and, q_tell_or, q_tell_tell, q_tell_put, q_tell_drop, q_tell_go, q_tell_then, q_tell_run, q_tell_program, q_tell_pipe, q_tell_promise, q_put_it, q_put_box, q_put_word, q_put_any, q_put_new, q_put_empty, q_put_same, q_put_not, q_put_and, q_put_or, q_put_tell, q_put_put, q_put_drop, q_put_go, q_put_then, q_put_run, q_put_program, q_put_pipe, q_put_promise, q_drop_it, q_drop_box, q_drop_word, q_drop_any, q_drop_new, q_drop_empty, q_drop_same, q_drop_not, q_drop_and, q_drop_or, q_drop_tell, q_drop_put, q_drop_drop, q_drop_go, q_drop_then, q_drop_run, q_drop_program, q_drop_pipe, q_drop_promise, q_go_it, q_go_box, q_go_word, q_go_any, q_go_new, q_go_empty, q_go_same, q_go_not, q_go_and, q_go_or, q_go_tell, q_go_put, q_go_drop, q_go_go, q_go_then, q_go_run, q_go_program, q_go_pipe, q_go_promise, q_then_it, q_then_box, q_then_word, q_then_any, q_then_new, q_then_empty, q_then_same, q_then_not, q_then_and, q_then_or, q_then_tell, q_then_put, q_then_drop, q_then_go, q_then_then, q_then_run, q_then_program, q_then_pipe, q_then_promise, q_run_it, q_run_box, q_run_word, q_run_any, q_run_new, q_run_empty, q_run_same, q_run_not, q_run_and, q_run_or, q_run_tell, q_run_put, q_run_drop, q_run_go, q_run_then, q_run_run, q_run_program, q_run_pipe, q_run_promise, q_program_it, q_program_box, q_program_word, q_program_any, q_program_new, q_program_empty, q_program_same, q_program_not, q_program_and, q_program_or, q_program_tell, q_program_put, q_program_drop, q_program_go, q_program_then, q_program_run, q_program_program, q_program_pipe, q_program_promise, q_pipe_it, q_pipe_box, q_pipe_word, q_pipe_any, q_pipe_new, q_pipe_empty, q_pipe_same, q_pipe_not, q_pipe_and, q_pipe_or, q_pipe_tell, q_pipe_put, q_pipe_drop, q_pipe_go, q_pipe_then, q_pipe_run, q_pipe_program, q_pipe_pipe, q_pipe_promise, q_promise_it, q_promise_box, q_promise_word, q_promise_any, q_promise_new, q_promise_empty, q_promise_same, q_promise_not, q_promise_and, q_promise_or, q_promise_tell, q_promise_put, q_promise_drop, q_promise_go, q_promise_then, q_promise_run, q_promise_program, q_promise_pipe, q_promise_promise, e, e2, holds]
  | empty b =>
    obtain ⟨j, h1, h2, h3⟩ := index_box w wc
    unfold strsE at h1
    simp only [run_mk, List.map_cons, List.map_nil, List.length_cons, List.length_nil, List.cons_append, List.nil_append, List.replicate_succ, List.replicate_zero, Nat.reduceAdd, Nat.reduceSub, List.getElem?_cons_zero, List.getElem?_cons_succ, List.set_cons_zero, List.set_cons_succ, R.bind_ok, sCons, sNil, sIf, sRet, retL, dropL, sSet, setL, sDrop, sUnp, sPar, lNil, lCons, kF, putL, gN, gT, gAll, kC, kX, kD, kG, kS, scl, k1, k2, L.get, L.take, T.toD, aNil, aCons, kTup, kLst, bVal, bAnd, bOr, bNot, kAnd, kOr, kNot, kIf, boolOf, kCall, cNil, cV, cMv, cPass, lend, back, resL, outs, endOf, srcAt, kSGet, kSLen, kInt, SF.get, SF.put, bl, nm, if_true, if_false, Bool.false_eq_true, Bool.not_true, Bool.not_false, D_simple_holds, Cd.enc, ix0, ix1, q_it_it, q_it_box, q_it_word, q_it_any, q_it_new, q_it_empty, q_it_same, q_it_not, q_it_and, q_it_or, q_it_tell, q_it_put, q_it_drop, q_it_go, q_it_then, q_it_run, q_it_program, q_it_pipe, q_it_promise, q_box_it, q_box_box, q_box_word, q_box_any, q_box_new, q_box_empty, q_box_same, q_box_not, q_box_and, q_box_or, q_box_tell, q_box_put, q_box_drop, q_box_go, q_box_then, q_box_run, q_box_program, q_box_pipe, q_box_promise, q_word_it, q_word_box, q_word_word, q_word_any, q_word_new, q_word_empty, q_word_same, q_word_not, q_word_and, q_word_or, q_word_tell, q_word_put, q_word_drop, q_word_go, q_word_then, q_word_run, q_word_program, q_word_pipe, q_word_promise, q_any_it, q_any_box, q_any_word, q_any_any, q_any_new, q_any_empty, q_any_same, q_any_not, q_any_and, q_any_or, q_any_tell, q_any_put, q_any_drop, q_any_go, q_any_then, q_any_run, q_any_program, q_any_pipe, q_any_promise, q_new_it, q_new_box, q_new_word, q_new_any, q_new_new, q_new_empty, q_new_same, q_new_not, q_new_and, q_new_or, q_new_tell, q_new_put, q_new_drop, q_new_go, q_new_then, q_new_run, q_new_program, q_new_pipe, q_new_promise, q_empty_it, q_empty_box, q_empty_word, q_empty_any, q_empty_new, q_empty_empty, q_empty_same, q_empty_not, q_empty_and, q_empty_or, q_empty_tell, q_empty_put, q_empty_drop, q_empty_go, q_empty_then, q_empty_run, q_empty_program, q_empty_pipe, q_empty_promise, q_same_it, q_same_box, q_same_word, q_same_any, q_same_new, q_same_empty, q_same_same, q_same_not, q_same_and, q_same_or, q_same_tell, q_same_put, q_same_drop, q_same_go, q_same_then, q_same_run, q_same_program, q_same_pipe, q_same_promise, q_not_it, q_not_box, q_not_word, q_not_any, q_not_new, q_not_empty, q_not_same, q_not_not, q_not_and, q_not_or, q_not_tell, q_not_put, q_not_drop, q_not_go, q_not_then, q_not_run, q_not_program, q_not_pipe, q_not_promise, q_and_it, q_and_box, q_and_word, q_and_any, q_and_new, q_and_empty, q_and_same, q_and_not, q_and_and, q_and_or, q_and_tell, q_and_put, q_and_drop, q_and_go, q_and_then, q_and_run, q_and_program, q_and_pipe, q_and_promise, q_or_it, q_or_box, q_or_word, q_or_any, q_or_new, q_or_empty, q_or_same, q_or_not, q_or_and, q_or_or, q_or_tell, q_or_put, q_or_drop, q_or_go, q_or_then, q_or_run, q_or_program, q_or_pipe, q_or_promise, q_tell_it, q_tell_box, q_tell_word, q_tell_any, q_tell_new, q_tell_empty, q_tell_same, q_tell_not, q_tell_and, q_tell_or, q_tell_tell, q_tell_put, q_tell_drop, q_tell_go, q_tell_then, q_tell_run, q_tell_program, q_tell_pipe, q_tell_promise, q_put_it, q_put_box, q_put_word, q_put_any, q_put_new, q_put_empty, q_put_same, q_put_not, q_put_and, q_put_or, q_put_tell, q_put_put, q_put_drop, q_put_go, q_put_then, q_put_run, q_put_program, q_put_pipe, q_put_promise, q_drop_it, q_drop_box, q_drop_word, q_drop_any, q_drop_new, q_drop_empty, q_drop_same, q_drop_not, q_drop_and, q_drop_or, q_drop_tell, q_drop_put, q_drop_drop, q_drop_go, q_drop_then, q_drop_run, q_drop_program, q_drop_pipe, q_drop_promise, q_go_it, q_go_box, q_go_word, q_go_any, q_go_new, q_go_empty, q_go_same, q_go_not, q_go_and, q_go_or, q_go_tell, q_go_put, q_go_drop, q_go_go, q_go_then, q_go_run, q_go_program, q_go_pipe, q_go_promise, q_then_it, q_then_box, q_then_word, q_then_any, q_then_new, q_then_empty, q_then_same, q_then_not, q_then_and, q_then_or, q_then_tell, q_then_put, q_then_drop, q_then_go, q_then_then, q_then_run, q_then_program, q_then_pipe, q_then_promise, q_run_it, q_run_box, q_run_word, q_run_any, q_run_new, q_run_empty, q_run_same, q_run_not, q_run_and, q_run_or, q_run_tell, q_run_put, q_run_drop, q_run_go, q_run_then, q_run_run, q_run_program, q_run_pipe, q_run_promise, q_program_it, q_program_box, q_program_word, q_program_any, q_program_new, q_program_empty, q_program_same, q_program_not, q_program_and, q_program_or, q_program_tell, q_program_put, q_program_drop, q_program_go, q_program_then, q_program_run, q_program_program, q_program_pipe, q_program_promise, q_pipe_it, q_pipe_box, q_pipe_word, q_pipe_any, q_pipe_new, q_pipe_empty, q_pipe_same, q_pipe_not, q_pipe_and, q_pipe_or, q_pipe_tell, q_pipe_put, q_pipe_drop, q_pipe_go, q_pipe_then, q_pipe_run, q_pipe_program, q_pipe_pipe, q_pipe_promise, q_promise_it, q_promise_box, q_promise_word, q_promise_any, q_promise_new, q_promise_empty, q_promise_same, q_promise_not, q_promise_and, q_promise_or, q_promise_tell, q_promise_put, q_promise_drop, q_promise_go, q_promise_then, q_promise_run, q_promise_program, q_promise_pipe, q_promise_promise, kIndex, likeSeq, strsE, h1, h2, pIsN, isN_opt, holds]
  | same b t =>
    obtain ⟨j, h1, h2, h3⟩ := index_box w wc.1
    have e := thing_ok (v := v) w wc.2
    have e2 := pEq_opt (o := look bs vs b) (fun x h => w.ok x (look_ok h)) (worth_ok (v := v) w wc.2 hv)
    unfold strsE at h1 e
    simp only [run_mk, List.map_cons, List.map_nil, List.length_cons, List.length_nil, List.cons_append, List.nil_append, List.replicate_succ, List.replicate_zero, Nat.reduceAdd, Nat.reduceSub, List.getElem?_cons_zero, List.getElem?_cons_succ, List.set_cons_zero, List.set_cons_succ, R.bind_ok, sCons, sNil, sIf, sRet, retL, dropL, sSet, setL, sDrop, sUnp, sPar, lNil, lCons, kF, putL, gN, gT, gAll, kC, kX, kD, kG, kS, scl, k1, k2, L.get, L.take, T.toD, aNil, aCons, kTup, kLst, bVal, bAnd, bOr, bNot, kAnd, kOr, kNot, kIf, boolOf, kCall, cNil, cV, cMv, cPass, lend, back, resL, outs, endOf, srcAt, kSGet, kSLen, kInt, SF.get, SF.put, bl, nm, if_true, if_false, Bool.false_eq_true, Bool.not_true, Bool.not_false, D_simple_holds, Cd.enc, ix0, ix1, ix2, q_it_it, q_it_box, q_it_word, q_it_any, q_it_new, q_it_empty, q_it_same, q_it_not, q_it_and, q_it_or, q_it_tell, q_it_put, q_it_drop, q_it_go, q_it_then, q_it_run, q_it_program, q_it_pipe, q_it_promise, q_box_it, q_box_box, q_box_word, q_box_any, q_box_new, q_box_empty, q_box_same, q_box_not, q_box_and, q_box_or, q_box_tell, q_box_put, q_box_drop, q_box_go, q_box_then, q_box_run, q_box_program, q_box_pipe, q_box_promise, q_word_it, q_word_box, q_word_word, q_word_any, q_word_new, q_word_empty, q_word_same, q_word_not, q_word_and, q_word_or, q_word_tell, q_word_put, q_word_drop, q_word_go, q_word_then, q_word_run, q_word_program, q_word_pipe, q_word_promise, q_any_it, q_any_box, q_any_word, q_any_any, q_any_new, q_any_empty, q_any_same, q_any_not, q_any_and, q_any_or, q_any_tell, q_any_put, q_any_drop, q_any_go, q_any_then, q_any_run, q_any_program, q_any_pipe, q_any_promise, q_new_it, q_new_box, q_new_word, q_new_any, q_new_new, q_new_empty, q_new_same, q_new_not, q_new_and, q_new_or, q_new_tell, q_new_put, q_new_drop, q_new_go, q_new_then, q_new_run, q_new_program, q_new_pipe, q_new_promise, q_empty_it, q_empty_box, q_empty_word, q_empty_any, q_empty_new, q_empty_empty, q_empty_same, q_empty_not, q_empty_and, q_empty_or, q_empty_tell, q_empty_put, q_empty_drop, q_empty_go, q_empty_then, q_empty_run, q_empty_program, q_empty_pipe, q_empty_promise, q_same_it, q_same_box, q_same_word, q_same_any, q_same_new, q_same_empty, q_same_same, q_same_not, q_same_and, q_same_or, q_same_tell, q_same_put, q_same_drop, q_same_go, q_same_then, q_same_run, q_same_program, q_same_pipe, q_same_promise, q_not_it, q_not_box, q_not_word, q_not_any, q_not_new, q_not_empty, q_not_same, q_not_not, q_not_and, q_not_or, q_not_tell, q_not_put, q_not_drop, q_not_go, q_not_then, q_not_run, q_not_program, q_not_pipe, q_not_promise, q_and_it, q_and_box, q_and_word, q_and_any, q_and_new, q_and_empty, q_and_same, q_and_not, q_and_and, q_and_or, q_and_tell, q_and_put, q_and_drop, q_and_go, q_and_then, q_and_run, q_and_program, q_and_pipe, q_and_promise, q_or_it, q_or_box, q_or_word, q_or_any, q_or_new, q_or_empty, q_or_same, q_or_not, q_or_and, q_or_or, q_or_tell, q_or_put, q_or_drop, q_or_go, q_or_then, q_or_run, q_or_program, q_or_pipe, q_or_promise, q_tell_it, q_tell_box, q_tell_word, q_tell_any, q_tell_new, q_tell_empty, q_tell_same, q_tell_not, q_tell_and, q_tell_or, q_tell_tell, q_tell_put, q_tell_drop, q_tell_go, q_tell_then, q_tell_run, q_tell_program, q_tell_pipe, q_tell_promise, q_put_it, q_put_box, q_put_word, q_put_any, q_put_new, q_put_empty, q_put_same, q_put_not, q_put_and, q_put_or, q_put_tell, q_put_put, q_put_drop, q_put_go, q_put_then, q_put_run, q_put_program, q_put_pipe, q_put_promise, q_drop_it, q_drop_box, q_drop_word, q_drop_any, q_drop_new, q_drop_empty, q_drop_same, q_drop_not, q_drop_and, q_drop_or, q_drop_tell, q_drop_put, q_drop_drop, q_drop_go, q_drop_then, q_drop_run, q_drop_program, q_drop_pipe, q_drop_promise, q_go_it, q_go_box, q_go_word, q_go_any, q_go_new, q_go_empty, q_go_same, q_go_not, q_go_and, q_go_or, q_go_tell, q_go_put, q_go_drop, q_go_go, q_go_then, q_go_run, q_go_program, q_go_pipe, q_go_promise, q_then_it, q_then_box, q_then_word, q_then_any, q_then_new, q_then_empty, q_then_same, q_then_not, q_then_and, q_then_or, q_then_tell, q_then_put, q_then_drop, q_then_go, q_then_then, q_then_run, q_then_program, q_then_pipe, q_then_promise, q_run_it, q_run_box, q_run_word, q_run_any, q_run_new, q_run_empty, q_run_same, q_run_not, q_run_and, q_run_or, q_run_tell, q_run_put, q_run_drop, q_run_go, q_run_then, q_run_run, q_run_program, q_run_pipe, q_run_promise, q_program_it, q_program_box, q_program_word, q_program_any, q_program_new, q_program_empty, q_program_same, q_program_not, q_program_and, q_program_or, q_program_tell, q_program_put, q_program_drop, q_program_go, q_program_then, q_program_run, q_program_program, q_program_pipe, q_program_promise, q_pipe_it, q_pipe_box, q_pipe_word, q_pipe_any, q_pipe_new, q_pipe_empty, q_pipe_same, q_pipe_not, q_pipe_and, q_pipe_or, q_pipe_tell, q_pipe_put, q_pipe_drop, q_pipe_go, q_pipe_then, q_pipe_run, q_pipe_program, q_pipe_pipe, q_pipe_promise, q_promise_it, q_promise_box, q_promise_word, q_promise_any, q_promise_new, q_promise_empty, q_promise_same, q_promise_not, q_promise_and, q_promise_or, q_promise_tell, q_promise_put, q_promise_drop, q_promise_go, q_promise_then, q_promise_run, q_promise_program, q_promise_pipe, q_promise_promise, kIndex, likeSeq, strsE, h1, h2, pIsN, pNotN, isN_opt, holds, e, e2]
    cases h : look bs vs b <;> simp only [run_mk, List.map_cons, List.map_nil, List.length_cons, List.length_nil, List.cons_append, List.nil_append, List.replicate_succ, List.replicate_zero, Nat.reduceAdd, Nat.reduceSub, List.getElem?_cons_zero, List.getElem?_cons_succ, List.set_cons_zero, List.set_cons_succ, R.bind_ok, sCons, sNil, sIf, sRet, retL, dropL, sSet, setL, sDrop, sUnp, sPar, lNil, lCons, kF, putL, gN, gT, gAll, kC, kX, kD, kG, kS, scl, k1, k2, L.get, L.take, T.toD, aNil, aCons, kTup, kLst, bVal, bAnd, bOr, bNot, kAnd, kOr, kNot, kIf, boolOf, kCall, cNil, cV, cMv, cPass, lend, back, resL, outs, endOf, srcAt, kSGet, kSLen, kInt, SF.get, SF.put, bl, nm, if_true, if_false, Bool.false_eq_true, Bool.not_true, Bool.not_false, optE, Option.isNone, Option.isSome, Bool.true_and, Bool.false_and]
end K07

set_option Elab.async false
set_option linter.all false
set_option maxRecDepth 100000
set_option maxHeartbeats 4000000
set_option pp.maxSteps 600
namespace K07
open PySem KV
/-! ### how deep, how big -/
def Cd.hgt : Cd → Nat
  | .not c => c.hgt + 1
  | .and c d => max c.hgt d.hgt + 1
  | .or c d => max c.hgt d.hgt + 1
  | _ => 0
def Cd.sz : Cd → Nat
  | .not c => c.sz + 1
  | .and c d => c.sz + d.sz + 1
  | .or c d => c.sz + d.sz + 1
  | _ => 1
def Wt : Nat → Nat
  | 0 => 150
  | n + 1 => 3 * (Wt n + 1)
theorem Wt_mono : ∀ {n m : Nat}, n ≤ m → Wt n ≤ Wt m
  | n, 0, h => by have : n = 0 := by omega
                  subst this; exact Nat.le_refl _
  | n, m + 1, h => by
    by_cases e : n = m + 1
    · subst e; exact Nat.le_refl _
    · have := Wt_mono (n := n) (m := m) (by omega)
      show Wt n ≤ 3 * (Wt m + 1)
      omega
theorem sk_lit : ∀ x ∈ (["it", "box", "word", "any", "new", "empty", "same", "not", "and", "or", "tell", "put", "drop", "go", "then", "run", "program", "pipe", "promise", "p", "q", "r", "t", "s", "x", "y", "z", "m", "n", "o", "a", "b", "c", "b1", "stop"] : List String), Sk (Str.ofString x) := by
  unfold Sk
  decide +kernel
theorem fit_th {bs : List Str} {t : Th} (hb : ∀ b ∈ bs, Sk b) (w : WT bs t) : fit 1 42 t.enc := by
  have lit : ∀ (x : String), x ∈ (["it", "box", "word"] : List String) → fit 0 20 (.str (Str.ofString x)) := fun x hx => by
    have := sk_lit x (by simp at hx ⊢; rcases hx with h | h | h <;> simp [h])
    exact fit_str this.1 this.2
  cases t with
  | it => exact (fit_tup (n := 0) (m := 20) (k := 2) (by intro d hd; simp at hd; subst hd; exact lit "it" (by simp)) (by simp))
  | box b => exact (fit_tup (n := 0) (m := 20) (k := 2) (by intro d hd; simp at hd; rcases hd with h | h <;> subst h; exact lit "box" (by simp); exact fit_str (hb b w).1 (hb b w).2) (by simp))
  | word x => exact (fit_tup (n := 0) (m := 20) (k := 2) (by intro d hd; simp at hd; rcases hd with h | h <;> subst h; exact lit "word" (by simp); exact fit_str w.1 w.2) (by simp))
theorem fit_lit (x : String) (h : x ∈ (["it", "box", "word", "any", "new", "empty", "same", "not", "and", "or", "tell", "put", "drop", "go", "then", "run", "program", "pipe", "promise", "p", "q", "r", "t", "s", "x", "y", "z", "m", "n", "o", "a", "b", "c", "b1", "stop"] : List String)) {n m : Nat} (hm : 20 ≤ m) : fit n m (.str (Str.ofString x)) := by
  have := sk_lit x h
  exact fit_str this.1 (Nat.le_trans this.2 hm)
theorem fit_cd {bs : List Str} (hb : ∀ b ∈ bs, Sk b) : ∀ {c : Cd}, WC bs c → fit (c.hgt + 2) (Wt c.hgt) c.enc
  | .any, _ => (fit_tup (n := 1) (m := 42) (k := 3) (by intro d hd; simp at hd; subst hd; exact fit_lit "any" (by simp) (by omega)) (by simp)).mono (by simp [Cd.hgt]) (by simp [Wt, Cd.hgt])
  | .new, _ => (fit_tup (n := 1) (m := 42) (k := 3) (by intro d hd; simp at hd; subst hd; exact fit_lit "new" (by simp) (by omega)) (by simp)).mono (by simp [Cd.hgt]) (by simp [Wt, Cd.hgt])
  | .it t, w => (fit_tup (n := 1) (m := 42) (k := 3) (by intro d hd; simp at hd; rcases hd with h | h <;> subst h; exact fit_lit "it" (by simp) (by omega); exact fit_th hb w) (by simp)).mono (by simp [Cd.hgt]) (by simp [Wt, Cd.hgt])
  | .empty b, w => (fit_tup (n := 1) (m := 42) (k := 3) (by intro d hd; simp at hd; rcases hd with h | h <;> subst h; exact fit_lit "empty" (by simp) (by omega); exact (fit_str (hb b w).1 (hb b w).2).mono (Nat.zero_le _) (by omega)) (by simp)).mono (by simp [Cd.hgt]) (by simp [Wt, Cd.hgt])
  | .same b t, w => (fit_tup (n := 1) (m := 42) (k := 3) (by
      intro d hd
      simp at hd
      rcases hd with h | h | h <;> subst h
      · exact fit_lit "same" (by simp) (by omega)
      · exact (fit_str (hb b w.1).1 (hb b w.1).2).mono (Nat.zero_le _) (by omega)
      · exact fit_th hb w.2) (by simp)).mono (by simp [Cd.hgt]) (by simp [Wt, Cd.hgt])
  | .not c, w => (fit_tup (n := c.hgt + 2) (m := Wt c.hgt) (k := 3) (by
      intro d hd
      simp at hd
      have := Wt_mono (Nat.zero_le c.hgt)
      have e : Wt 0 = 150 := rfl
      rcases hd with h | h <;> subst h
      · exact fit_lit "not" (by simp) (by omega)
      · exact fit_cd hb w) (by simp))
  | .and c d, w => (fit_tup (n := max c.hgt d.hgt + 2) (m := Wt (max c.hgt d.hgt)) (k := 3) (by
      intro x hx
      simp at hx
      have := Wt_mono (Nat.zero_le (max c.hgt d.hgt))
      have e : Wt 0 = 150 := rfl
      rcases hx with h | h | h <;> subst h
      · exact fit_lit "and" (by simp) (by omega)
      · exact (fit_cd hb w.1).mono (by omega) (Wt_mono (by omega))
      · exact (fit_cd hb w.2).mono (by omega) (Wt_mono (by omega))) (by simp))
  | .or c d, w => (fit_tup (n := max c.hgt d.hgt + 2) (m := Wt (max c.hgt d.hgt)) (k := 3) (by
      intro x hx
      simp at hx
      have := Wt_mono (Nat.zero_le (max c.hgt d.hgt))
      have e : Wt 0 = 150 := rfl
      rcases hx with h | h | h <;> subst h
      · exact fit_lit "or" (by simp) (by omega)
      · exact (fit_cd hb w.1).mono (by omega) (Wt_mono (by omega))
      · exact (fit_cd hb w.2).mono (by omega) (Wt_mono (by omega))) (by simp))
/-! ### the stack of does_hold -/
/-- what the stack leaves: its top first -/
def exec (h : Cd → Bool) : List (Cd × Bool) → List Bool → List Bool
  | [], dn => dn
  | (c, false) :: st, dn => exec h st (h c :: dn)
  | (.not _, true) :: st, x :: dn => exec h st ((!x) :: dn)
  | (.and _ _, true) :: st, x :: y :: dn => exec h st ((x && y) :: dn)
  | (.or _ _, true) :: st, x :: y :: dn => exec h st ((x || y) :: dn)
  | (.not _, true) :: _, _ => []
  | (.and _ _, true) :: _, _ => []
  | (.or _ _, true) :: _, _ => []
  | (c, true) :: st, dn => exec h st (h c :: dn)
def wsum : List (Cd × Bool) → Nat
  | [] => 0
  | (c, false) :: st => 2 * c.sz + wsum st
  | (_, true) :: st => 1 + wsum st
def entE (e : Cd × Bool) : D := .tuple [e.1.enc, .bool e.2]
def entsE (st : List (Cd × Bool)) : List D := st.reverse.map entE
def boolsE (dn : List Bool) : List D := dn.reverse.map PyData.bool
theorem Cd.sz_pos (c : Cd) : 0 < c.sz := by cases c <;> simp [Cd.sz]
theorem wsum_len : ∀ st : List (Cd × Bool), st.length ≤ wsum st
  | [] => Nat.le_refl _
  | (c, false) :: st => by have := wsum_len st; have := c.sz_pos; simp only [List.length_cons, wsum]; omega
  | (c, true) :: st => by have := wsum_len st; simp only [List.length_cons, wsum]; omega
theorem entsE_cons {e : Cd × Bool} {st : List (Cd × Bool)} : entsE (e :: st) = entsE st ++ [entE e] := by simp [entsE]
theorem boolsE_cons {b : Bool} {dn : List Bool} : boolsE (b :: dn) = boolsE dn ++ [.bool b] := by simp [boolsE]
theorem last_app {α : Type} {xs : List α} {x : α} : (xs ++ [x])[(xs ++ [x]).length - 1]? = some x := by simp
theorem last_app1 {α : Type} {xs : List α} {x : α} : (xs ++ [x])[xs.length + 1 - 1]? = some x := by simp
theorem pNe_nil {xs : List D} (h : eqOk (.list xs) = true) : pNe (.list xs) (.list []) = bl (!xs.isEmpty) := by
  rw [pNe_of h rfl]
  cases xs <;> simp [PyData.eqv, PyData.eqvAll]
theorem eqOk_ents {bs : List Str} {st : List (Cd × Bool)} (hb : ∀ b ∈ bs, Sk b) (h : ∀ e ∈ st, WC bs e.1 ∧ e.1.hgt ≤ 20) : eqOk (.list (entsE st)) = true := by
  refine (fit_lst (n := 23) (m := 2 * (Wt 20 + 1)) (fun d hd => ?_) (Nat.le_refl _)).eqOk (by decide)
  simp only [entsE, List.mem_map, List.mem_reverse] at hd
  obtain ⟨e, he, rfl⟩ := hd
  obtain ⟨h1, h2⟩ := h e he
  refine (fit_tup (n := 22) (m := Wt 20) (k := 2) (fun x hx => ?_) (by simp)).mono (by omega) (by omega)
  simp at hx
  rcases hx with z | z <;> subst z
  · exact (fit_cd hb h1).mono (by omega) (Wt_mono h2)
  · exact fit_bool
theorem nin_any : pNotIn (.str "any") (.tuple [.str "not", .str "and", .str "or"]) = bl true := by kernel_rfl
theorem nin_new : pNotIn (.str "new") (.tuple [.str "not", .str "and", .str "or"]) = bl true := by kernel_rfl
theorem nin_it : pNotIn (.str "it") (.tuple [.str "not", .str "and", .str "or"]) = bl true := by kernel_rfl
theorem nin_empty : pNotIn (.str "empty") (.tuple [.str "not", .str "and", .str "or"]) = bl true := by kernel_rfl
theorem nin_same : pNotIn (.str "same") (.tuple [.str "not", .str "and", .str "or"]) = bl true := by kernel_rfl
theorem nin_not : pNotIn (.str "not") (.tuple [.str "not", .str "and", .str "or"]) = bl false := by kernel_rfl
theorem nin_and : pNotIn (.str "and") (.tuple [.str "not", .str "and", .str "or"]) = bl false := by kernel_rfl
theorem nin_or : pNotIn (.str "or") (.tuple [.str "not", .str "and", .str "or"]) = bl false := by kernel_rfl
theorem szOk2 : szOk 2 = true := by decide
theorem szOk1 : szOk 1 = true := by decide
theorem szOk0 : szOk 0 = true := by decide
theorem szOk3 : szOk 3 = true := by decide
theorem szOk4 : szOk 4 = true := by decide
theorem szOk_of {n : Nat} (h : n ≤ 1000000) : szOk n = true := decide_eq_true (by omega)
theorem cut1 {a : D} {r : List D} : cutD (a :: r) (some 1) none = r := by
  unfold cutD
  have h1 : HT.sIx (a :: r).length 0 (some 1) = 1 := by
    have := HT.sIx_nat (a :: r).length 0 1
    rw [show ((1 : Nat) : Int) = 1 from rfl] at this
    rw [this, List.length_cons]
    omega
  rw [h1, HT.sIx_none]
  simp
/-- the slots of does_hold -/
def dhS (ws bs : List Str) (vs : List (Option Str)) (c : D) (v : Str) (st : List (Cd × Bool)) (dn : List Bool) (a b e f : Option T) : Sl :=
  [some (.val (strsE ws)), some (.val (strsE bs)), some (.val (valsE vs)), some (.val c), some (.val (.str v)), some (.lst (entsE st)), some (.lst (boolsE dn)), a, b, e, f]
abbrev dhC : BV := bVal (k2 pNe (kX 5) (kLst aNil))
abbrev dhB : SV := (sCons (sUnp (gT [(gN 7), (gN 8)]) (kPopL 5))
    (sCons (sIf (bVal (k2 pNotIn (k2 pIx (kX 7) (kC (.int 0))) (kTup (aCons (kC (.str "not")) (aCons (kC (.str "and")) (aCons (kC (.str "or")) aNil)))))) (sCons (sDrop (kApp 6 (kCall (D_simple_holds).run (cV (kX 0) (cV (kX 1) (cV (kX 2) (cV (kX 7) (cV (kX 4) cNil))))))))
    sNil) (sCons (sIf (bNot (bVal (kX 8))) (sCons (sDrop (kApp 5 (kTup (aCons (kX 7) (aCons (kC (.bool true)) aNil)))))
    (sCons (sDrop (kExt 5 (kComp (iSeq (kSl (kX 7) (some (kC (.int 1))) none)) (gN 9) none (kTup (aCons (kX 9) (aCons (kC (.bool false)) aNil))) [9])))
    sNil)) (sCons (sIf (bVal (k2 pEq (k2 pIx (kX 7) (kC (.int 0))) (kC (.str "not")))) (sCons (sDrop (kApp 6 (kNot (kPopL 6))))
    sNil) (sCons (sPar [9, 10] (lCons (kPopL 6) (lCons (kPopL 6) lNil)))
    (sCons (sDrop (kApp 6 (kIf (bVal (k2 pEq (k2 pIx (kX 7) (kC (.int 0))) (kC (.str "and")))) (kAnd (kX 9) (kX 10)) (kOr (kX 9) (kX 10)))))
    sNil)))
    sNil))
    sNil))
    sNil))
/-- one turn -/
theorem dh_turn {ws bs : List Str} {vs : List (Option Str)} {c0 : D} {v : Str} {e : Cd × Bool} {st : List (Cd × Bool)} {dn : List Bool} {t7 t8 t9 t10 : Option T} {r : Bool} (w : WV bs vs) (hw : ∀ x ∈ ws, Sk x) (hv : Sk v)
    (hx : exec (holds ws bs vs v) (e :: st) dn = [r]) (hs : ∀ e' ∈ e :: st, WC bs e'.1 ∧ e'.1.hgt ≤ 20) (hm : wsum (e :: st) + dn.length ≤ 100000) :
    ∃ st' dn' a b c d, dhB (dhS ws bs vs c0 v (e :: st) dn t7 t8 t9 t10) = .ok (.nx, dhS ws bs vs c0 v st' dn' a b c d) ∧ exec (holds ws bs vs v) st' dn' = [r] ∧ (∀ e' ∈ st', WC bs e'.1 ∧ e'.1.hgt ≤ 20) ∧ wsum st' < wsum (e :: st) ∧ wsum st' + dn'.length ≤ wsum (e :: st) + dn.length := by
  obtain ⟨c, b⟩ := e
  obtain ⟨hc, hh⟩ := hs (c, b) (List.mem_cons_self ..)
  have hs' : ∀ e' ∈ st, WC bs e'.1 ∧ e'.1.hgt ≤ 20 := fun e' h => hs e' (List.mem_cons_of_mem _ h)
  have hlen := wsum_len st
  have hst : wsum st ≤ wsum ((c, b) :: st) := by cases b <;> simp only [wsum] <;> omega
  have last_st : ∀ x : D, (entsE st ++ [x])[st.length + 1 - 1]? = some x := fun x => by
    have : (entsE st).length = st.length := by simp [entsE]
    rw [← this]; exact last_app1
  have lenE : (entsE st).length = st.length := by simp [entsE]
  have lenB : (boolsE dn).length = dn.length := by simp [boolsE]
  have plain : c.plain → ∃ st' dn' a b1 c1 d1, dhB (dhS ws bs vs c0 v ((c, b) :: st) dn t7 t8 t9 t10) = .ok (.nx, dhS ws bs vs c0 v st' dn' a b1 c1 d1) ∧ exec (holds ws bs vs v) st' dn' = [r] ∧ (∀ e' ∈ st', WC bs e'.1 ∧ e'.1.hgt ≤ 20) ∧ wsum st' < wsum ((c, b) :: st) ∧ wsum st' + dn'.length ≤ wsum ((c, b) :: st) + dn.length := fun hp => by
    have e1 := simple_ok (v := v) w hw hv hc hp
    have hz : szOk (dn.length + 1) = true := szOk_of (by omega)
    refine ⟨st, holds ws bs vs v c :: dn, some (.val c.enc), some (.val (.bool b)), t9, t10, ?_, ?_, hs', ?_, ?_⟩
    · have nin : ∃ x r, c.enc = .tuple (.str x :: r) ∧ pNotIn (.str x) (.tuple [.str "not", .str "and", .str "or"]) = bl true := by
        cases c with
        | any => exact ⟨_, _, rfl, nin_any⟩
        | new => exact ⟨_, _, rfl, nin_new⟩
        | it t => exact ⟨_, _, rfl, nin_it⟩
        | empty x => exact ⟨_, _, rfl, nin_empty⟩
        | same x t => exact ⟨_, _, rfl, nin_same⟩
        | not _ => exact hp.elim
        | and _ _ => exact hp.elim
        | or _ _ => exact hp.elim
      obtain ⟨x, rr, ec, nin⟩ := nin
      rw [ec] at e1 ⊢
      simp only [run_mk, List.map_cons, List.map_nil, List.length_cons, List.length_nil, List.cons_append, List.nil_append, List.replicate_succ, List.replicate_zero, Nat.reduceAdd, Nat.reduceSub, List.getElem?_cons_zero, List.getElem?_cons_succ, List.set_cons_zero, List.set_cons_succ, R.bind_ok, sCons, sNil, sIf, sRet, retL, dropL, sSet, setL, sDrop, sUnp, sPar, lNil, lCons, kF, putL, gN, gT, gAll, kC, kX, kD, kG, kS, scl, k1, k2, L.get, L.take, T.toD, aNil, aCons, kTup, kLst, bVal, bAnd, bOr, bNot, kAnd, kOr, kNot, kIf, boolOf, kCall, cNil, cV, cMv, cPass, lend, back, resL, outs, endOf, srcAt, kSGet, kSLen, kInt, SF.get, SF.put, bl, nm, if_true, if_false, Bool.false_eq_true, Bool.not_true, Bool.not_false, dhB, dhS, kPopL, kApp, entsE_cons, entE, boolsE_cons, last_app, last_app1, List.length_append, List.dropLast_concat, ix0, nin, e1, hz, szOk3, lenB, ec]
    · cases c with
      | not _ => exact hp.elim
      | and _ _ => exact hp.elim
      | or _ _ => exact hp.elim
      | _ => cases b <;> simpa [exec] using hx
    · cases b <;> simp only [wsum] <;> have := c.sz_pos <;> omega
    · cases b <;> simp only [wsum, List.length_cons] <;> have := c.sz_pos <;> omega
  cases c with
  | any => exact plain trivial
  | new => exact plain trivial
  | it t => exact plain trivial
  | empty x => exact plain trivial
  | same x t => exact plain trivial
  | not c1 =>
    cases b with
    | false =>
      have hz : szOk (st.length + 1) = true := szOk_of (by omega)
      have hz2 : szOk (st.length + 1 + 1) = true := szOk_of (by omega)
      refine ⟨(c1, false) :: (.not c1, true) :: st, dn, some (.val (Cd.not c1).enc), some (.val (.bool false)), none, t10, ?_, ?_, ?_, ?_, ?_⟩
      · simp only [run_mk, List.map_cons, List.map_nil, List.length_cons, List.length_nil, List.cons_append, List.nil_append, List.replicate_succ, List.replicate_zero, Nat.reduceAdd, Nat.reduceSub, List.getElem?_cons_zero, List.getElem?_cons_succ, List.set_cons_zero, List.set_cons_succ, R.bind_ok, sCons, sNil, sIf, sRet, retL, dropL, sSet, setL, sDrop, sUnp, sPar, lNil, lCons, kF, putL, gN, gT, gAll, kC, kX, kD, kG, kS, scl, k1, k2, L.get, L.take, T.toD, aNil, aCons, kTup, kLst, bVal, bAnd, bOr, bNot, kAnd, kOr, kNot, kIf, boolOf, kCall, cNil, cV, cMv, cPass, lend, back, resL, outs, endOf, srcAt, kSGet, kSLen, kInt, SF.get, SF.put, bl, nm, if_true, if_false, Bool.false_eq_true, Bool.not_true, Bool.not_false, dhB, dhS, kPopL, kApp, kExt, kComp, iSeq, kSl, partOf, pSl, cut1, seqOf, compD_cons, compD, bOf, wipeD, entsE_cons, entE, last_st, List.length_append, List.dropLast_concat, ix0, nin_not, hz, hz2, szOk2, szOk1, szOk3, lenE, Cd.enc, List.append_assoc]
      · simpa [exec, holds] using hx
      · intro e' he
        rcases List.mem_cons.mp he with z | he
        · subst z; exact ⟨hc, by have hh2 : c1.hgt + 1 ≤ 20 := hh; show c1.hgt ≤ 20; omega⟩
        · rcases List.mem_cons.mp he with z | he
          · subst z; exact ⟨hc, hh⟩
          · exact hs' e' he
      · simp only [wsum, Cd.sz]; omega
      · simp only [wsum, Cd.sz]; omega
    | true =>
      cases dn with
      | nil => simp [exec] at hx
      | cons x dn =>
        have hz : szOk (dn.length + 1) = true := szOk_of (by simp only [List.length_cons] at hm; omega)
        have lenB2 : (boolsE dn).length = dn.length := by simp [boolsE]
        refine ⟨st, (!x) :: dn, some (.val (Cd.not c1).enc), some (.val (.bool true)), t9, t10, ?_, ?_, hs', ?_, ?_⟩
        · simp only [run_mk, List.map_cons, List.map_nil, List.length_cons, List.length_nil, List.cons_append, List.nil_append, List.replicate_succ, List.replicate_zero, Nat.reduceAdd, Nat.reduceSub, List.getElem?_cons_zero, List.getElem?_cons_succ, List.set_cons_zero, List.set_cons_succ, R.bind_ok, sCons, sNil, sIf, sRet, retL, dropL, sSet, setL, sDrop, sUnp, sPar, lNil, lCons, kF, putL, gN, gT, gAll, kC, kX, kD, kG, kS, scl, k1, k2, L.get, L.take, T.toD, aNil, aCons, kTup, kLst, bVal, bAnd, bOr, bNot, kAnd, kOr, kNot, kIf, boolOf, kCall, cNil, cV, cMv, cPass, lend, back, resL, outs, endOf, srcAt, kSGet, kSLen, kInt, SF.get, SF.put, bl, nm, if_true, if_false, Bool.false_eq_true, Bool.not_true, Bool.not_false, dhB, dhS, kPopL, kApp, entsE_cons, boolsE_cons, entE, last_app, List.dropLast_concat, ix0, nin_not, hz, szOk2, szOk1, szOk3, lenB2, Cd.enc, q_not_not]
        · simpa [exec] using hx
        · simp only [wsum]; omega
        · simp only [wsum, List.length_cons]; omega
  | and c1 c2 =>
    cases b with
    | false =>
      have hz : szOk (st.length + 1) = true := szOk_of (by omega)
      have hz2 : szOk (st.length + 1 + 2) = true := szOk_of (by omega)
      refine ⟨(c2, false) :: (c1, false) :: (.and c1 c2, true) :: st, dn, some (.val (Cd.and c1 c2).enc), some (.val (.bool false)), none, t10, ?_, ?_, ?_, ?_, ?_⟩
      · simp only [run_mk, List.map_cons, List.map_nil, List.length_cons, List.length_nil, List.cons_append, List.nil_append, List.replicate_succ, List.replicate_zero, Nat.reduceAdd, Nat.reduceSub, List.getElem?_cons_zero, List.getElem?_cons_succ, List.set_cons_zero, List.set_cons_succ, R.bind_ok, sCons, sNil, sIf, sRet, retL, dropL, sSet, setL, sDrop, sUnp, sPar, lNil, lCons, kF, putL, gN, gT, gAll, kC, kX, kD, kG, kS, scl, k1, k2, L.get, L.take, T.toD, aNil, aCons, kTup, kLst, bVal, bAnd, bOr, bNot, kAnd, kOr, kNot, kIf, boolOf, kCall, cNil, cV, cMv, cPass, lend, back, resL, outs, endOf, srcAt, kSGet, kSLen, kInt, SF.get, SF.put, bl, nm, if_true, if_false, Bool.false_eq_true, Bool.not_true, Bool.not_false, dhB, dhS, kPopL, kApp, kExt, kComp, iSeq, kSl, partOf, pSl, cut1, seqOf, compD_cons, compD, bOf, wipeD, entsE_cons, entE, last_st, List.length_append, List.dropLast_concat, ix0, nin_and, hz, hz2, szOk2, szOk1, szOk3, lenE, Cd.enc, List.append_assoc]
      · simpa [exec, holds] using hx
      · intro e' he
        have hh2 : max c1.hgt c2.hgt + 1 ≤ 20 := hh
        rcases List.mem_cons.mp he with z | he
        · subst z; exact ⟨hc.2, by show c2.hgt ≤ 20; omega⟩
        · rcases List.mem_cons.mp he with z | he
          · subst z; exact ⟨hc.1, by show c1.hgt ≤ 20; omega⟩
          · rcases List.mem_cons.mp he with z | he
            · subst z; exact ⟨hc, hh⟩
            · exact hs' e' he
      · simp only [wsum, Cd.sz]; omega
      · simp only [wsum, Cd.sz]; omega
    | true =>
      match dn, hx, hm with
      | [], hx, _ => simp [exec] at hx
      | [x], hx, _ => simp [exec] at hx
      | x :: y :: dn, hx, hm =>
        have hz : szOk (dn.length + 1) = true := szOk_of (by simp only [List.length_cons] at hm; omega)
        have lenB2 : (boolsE dn).length = dn.length := by simp [boolsE]
        refine ⟨st, (x && y) :: dn, some (.val (Cd.and c1 c2).enc), some (.val (.bool true)), some (.val (.bool x)), some (.val (.bool y)), ?_, ?_, hs', ?_, ?_⟩
        · cases x <;> simp only [run_mk, List.map_cons, List.map_nil, List.length_cons, List.length_nil, List.cons_append, List.nil_append, List.replicate_succ, List.replicate_zero, Nat.reduceAdd, Nat.reduceSub, List.getElem?_cons_zero, List.getElem?_cons_succ, List.set_cons_zero, List.set_cons_succ, R.bind_ok, sCons, sNil, sIf, sRet, retL, dropL, sSet, setL, sDrop, sUnp, sPar, lNil, lCons, kF, putL, gN, gT, gAll, kC, kX, kD, kG, kS, scl, k1, k2, L.get, L.take, T.toD, aNil, aCons, kTup, kLst, bVal, bAnd, bOr, bNot, kAnd, kOr, kNot, kIf, boolOf, kCall, cNil, cV, cMv, cPass, lend, back, resL, outs, endOf, srcAt, kSGet, kSLen, kInt, SF.get, SF.put, bl, nm, if_true, if_false, Bool.false_eq_true, Bool.not_true, Bool.not_false, dhB, dhS, kPopL, kApp, entsE_cons, boolsE_cons, entE, last_app, List.dropLast_concat, ix0, nin_and, hz, szOk2, szOk1, szOk3, lenB2, Cd.enc, q_and_not, q_and_and, Bool.true_and, Bool.false_and, R.bind_assoc]
        · simpa [exec] using hx
        · simp only [wsum]; omega
        · simp only [wsum, List.length_cons]; omega
  | or c1 c2 =>
    cases b with
    | false =>
      have hz : szOk (st.length + 1) = true := szOk_of (by omega)
      have hz2 : szOk (st.length + 1 + 2) = true := szOk_of (by omega)
      refine ⟨(c2, false) :: (c1, false) :: (.or c1 c2, true) :: st, dn, some (.val (Cd.or c1 c2).enc), some (.val (.bool false)), none, t10, ?_, ?_, ?_, ?_, ?_⟩
      · simp only [run_mk, List.map_cons, List.map_nil, List.length_cons, List.length_nil, List.cons_append, List.nil_append, List.replicate_succ, List.replicate_zero, Nat.reduceAdd, Nat.reduceSub, List.getElem?_cons_zero, List.getElem?_cons_succ, List.set_cons_zero, List.set_cons_succ, R.bind_ok, sCons, sNil, sIf, sRet, retL, dropL, sSet, setL, sDrop, sUnp, sPar, lNil, lCons, kF, putL, gN, gT, gAll, kC, kX, kD, kG, kS, scl, k1, k2, L.get, L.take, T.toD, aNil, aCons, kTup, kLst, bVal, bAnd, bOr, bNot, kAnd, kOr, kNot, kIf, boolOf, kCall, cNil, cV, cMv, cPass, lend, back, resL, outs, endOf, srcAt, kSGet, kSLen, kInt, SF.get, SF.put, bl, nm, if_true, if_false, Bool.false_eq_true, Bool.not_true, Bool.not_false, dhB, dhS, kPopL, kApp, kExt, kComp, iSeq, kSl, partOf, pSl, cut1, seqOf, compD_cons, compD, bOf, wipeD, entsE_cons, entE, last_st, List.length_append, List.dropLast_concat, ix0, nin_or, hz, hz2, szOk2, szOk1, szOk3, lenE, Cd.enc, List.append_assoc]
      · simpa [exec, holds] using hx
      · intro e' he
        have hh2 : max c1.hgt c2.hgt + 1 ≤ 20 := hh
        rcases List.mem_cons.mp he with z | he
        · subst z; exact ⟨hc.2, by show c2.hgt ≤ 20; omega⟩
        · rcases List.mem_cons.mp he with z | he
          · subst z; exact ⟨hc.1, by show c1.hgt ≤ 20; omega⟩
          · rcases List.mem_cons.mp he with z | he
            · subst z; exact ⟨hc, hh⟩
            · exact hs' e' he
      · simp only [wsum, Cd.sz]; omega
      · simp only [wsum, Cd.sz]; omega
    | true =>
      match dn, hx, hm with
      | [], hx, _ => simp [exec] at hx
      | [x], hx, _ => simp [exec] at hx
      | x :: y :: dn, hx, hm =>
        have hz : szOk (dn.length + 1) = true := szOk_of (by simp only [List.length_cons] at hm; omega)
        have lenB2 : (boolsE dn).length = dn.length := by simp [boolsE]
        refine ⟨st, (x || y) :: dn, some (.val (Cd.or c1 c2).enc), some (.val (.bool true)), some (.val (.bool x)), some (.val (.bool y)), ?_, ?_, hs', ?_, ?_⟩
        · cases x <;> simp only [run_mk, List.map_cons, List.map_nil, List.length_cons, List.length_nil, List.cons_append, List.nil_append, List.replicate_succ, List.replicate_zero, Nat.reduceAdd, Nat.reduceSub, List.getElem?_cons_zero, List.getElem?_cons_succ, List.set_cons_zero, List.set_cons_succ, R.bind_ok, sCons, sNil, sIf, sRet, retL, dropL, sSet, setL, sDrop, sUnp, sPar, lNil, lCons, kF, putL, gN, gT, gAll, kC, kX, kD, kG, kS, scl, k1, k2, L.get, L.take, T.toD, aNil, aCons, kTup, kLst, bVal, bAnd, bOr, bNot, kAnd, kOr, kNot, kIf, boolOf, kCall, cNil, cV, cMv, cPass, lend, back, resL, outs, endOf, srcAt, kSGet, kSLen, kInt, SF.get, SF.put, bl, nm, if_true, if_false, Bool.false_eq_true, Bool.not_true, Bool.not_false, dhB, dhS, kPopL, kApp, entsE_cons, boolsE_cons, entE, last_app, List.dropLast_concat, ix0, nin_or, hz, szOk2, szOk1, szOk3, lenB2, Cd.enc, q_or_not, q_or_and, Bool.true_or, Bool.false_or, R.bind_assoc]
        · simpa [exec] using hx
        · simp only [wsum]; omega
        · simp only [wsum, List.length_cons]; omega
theorem hold_ok {ws bs : List Str} {vs : List (Option Str)} {c : Cd} {v : Str} (w : WV bs vs) (hw : ∀ x ∈ ws, Sk x) (hv : Sk v) (wc : WC bs c) (hh : c.hgt ≤ 20) (hs : c.sz ≤ 1000) :
    D_does_hold.run [.val (strsE ws), .val (strsE bs), .val (valsE vs), .val c.enc, .val (.str v)] = .ok (.val (.bool (holds ws bs vs v c)), []) := by
  have hw2 := while_inv (c := dhC) (b := dhB)
    (fun m s => ∃ st dn a b e f, s = dhS ws bs vs c.enc v st dn a b e f ∧ exec (holds ws bs vs v) st dn = [holds ws bs vs v c] ∧ (∀ e' ∈ st, WC bs e'.1 ∧ e'.1.hgt ≤ 20) ∧ wsum st = m ∧ wsum st + dn.length ≤ 2000)
    (fun s => ∃ a b e f, s = dhS ws bs vs c.enc v [] [holds ws bs vs v c] a b e f)
    (fun m s ⟨st, dn, a, b, e, f, h1, h2, h3, h4, h5⟩ => by
      subst h1
      have hn := pNe_nil (eqOk_ents w.bok h3)
      cases st with
      | nil =>
        have e2 : dn = [holds ws bs vs v c] := h2
        subst e2
        refine R.W_of (a := (false, _)) (by simp only [run_mk, List.map_cons, List.map_nil, List.length_cons, List.length_nil, List.cons_append, List.nil_append, List.replicate_succ, List.replicate_zero, Nat.reduceAdd, Nat.reduceSub, List.getElem?_cons_zero, List.getElem?_cons_succ, List.set_cons_zero, List.set_cons_succ, R.bind_ok, sCons, sNil, sIf, sRet, retL, dropL, sSet, setL, sDrop, sUnp, sPar, lNil, lCons, kF, putL, gN, gT, gAll, kC, kX, kD, kG, kS, scl, k1, k2, L.get, L.take, T.toD, aNil, aCons, kTup, kLst, bVal, bAnd, bOr, bNot, kAnd, kOr, kNot, kIf, boolOf, kCall, cNil, cV, cMv, cPass, lend, back, resL, outs, endOf, srcAt, kSGet, kSLen, kInt, SF.get, SF.put, bl, nm, if_true, if_false, Bool.false_eq_true, Bool.not_true, Bool.not_false, dhC, dhS, hn, szOk0]; rfl) ?_
        exact ⟨a, b, e, f, rfl⟩
      | cons e1 st =>
        obtain ⟨st', dn', a', b', c', d', t1, t2, t3, t4, t5⟩ := dh_turn (c0 := c.enc) (t7 := a) (t8 := b) (t9 := e) (t10 := f) w hw hv h2 h3 (by omega)
        refine R.W_of (a := (true, dhS ws bs vs c.enc v (e1 :: st) dn a b e f)) (by
          have he : (entsE (e1 :: st)).isEmpty = false := by rw [entsE_cons]; simp
          rw [he] at hn
          simp only [run_mk, List.map_cons, List.map_nil, List.length_cons, List.length_nil, List.cons_append, List.nil_append, List.replicate_succ, List.replicate_zero, Nat.reduceAdd, Nat.reduceSub, List.getElem?_cons_zero, List.getElem?_cons_succ, List.set_cons_zero, List.set_cons_succ, R.bind_ok, sCons, sNil, sIf, sRet, retL, dropL, sSet, setL, sDrop, sUnp, sPar, lNil, lCons, kF, putL, gN, gT, gAll, kC, kX, kD, kG, kS, scl, k1, k2, L.get, L.take, T.toD, aNil, aCons, kTup, kLst, bVal, bAnd, bOr, bNot, kAnd, kOr, kNot, kIf, boolOf, kCall, cNil, cV, cMv, cPass, lend, back, resL, outs, endOf, srcAt, kSGet, kSLen, kInt, SF.get, SF.put, bl, nm, if_true, if_false, Bool.false_eq_true, Bool.not_true, Bool.not_false, dhC, dhS, hn, szOk0]) ?_
        rw [if_pos rfl]
        exact R.W_of t1 ⟨.inl rfl, wsum st', by omega, st', dn', a', b', c', d', rfl, t2, t3, rfl, by omega⟩)
    (n := fuel) (m := 2 * c.sz) (s := dhS ws bs vs c.enc v [(c, false)] [] none none none none)
    ⟨[(c, false)], [], none, none, none, none, rfl, rfl, fun e' h => by simp at h; subst h; exact ⟨wc, hh⟩, by simp [wsum], by simp [wsum]; omega⟩ (by show _ < 1000000; omega)
  obtain ⟨⟨fl, s1⟩, e1, e2, a, b, e, f, e3⟩ := R.W_get hw2
  simp only at e2 e3
  subst e2 e3
  have ix : pIx (.list [.bool (holds ws bs vs v c)]) (.int 0) = .ok (.d (.bool (holds ws bs vs v c))) := rfl
  simp only [dhS, entsE, boolsE, entE, List.reverse_cons, List.reverse_nil, List.nil_append, List.map_cons, List.map_nil] at e1
  simp only [run_mk, List.map_cons, List.map_nil, List.length_cons, List.length_nil, List.cons_append, List.nil_append, List.replicate_succ, List.replicate_zero, Nat.reduceAdd, Nat.reduceSub, List.getElem?_cons_zero, List.getElem?_cons_succ, List.set_cons_zero, List.set_cons_succ, R.bind_ok, sCons, sNil, sIf, sRet, retL, dropL, sSet, setL, sDrop, sUnp, sPar, lNil, lCons, kF, putL, gN, gT, gAll, kC, kX, kD, kG, kS, scl, k1, k2, L.get, L.take, T.toD, aNil, aCons, kTup, kLst, bVal, bAnd, bOr, bNot, kAnd, kOr, kNot, kIf, boolOf, kCall, cNil, cV, cMv, cPass, lend, back, resL, outs, endOf, srcAt, kSGet, kSLen, kInt, SF.get, SF.put, bl, nm, if_true, if_false, Bool.false_eq_true, Bool.not_true, Bool.not_false, D_does_hold, sWhile, e1, szOk2, szOk1, szOk0, ix]
end K07

set_option Elab.async false
set_option linter.all false
set_option maxRecDepth 100000
set_option maxHeartbeats 4000000
set_option pp.maxSteps 600
namespace K07
open PySem KV
/-! ### the law's own conditions -/
theorem pEq_sk {x y : Str} (h : Sk x) (h' : Sk y) : pEq (.str x) (.str y) = bl (decide (x = y)) := by rw [pEq_of (eqOk_sk h) (eqOk_sk h'), eqv_str]
def rulesE (m : Md) : D := .tuple (m.rules.map ruleE)
theorem rules_ok {p : Pg} {m : Str} {md : Md} (hm : Sk m) (hn : ∀ x ∈ p.modes, Sk x.name) (hl : p.modes.length ≤ 1000) (hf : p.modes.find? (fun x => decide (x.name = m)) = some md) :
    D_rules_of.run [.val p.enc, .val (.str m)] = .ok (.val (rulesE md), []) := by
  have hc := comp_map (g := gT [gN 2, gN 3, gN 4]) (c := some (bVal (k2 pEq (kX 2) (kX 1)))) (f := kX 4) (own := [2, 3, 4]) (s := [some (.val p.enc), some (.val (.str m)), none, none, none]) Md.enc
    (fun x => [some (.val p.enc), some (.val (.str m)), some (.val (.str x.name)), some (.val (.bool x.yes)), some (.val (rulesE x))]) (fun x => decide (x.name = m)) rulesE rfl (xs := p.modes) (fun x hx => by
      refine ⟨rfl, rfl, ?_, fun _ => ?_⟩
      · simp only [run_mk, List.map_cons, List.map_nil, List.length_cons, List.length_nil, List.cons_append, List.nil_append, List.replicate_succ, List.replicate_zero, Nat.reduceAdd, Nat.reduceSub, List.getElem?_cons_zero, List.getElem?_cons_succ, List.set_cons_zero, List.set_cons_succ, R.bind_ok, sCons, sNil, sIf, sRet, retL, dropL, sSet, setL, sDrop, sUnp, sPar, lNil, lCons, kF, putL, gN, gT, gAll, kC, kX, kD, kG, kS, scl, k1, k2, L.get, L.take, T.toD, aNil, aCons, kTup, kLst, bVal, bAnd, bOr, bNot, kAnd, kOr, kNot, kIf, boolOf, kCall, cNil, cV, cMv, cPass, lend, back, resL, outs, endOf, srcAt, kSGet, kSLen, kInt, SF.get, SF.put, bl, nm, if_true, if_false, Bool.false_eq_true, Bool.not_true, Bool.not_false, bOf, pEq_sk (hn x hx) hm]
      · simp only [run_mk, List.map_cons, List.map_nil, List.length_cons, List.length_nil, List.cons_append, List.nil_append, List.replicate_succ, List.replicate_zero, Nat.reduceAdd, Nat.reduceSub, List.getElem?_cons_zero, List.getElem?_cons_succ, List.set_cons_zero, List.set_cons_succ, R.bind_ok, sCons, sNil, sIf, sRet, retL, dropL, sSet, setL, sDrop, sUnp, sPar, lNil, lCons, kF, putL, gN, gT, gAll, kC, kX, kD, kG, kS, scl, k1, k2, L.get, L.take, T.toD, aNil, aCons, kTup, kLst, bVal, bAnd, bOr, bNot, kAnd, kOr, kNot, kIf, boolOf, kCall, cNil, cV, cMv, cPass, lend, back, resL, outs, endOf, srcAt, kSGet, kSLen, kInt, SF.get, SF.put, bl, nm, if_true, if_false, Bool.false_eq_true, Bool.not_true, Bool.not_false])
  have hz : szOk ((p.modes.filter fun x => decide (x.name = m)).map rulesE).length = true := szOk_of (by
    rw [List.length_map]
    exact Nat.le_trans (List.length_filter_le _ _) (by omega))
  obtain ⟨r, hr⟩ : ∃ r, (p.modes.filter fun x => decide (x.name = m)) = md :: r := by
    rw [← List.head?_filter] at hf
    cases e : p.modes.filter fun x => decide (x.name = m) with
    | nil => rw [e] at hf; cases hf
    | cons y r => rw [e] at hf; cases hf; exact ⟨r, rfl⟩
  have ix : ∀ (a : D) (r : List D), pIx (.list (a :: r)) (.int 0) = .ok (.d a) := fun a r => by
    have := ixD_nat (n := (a :: r).length) (r := 0) (by simp)
    simp only [pIx]
    rw [show ixD (a :: r).length 0 = some 0 from this]
    rfl
  rw [hr, List.map_cons] at hc hz
  unfold Pg.enc at hc ⊢
  simp only [run_mk, List.map_cons, List.map_nil, List.length_cons, List.length_nil, List.cons_append, List.nil_append, List.replicate_succ, List.replicate_zero, Nat.reduceAdd, Nat.reduceSub, List.getElem?_cons_zero, List.getElem?_cons_succ, List.set_cons_zero, List.set_cons_succ, R.bind_ok, sCons, sNil, sIf, sRet, retL, dropL, sSet, setL, sDrop, sUnp, sPar, lNil, lCons, kF, putL, gN, gT, gAll, kC, kX, kD, kG, kS, scl, k1, k2, L.get, L.take, T.toD, aNil, aCons, kTup, kLst, bVal, bAnd, bOr, bNot, kAnd, kOr, kNot, kIf, boolOf, kCall, cNil, cV, cMv, cPass, lend, back, resL, outs, endOf, srcAt, kSGet, kSLen, kInt, SF.get, SF.put, bl, nm, if_true, if_false, Bool.false_eq_true, Bool.not_true, Bool.not_false, D_rules_of, kComp, iSeq, seqOf, ix3, hc, hz, ix] at hz ⊢
/-! ### the first rule that holds -/
def firstIx (h : Cd → Bool) : List (Cd × List Ac) → Option Nat
  | [] => none
  | r :: rs => if h r.1 then some 0 else (firstIx h rs).map (· + 1)
def rdS (ws : List Str) (p st : D) (v m : Str) (vs : List (Option Str)) (a b c : Option T) : Sl :=
  [some (.val (strsE ws)), some (.val p), some (.val st), some (.val (.str v)), some (.val (.str m)), some (.val (valsE vs)), a, b, c]
abbrev rdB : SV := (sCons (sIf (bVal (kCall (D_does_hold).run (cV (kX 0) (cV (k2 pIx (kX 1) (kC (.int 2))) (cV (kX 5) (cV (kX 7) (cV (kX 3) cNil))))))) (sCons (sRet (kX 6)) sNil) sNil) sNil)
theorem rd_for {ws : List Str} {p : Pg} {st : D} {v m : Str} {vs : List (Option Str)} (w : WV p.boxes vs) (hw : ∀ x ∈ ws, Sk x) (hv : Sk v) : ∀ {rs : List (Cd × List Ac)} {k : Nat} {a b c : Option T}, (∀ r ∈ rs, WC p.boxes r.1 ∧ r.1.hgt ≤ 20 ∧ r.1.sz ≤ 1000) →
    ∃ fl a' b' c', forD (gT [gN 6, gT [gN 7, gN 8]]) rdB (enumD k (rs.map ruleE)) (rdS ws p.enc st v m vs a b c) = .ok (fl, rdS ws p.enc st v m vs a' b' c') ∧
      fl = (match firstIx (holds ws p.boxes vs v) rs with | some j => .rt (.val (.int ((k + j : Nat) : Int))) | none => .nx)
  | [], k, a, b, c, _ => ⟨.nx, a, b, c, rfl, rfl⟩
  | r :: rs, k, a, b, c, h => by
    obtain ⟨h1, h2, h3⟩ := h r (List.mem_cons_self ..)
    have e := hold_ok (v := v) w hw hv h1 h2 h3
    have ix : pIx p.enc (.int 2) = .ok (.d (strsE p.boxes)) := ix2
    rw [List.map_cons, enumD]
    unfold forD
    cases hb : holds ws p.boxes vs v r.1 with
    | true =>
      refine ⟨.rt (.val (.int (k : Nat))), some (.val (.int (k : Nat))), some (.val r.1.enc), some (.val (.tuple (r.2.map Ac.enc))), ?_, ?_⟩
      · rw [hb] at e
        simp only [run_mk, List.map_cons, List.map_nil, List.length_cons, List.length_nil, List.cons_append, List.nil_append, List.replicate_succ, List.replicate_zero, Nat.reduceAdd, Nat.reduceSub, List.getElem?_cons_zero, List.getElem?_cons_succ, List.set_cons_zero, List.set_cons_succ, R.bind_ok, sCons, sNil, sIf, sRet, retL, dropL, sSet, setL, sDrop, sUnp, sPar, lNil, lCons, kF, putL, gN, gT, gAll, kC, kX, kD, kG, kS, scl, k1, k2, L.get, L.take, T.toD, aNil, aCons, kTup, kLst, bVal, bAnd, bOr, bNot, kAnd, kOr, kNot, kIf, boolOf, kCall, cNil, cV, cMv, cPass, lend, back, resL, outs, endOf, srcAt, kSGet, kSLen, kInt, SF.get, SF.put, bl, nm, if_true, if_false, Bool.false_eq_true, Bool.not_true, Bool.not_false, rdB, rdS, ruleE, ix, e]
      · simp [firstIx, hb]
    | false =>
      obtain ⟨fl, a', b', c', e1, e2⟩ := rd_for w hw hv (st := st) (m := m) (rs := rs) (k := k + 1) (a := some (.val (.int (k : Nat)))) (b := some (.val r.1.enc)) (c := some (.val (.tuple (r.2.map Ac.enc)))) fun r' hr => h r' (List.mem_cons_of_mem _ hr)
      refine ⟨fl, a', b', c', ?_, ?_⟩
      · rw [hb] at e
        simp only [rdS] at e1
        simp only [run_mk, List.map_cons, List.map_nil, List.length_cons, List.length_nil, List.cons_append, List.nil_append, List.replicate_succ, List.replicate_zero, Nat.reduceAdd, Nat.reduceSub, List.getElem?_cons_zero, List.getElem?_cons_succ, List.set_cons_zero, List.set_cons_succ, R.bind_ok, sCons, sNil, sIf, sRet, retL, dropL, sSet, setL, sDrop, sUnp, sPar, lNil, lCons, kF, putL, gN, gT, gAll, kC, kX, kD, kG, kS, scl, k1, k2, L.get, L.take, T.toD, aNil, aCons, kTup, kLst, bVal, bAnd, bOr, bNot, kAnd, kOr, kNot, kIf, boolOf, kCall, cNil, cV, cMv, cPass, lend, back, resL, outs, endOf, srcAt, kSGet, kSLen, kInt, SF.get, SF.put, bl, nm, if_true, if_false, Bool.false_eq_true, Bool.not_true, Bool.not_false, rdB, rdS, ruleE, ix, e, e1]
      · rw [e2]
        simp only [firstIx, hb, Bool.false_eq_true, if_false]
        cases firstIx (holds ws p.boxes vs v) rs with
        | none => rfl
        | some j => simp only [Option.map_some]; rw [show k + 1 + j = k + (j + 1) by omega]
/-- a program that may be run -/
structure WP (p : Pg) : Prop where
  bok : ∀ b ∈ p.boxes, Sk b
  mok : ∀ x ∈ p.modes, Sk x.name
  few : p.modes.length ≤ 1000
  fewB : p.boxes.length ≤ 1000
  rls : ∀ x ∈ p.modes, x.rules.length ≤ 1000 ∧ ∀ r ∈ x.rules, WC p.boxes r.1 ∧ r.1.hgt ≤ 20 ∧ r.1.sz ≤ 1000
def natO : Option Nat → D
  | none => .none
  | some j => .int (j : Nat)
theorem done_ok {ws : List Str} {p : Pg} {m v : Str} {vs : List (Option Str)} {md : Md} (wp : WP p) (w : WV p.boxes vs) (hw : ∀ x ∈ ws, Sk x) (hv : Sk v) (hm : Sk m) (hf : p.modes.find? (fun x => decide (x.name = m)) = some md) :
    D_rule_done.run [.val (strsE ws), .val p.enc, .val (stE (m, vs)), .val (.str v)] = .ok (.val (natO (firstIx (holds ws p.boxes vs v) md.rules)), []) := by
  have hr := rules_ok hm wp.mok wp.few hf
  have hmd : md ∈ p.modes := List.mem_of_find?_eq_some hf
  obtain ⟨fl, a, b, c, e1, e2⟩ := rd_for (st := stE (m, vs)) (m := m) w hw hv (k := 0) (a := none) (b := none) (c := none) (wp.rls md hmd).2
  simp only [rdS, stE] at e1
  simp only [run_mk, List.map_cons, List.map_nil, List.length_cons, List.length_nil, List.cons_append, List.nil_append, List.replicate_succ, List.replicate_zero, Nat.reduceAdd, Nat.reduceSub, List.getElem?_cons_zero, List.getElem?_cons_succ, List.set_cons_zero, List.set_cons_succ, R.bind_ok, sCons, sNil, sIf, sRet, retL, dropL, sSet, setL, sDrop, sUnp, sPar, lNil, lCons, kF, putL, gN, gT, gAll, kC, kX, kD, kG, kS, scl, k1, k2, L.get, L.take, T.toD, aNil, aCons, kTup, kLst, bVal, bAnd, bOr, bNot, kAnd, kOr, kNot, kIf, boolOf, kCall, cNil, cV, cMv, cPass, lend, back, resL, outs, endOf, srcAt, kSGet, kSLen, kInt, SF.get, SF.put, bl, nm, if_true, if_false, Bool.false_eq_true, Bool.not_true, Bool.not_false, D_rule_done, stE, sFor, iEnum, iSeq, seqOf, hr, rulesE, e1]
  rw [e2]
  cases firstIx (holds ws p.boxes vs v) md.rules with
  | none => simp only [run_mk, List.map_cons, List.map_nil, List.length_cons, List.length_nil, List.cons_append, List.nil_append, List.replicate_succ, List.replicate_zero, Nat.reduceAdd, Nat.reduceSub, List.getElem?_cons_zero, List.getElem?_cons_succ, List.set_cons_zero, List.set_cons_succ, R.bind_ok, sCons, sNil, sIf, sRet, retL, dropL, sSet, setL, sDrop, sUnp, sPar, lNil, lCons, kF, putL, gN, gT, gAll, kC, kX, kD, kG, kS, scl, k1, k2, L.get, L.take, T.toD, aNil, aCons, kTup, kLst, bVal, bAnd, bOr, bNot, kAnd, kOr, kNot, kIf, boolOf, kCall, cNil, cV, cMv, cPass, lend, back, resL, outs, endOf, srcAt, kSGet, kSLen, kInt, SF.get, SF.put, bl, nm, if_true, if_false, Bool.false_eq_true, Bool.not_true, Bool.not_false, natO]
  | some j => simp only [run_mk, List.map_cons, List.map_nil, List.length_cons, List.length_nil, List.cons_append, List.nil_append, List.replicate_succ, List.replicate_zero, Nat.reduceAdd, Nat.reduceSub, List.getElem?_cons_zero, List.getElem?_cons_succ, List.set_cons_zero, List.set_cons_succ, R.bind_ok, sCons, sNil, sIf, sRet, retL, dropL, sSet, setL, sDrop, sUnp, sPar, lNil, lCons, kF, putL, gN, gT, gAll, kC, kX, kD, kG, kS, scl, k1, k2, L.get, L.take, T.toD, aNil, aCons, kTup, kLst, bVal, bAnd, bOr, bNot, kAnd, kOr, kNot, kIf, boolOf, kCall, cNil, cV, cMv, cPass, lend, back, resL, outs, endOf, srcAt, kSGet, kSLen, kInt, SF.get, SF.put, bl, nm, if_true, if_false, Bool.false_eq_true, Bool.not_true, Bool.not_false, natO, Nat.zero_add]
end K07

set_option Elab.async false
set_option linter.all false
set_option maxRecDepth 100000
set_option maxHeartbeats 4000000
set_option pp.maxSteps 600
namespace K07
open PySem KV
/-! ### acts -/
def setB : List Str → List (Option Str) → Str → Option Str → List (Option Str)
  | b :: bs, v :: vs, c, x => if b = c then x :: vs else v :: setB bs vs c x
  | _, vs, _, _ => vs
abbrev Acc := List (Option Str) × List (Option Str) × Str
def actStep (bs : List Str) (vs : List (Option Str)) (v : Str) (a : Acc) : Ac → Acc
  | .tell t => (a.1 ++ [worth bs vs t v], a.2.1, a.2.2)
  | .put t b => (a.1, setB bs a.2.1 b (worth bs vs t v), a.2.2)
  | .drop b => (a.1, setB bs a.2.1 b none, a.2.2)
  | .go m => (a.1, a.2.1, m)
def WA (bs : List Str) : Ac → Prop
  | .tell t => WT bs t
  | .put t b => WT bs t ∧ b ∈ bs
  | .drop b => b ∈ bs
  | .go m => Sk m
theorem setB_len : ∀ {bs : List Str} {vs : List (Option Str)} {c : Str} {x : Option Str}, (setB bs vs c x).length = vs.length
  | [], vs, _, _ => by cases vs <;> rfl
  | _ :: _, [], _, _ => rfl
  | b :: bs, v :: vs, c, x => by
    unfold setB
    split
    · rfl
    · rw [List.length_cons, List.length_cons, setB_len]
theorem set_box : ∀ {bs : List Str} {vs : List (Option Str)} {b : Str} {x : Option Str}, b ∈ bs → vs.length = bs.length → ∃ j : Nat, firstAt (.str b) (bs.map PyData.str) = some j ∧ (vs.map optE).set j (optE x) = (setB bs vs b x).map optE ∧ j < bs.length
  | [], _, b, _, h, _ => nomatch h
  | c :: bs, [], b, _, _, h => by simp at h
  | c :: bs, v :: vs, b, x, h, hl => by
    by_cases e : c = b
    · subst e
      exact ⟨0, by simp [firstAt, eqv_str_self], by simp [setB], by simp⟩
    · have hb : b ∈ bs := by
        rcases List.mem_cons.mp h with z | z
        · exact (e z.symm).elim
        · exact z
      obtain ⟨j, h1, h2, h3⟩ := set_box (bs := bs) (vs := vs) (x := x) hb (by simpa using hl)
      exact ⟨j + 1, by simp [firstAt, eqv_str, e, h1], by simpa [setB, e] using h2, by simp [h3]⟩
theorem put_box {bs : List Str} {vs : List (Option Str)} {b : Str} {x : Option Str} (hk : ∀ b ∈ bs, Sk b) (h : b ∈ bs) (hl : vs.length = bs.length) : ∃ j : Nat, pIndex (strsE bs) (.str b) = nm j ∧ ixD (vs.map optE).length (j : Int) = some j ∧ (vs.map optE).set j (optE x) = (setB bs vs b x).map optE := by
  obtain ⟨j, h1, h2, h3⟩ := set_box (x := x) h hl
  refine ⟨j, ?_, ixD_nat (by rw [List.length_map, hl]; exact h3), h2⟩
  unfold strsE pIndex
  simp only [eqOk_sk (hk b h), show eqOk (.tuple (bs.map PyData.str)) = true from eqOk_strs hk, Bool.and_self, if_true, h1]
def psS (ws : List Str) (p st : D) (v : Str) (nr : D) (bs : List Str) (m : Str) (vs : List (Option Str)) (a : Acc) (t : Option T) : Sl :=
  [some (.val (strsE ws)), some (.val p), some (.val st), some (.val (.str v)), some (.val nr), some (.val (strsE bs)), some (.val (.str m)), some (.val (valsE vs)), some (.lst (a.1.map optE)), some (.lst (a.2.1.map optE)), some (.val (.str a.2.2)), t, none]
abbrev psB : SV := (sCons (sIf (bVal (k2 pEq (k2 pIx (kX 11) (kC (.int 0))) (kC (.str "tell")))) (sCons (sDrop (kApp 8 (kCall (D_thing_value).run (cV (kX 5) (cV (kX 7) (cV (k2 pIx (kX 11) (kC (.int 1))) (cV (kX 3) cNil)))))))
    sNil) (sCons (sIf (bVal (k2 pEq (k2 pIx (kX 11) (kC (.int 0))) (kC (.str "put")))) (sCons (sPt 9 (kIndex (kX 5) (k2 pIx (kX 11) (kC (.int 2)))) (kCall (D_thing_value).run (cV (kX 5) (cV (kX 7) (cV (k2 pIx (kX 11) (kC (.int 1))) (cV (kX 3) cNil))))))
    sNil) (sCons (sIf (bVal (k2 pEq (k2 pIx (kX 11) (kC (.int 0))) (kC (.str "drop")))) (sCons (sPt 9 (kIndex (kX 5) (k2 pIx (kX 11) (kC (.int 1)))) (kC .none))
    sNil) (sCons (sSet 10 (k2 pIx (kX 11) (kC (.int 1))))
    sNil))
    sNil))
    sNil))
    sNil)
theorem ps_turn {ws bs : List Str} {p st nr : D} {v m : Str} {vs : List (Option Str)} {a : Acc} {t : Option T} {ac : Ac} (w : WV bs vs) (wa : WA bs ac) (hl : a.2.1.length = bs.length) (hm : a.1.length ≤ 100000) :
    ∃ t', (gN 11 ac.enc (psS ws p st v nr bs m vs a t)).bind psB = .ok (.nx, psS ws p st v nr bs m vs (actStep bs vs v a ac) t') := by
  have hz : szOk ((a.1.map optE).length + 1) = true := szOk_of (by rw [List.length_map]; omega)
  refine ⟨some (.val ac.enc), ?_⟩
  cases ac with
  | tell t =>
    have e := thing_ok (v := v) w wa
    simp only [run_mk, List.map_cons, List.map_nil, List.length_cons, List.length_nil, List.cons_append, List.nil_append, List.replicate_succ, List.replicate_zero, Nat.reduceAdd, Nat.reduceSub, List.getElem?_cons_zero, List.getElem?_cons_succ, List.set_cons_zero, List.set_cons_succ, R.bind_ok, sCons, sNil, sIf, sRet, retL, dropL, sSet, setL, sDrop, sUnp, sPar, lNil, lCons, kF, putL, gN, gT, gAll, kC, kX, kD, kG, kS, scl, k1, k2, L.get, L.take, T.toD, aNil, aCons, kTup, kLst, bVal, bAnd, bOr, bNot, kAnd, kOr, kNot, kIf, boolOf, kCall, cNil, cV, cMv, cPass, lend, back, resL, outs, endOf, srcAt, kSGet, kSLen, kInt, SF.get, SF.put, bl, nm, if_true, if_false, Bool.false_eq_true, Bool.not_true, Bool.not_false, psB, psS, Ac.enc, ix0, ix1, q_it_it, q_it_box, q_it_word, q_it_any, q_it_new, q_it_empty, q_it_same, q_it_not, q_it_and, q_it_or, q_it_tell, q_it_put, q_it_drop, q_it_go, q_it_then, q_it_run, q_it_program, q_it_pipe, q_it_promise, q_box_it, q_box_box, q_box_word, q_box_any, q_box_new, q_box_empty, q_box_same, q_box_not, q_box_and, q_box_or, q_box_tell, q_box_put, q_box_drop, q_box_go, q_box_then, q_box_run, q_box_program, q_box_pipe, q_box_promise, q_word_it, q_word_box, q_word_word, q_word_any, q_word_new, q_word_empty, q_word_same, q_word_not, q_word_and, q_word_or, q_word_tell, q_word_put, q_word_drop, q_word_go, q_word_then, q_word_run, q_word_program, q_word_pipe, q_word_promise, q_any_it, q_any_box, q_any_word, q_any_any, q_any_new, q_any_empty, q_any_same, q_any_not, q_any_and, q_any_or, q_any_tell, q_any_put, q_any_drop, q_any_go, q_any_then, q_any_run, q_any_program, q_any_pipe, q_any_promise, q_new_it, q_new_box, q_new_word, q_new_any, q_new_new, q_new_empty, q_new_same, q_new_not, q_new_and, q_new_or, q_new_tell, q_new_put, q_new_drop, q_new_go, q_new_then, q_new_run, q_new_program, q_new_pipe, q_new_promise, q_empty_it, q_empty_box, q_empty_word, q_empty_any, q_empty_new, q_empty_empty, q_empty_same, q_empty_not, q_empty_and, q_empty_or, q_empty_tell, q_empty_put, q_empty_drop, q_empty_go, q_empty_then, q_empty_run, q_empty_program, q_empty_pipe, q_empty_promise, q_same_it, q_same_box, q_same_word, q_same_any, q_same_new, q_same_empty, q_same_same, q_same_not, q_same_and, q_same_or, q_same_tell, q_same_put, q_same_drop, q_same_go, q_same_then, q_same_run, q_same_program, q_same_pipe, q_same_promise, q_not_it, q_not_box, q_not_word, q_not_any, q_not_new, q_not_empty, q_not_same, q_not_not, q_not_and, q_not_or, q_not_tell, q_not_put, q_not_drop, q_not_go, q_not_then, q_not_run, q_not_program, q_not_pipe, q_not_promise, q_and_it, q_and_box, q_and_word, q_and_any, q_and_new, q_and_empty, q_and_same, q_and_not, q_and_and, q_and_or, q_and_tell, q_and_put, q_and_drop, q_and_go, q_and_then, q_and_run, q_and_program, q_and_pipe, q_and_promise, q_or_it, q_or_box, q_or_word, q_or_any, q_or_new, q_or_empty, q_or_same, q_or_not, q_or_and, q_or_or, q_or_tell, q_or_put, q_or_drop, q_or_go, q_or_then, q_or_run, q_or_program, q_or_pipe, q_or_promise, q_tell_it, q_tell_box, q_tell_word, q_tell_any, q_tell_new, q_tell_empty, q_tell_same, q_tell_not, q_tell_and, q_tell_or, q_tell_tell, q_tell_put, q_tell_drop, q_tell_go, q_tell_then, q_tell_run, q_tell_program, q_tell_pipe, q_tell_promise, q_put_it, q_put_box, q_put_word, q_put_any, q_put_new, q_put_empty, q_put_same, q_put_not, q_put_and, q_put_or, q_put_tell, q_put_put, q_put_drop, q_put_go, q_put_then, q_put_run, q_put_program, q_put_pipe, q_put_promise, q_drop_it, q_drop_box, q_drop_word, q_drop_any, q_drop_new, q_drop_empty, q_drop_same, q_drop_not, q_drop_and, q_drop_or, q_drop_tell, q_drop_put, q_drop_drop, q_drop_go, q_drop_then, q_drop_run, q_drop_program, q_drop_pipe, q_drop_promise, q_go_it, q_go_box, q_go_word, q_go_any, q_go_new, q_go_empty, q_go_same, q_go_not, q_go_and, q_go_or, q_go_tell, q_go_put, q_go_drop, q_go_go, q_go_then, q_go_run, q_go_program, q_go_pipe, q_go_promise, q_then_it, q_then_box, q_then_word, q_then_any, q_then_new, q_then_empty, q_then_same, q_then_not, q_then_and, q_then_or, q_then_tell, q_then_put, q_then_drop, q_then_go, q_then_then, q_then_run, q_then_program, q_then_pipe, q_then_promise, q_run_it, q_run_box, q_run_word, q_run_any, q_run_new, q_run_empty, q_run_same, q_run_not, q_run_and, q_run_or, q_run_tell, q_run_put, q_run_drop, q_run_go, q_run_then, q_run_run, q_run_program, q_run_pipe, q_run_promise, q_program_it, q_program_box, q_program_word, q_program_any, q_program_new, q_program_empty, q_program_same, q_program_not, q_program_and, q_program_or, q_program_tell, q_program_put, q_program_drop, q_program_go, q_program_then, q_program_run, q_program_program, q_program_pipe, q_program_promise, q_pipe_it, q_pipe_box, q_pipe_word, q_pipe_any, q_pipe_new, q_pipe_empty, q_pipe_same, q_pipe_not, q_pipe_and, q_pipe_or, q_pipe_tell, q_pipe_put, q_pipe_drop, q_pipe_go, q_pipe_then, q_pipe_run, q_pipe_program, q_pipe_pipe, q_pipe_promise, q_promise_it, q_promise_box, q_promise_word, q_promise_any, q_promise_new, q_promise_empty, q_promise_same, q_promise_not, q_promise_and, q_promise_or, q_promise_tell, q_promise_put, q_promise_drop, q_promise_go, q_promise_then, q_promise_run, q_promise_program, q_promise_pipe, q_promise_promise, kApp, e, hz, actStep, List.map_append]
  | go m2 => simp only [run_mk, List.map_cons, List.map_nil, List.length_cons, List.length_nil, List.cons_append, List.nil_append, List.replicate_succ, List.replicate_zero, Nat.reduceAdd, Nat.reduceSub, List.getElem?_cons_zero, List.getElem?_cons_succ, List.set_cons_zero, List.set_cons_succ, R.bind_ok, sCons, sNil, sIf, sRet, retL, dropL, sSet, setL, sDrop, sUnp, sPar, lNil, lCons, kF, putL, gN, gT, gAll, kC, kX, kD, kG, kS, scl, k1, k2, L.get, L.take, T.toD, aNil, aCons, kTup, kLst, bVal, bAnd, bOr, bNot, kAnd, kOr, kNot, kIf, boolOf, kCall, cNil, cV, cMv, cPass, lend, back, resL, outs, endOf, srcAt, kSGet, kSLen, kInt, SF.get, SF.put, bl, nm, if_true, if_false, Bool.false_eq_true, Bool.not_true, Bool.not_false, psB, psS, Ac.enc, ix0, ix1, q_it_it, q_it_box, q_it_word, q_it_any, q_it_new, q_it_empty, q_it_same, q_it_not, q_it_and, q_it_or, q_it_tell, q_it_put, q_it_drop, q_it_go, q_it_then, q_it_run, q_it_program, q_it_pipe, q_it_promise, q_box_it, q_box_box, q_box_word, q_box_any, q_box_new, q_box_empty, q_box_same, q_box_not, q_box_and, q_box_or, q_box_tell, q_box_put, q_box_drop, q_box_go, q_box_then, q_box_run, q_box_program, q_box_pipe, q_box_promise, q_word_it, q_word_box, q_word_word, q_word_any, q_word_new, q_word_empty, q_word_same, q_word_not, q_word_and, q_word_or, q_word_tell, q_word_put, q_word_drop, q_word_go, q_word_then, q_word_run, q_word_program, q_word_pipe, q_word_promise, q_any_it, q_any_box, q_any_word, q_any_any, q_any_new, q_any_empty, q_any_same, q_any_not, q_any_and, q_any_or, q_any_tell, q_any_put, q_any_drop, q_any_go, q_any_then, q_any_run, q_any_program, q_any_pipe, q_any_promise, q_new_it, q_new_box, q_new_word, q_new_any, q_new_new, q_new_empty, q_new_same, q_new_not, q_new_and, q_new_or, q_new_tell, q_new_put, q_new_drop, q_new_go, q_new_then, q_new_run, q_new_program, q_new_pipe, q_new_promise, q_empty_it, q_empty_box, q_empty_word, q_empty_any, q_empty_new, q_empty_empty, q_empty_same, q_empty_not, q_empty_and, q_empty_or, q_empty_tell, q_empty_put, q_empty_drop, q_empty_go, q_empty_then, q_empty_run, q_empty_program, q_empty_pipe, q_empty_promise, q_same_it, q_same_box, q_same_word, q_same_any, q_same_new, q_same_empty, q_same_same, q_same_not, q_same_and, q_same_or, q_same_tell, q_same_put, q_same_drop, q_same_go, q_same_then, q_same_run, q_same_program, q_same_pipe, q_same_promise, q_not_it, q_not_box, q_not_word, q_not_any, q_not_new, q_not_empty, q_not_same, q_not_not, q_not_and, q_not_or, q_not_tell, q_not_put, q_not_drop, q_not_go, q_not_then, q_not_run, q_not_program, q_not_pipe, q_not_promise, q_and_it, q_and_box, q_and_word, q_and_any, q_and_new, q_and_empty, q_and_same, q_and_not, q_and_and, q_and_or, q_and_tell, q_and_put, q_and_drop, q_and_go, q_and_then, q_and_run, q_and_program, q_and_pipe, q_and_promise, q_or_it, q_or_box, q_or_word, q_or_any, q_or_new, q_or_empty, q_or_same, q_or_not, q_or_and, q_or_or, q_or_tell, q_or_put, q_or_drop, q_or_go, q_or_then, q_or_run, q_or_program, q_or_pipe, q_or_promise, q_tell_it, q_tell_box, q_tell_word, q_tell_any, q_tell_new, q_tell_empty, q_tell_same, q_tell_not, q_tell_and, q_tell_or, q_tell_tell, q_tell_put, q_tell_drop, q_tell_go, q_tell_then, q_tell_run, q_tell_program, q_tell_pipe, q_tell_promise, q_put_it, q_put_box, q_put_word, q_put_any, q_put_new, q_put_empty, q_put_same, q_put_not, q_put_and, q_put_or, q_put_tell, q_put_put, q_put_drop, q_put_go, q_put_then, q_put_run, q_put_program, q_put_pipe, q_put_promise, q_drop_it, q_drop_box, q_drop_word, q_drop_any, q_drop_new, q_drop_empty, q_drop_same, q_drop_not, q_drop_and, q_drop_or, q_drop_tell, q_drop_put, q_drop_drop, q_drop_go, q_drop_then, q_drop_run, q_drop_program, q_drop_pipe, q_drop_promise, q_go_it, q_go_box, q_go_word, q_go_any, q_go_new, q_go_empty, q_go_same, q_go_not, q_go_and, q_go_or, q_go_tell, q_go_put, q_go_drop, q_go_go, q_go_then, q_go_run, q_go_program, q_go_pipe, q_go_promise, q_then_it, q_then_box, q_then_word, q_then_any, q_then_new, q_then_empty, q_then_same, q_then_not, q_then_and, q_then_or, q_then_tell, q_then_put, q_then_drop, q_then_go, q_then_then, q_then_run, q_then_program, q_then_pipe, q_then_promise, q_run_it, q_run_box, q_run_word, q_run_any, q_run_new, q_run_empty, q_run_same, q_run_not, q_run_and, q_run_or, q_run_tell, q_run_put, q_run_drop, q_run_go, q_run_then, q_run_run, q_run_program, q_run_pipe, q_run_promise, q_program_it, q_program_box, q_program_word, q_program_any, q_program_new, q_program_empty, q_program_same, q_program_not, q_program_and, q_program_or, q_program_tell, q_program_put, q_program_drop, q_program_go, q_program_then, q_program_run, q_program_program, q_program_pipe, q_program_promise, q_pipe_it, q_pipe_box, q_pipe_word, q_pipe_any, q_pipe_new, q_pipe_empty, q_pipe_same, q_pipe_not, q_pipe_and, q_pipe_or, q_pipe_tell, q_pipe_put, q_pipe_drop, q_pipe_go, q_pipe_then, q_pipe_run, q_pipe_program, q_pipe_pipe, q_pipe_promise, q_promise_it, q_promise_box, q_promise_word, q_promise_any, q_promise_new, q_promise_empty, q_promise_same, q_promise_not, q_promise_and, q_promise_or, q_promise_tell, q_promise_put, q_promise_drop, q_promise_go, q_promise_then, q_promise_run, q_promise_program, q_promise_pipe, q_promise_promise, actStep]
  | drop b =>
    obtain ⟨j, h1, h2, h3⟩ := put_box (x := none) w.bok wa hl
    simp only [strsE] at h1
    simp only [optE] at h3
    simp only [run_mk, List.map_cons, List.map_nil, List.length_cons, List.length_nil, List.cons_append, List.nil_append, List.replicate_succ, List.replicate_zero, Nat.reduceAdd, Nat.reduceSub, List.getElem?_cons_zero, List.getElem?_cons_succ, List.set_cons_zero, List.set_cons_succ, R.bind_ok, sCons, sNil, sIf, sRet, retL, dropL, sSet, setL, sDrop, sUnp, sPar, lNil, lCons, kF, putL, gN, gT, gAll, kC, kX, kD, kG, kS, scl, k1, k2, L.get, L.take, T.toD, aNil, aCons, kTup, kLst, bVal, bAnd, bOr, bNot, kAnd, kOr, kNot, kIf, boolOf, kCall, cNil, cV, cMv, cPass, lend, back, resL, outs, endOf, srcAt, kSGet, kSLen, kInt, SF.get, SF.put, bl, nm, if_true, if_false, Bool.false_eq_true, Bool.not_true, Bool.not_false, psB, psS, Ac.enc, ix0, ix1, q_it_it, q_it_box, q_it_word, q_it_any, q_it_new, q_it_empty, q_it_same, q_it_not, q_it_and, q_it_or, q_it_tell, q_it_put, q_it_drop, q_it_go, q_it_then, q_it_run, q_it_program, q_it_pipe, q_it_promise, q_box_it, q_box_box, q_box_word, q_box_any, q_box_new, q_box_empty, q_box_same, q_box_not, q_box_and, q_box_or, q_box_tell, q_box_put, q_box_drop, q_box_go, q_box_then, q_box_run, q_box_program, q_box_pipe, q_box_promise, q_word_it, q_word_box, q_word_word, q_word_any, q_word_new, q_word_empty, q_word_same, q_word_not, q_word_and, q_word_or, q_word_tell, q_word_put, q_word_drop, q_word_go, q_word_then, q_word_run, q_word_program, q_word_pipe, q_word_promise, q_any_it, q_any_box, q_any_word, q_any_any, q_any_new, q_any_empty, q_any_same, q_any_not, q_any_and, q_any_or, q_any_tell, q_any_put, q_any_drop, q_any_go, q_any_then, q_any_run, q_any_program, q_any_pipe, q_any_promise, q_new_it, q_new_box, q_new_word, q_new_any, q_new_new, q_new_empty, q_new_same, q_new_not, q_new_and, q_new_or, q_new_tell, q_new_put, q_new_drop, q_new_go, q_new_then, q_new_run, q_new_program, q_new_pipe, q_new_promise, q_empty_it, q_empty_box, q_empty_word, q_empty_any, q_empty_new, q_empty_empty, q_empty_same, q_empty_not, q_empty_and, q_empty_or, q_empty_tell, q_empty_put, q_empty_drop, q_empty_go, q_empty_then, q_empty_run, q_empty_program, q_empty_pipe, q_empty_promise, q_same_it, q_same_box, q_same_word, q_same_any, q_same_new, q_same_empty, q_same_same, q_same_not, q_same_and, q_same_or, q_same_tell, q_same_put, q_same_drop, q_same_go, q_same_then, q_same_run, q_same_program, q_same_pipe, q_same_promise, q_not_it, q_not_box, q_not_word, q_not_any, q_not_new, q_not_empty, q_not_same, q_not_not, q_not_and, q_not_or, q_not_tell, q_not_put, q_not_drop, q_not_go, q_not_then, q_not_run, q_not_program, q_not_pipe, q_not_promise, q_and_it, q_and_box, q_and_word, q_and_any, q_and_new, q_and_empty, q_and_same, q_and_not, q_and_and, q_and_or, q_and_tell, q_and_put, q_and_drop, q_and_go, q_and_then, q_and_run, q_and_program, q_and_pipe, q_and_promise, q_or_it, q_or_box, q_or_word, q_or_any, q_or_new, q_or_empty, q_or_same, q_or_not, q_or_and, q_or_or, q_or_tell, q_or_put, q_or_drop, q_or_go, q_or_then, q_or_run, q_or_program, q_or_pipe, q_or_promise, q_tell_it, q_tell_box, q_tell_word, q_tell_any, q_tell_new, q_tell_empty, q_tell_same, q_tell_not, q_tell_and, q_tell_or, q_tell_tell, q_tell_put, q_tell_drop, q_tell_go, q_tell_then, q_tell_run, q_tell_program, q_tell_pipe, q_tell_promise, q_put_it, q_put_box, q_put_word, q_put_any, q_put_new, q_put_empty, q_put_same, q_put_not, q_put_and, q_put_or, q_put_tell, q_put_put, q_put_drop, q_put_go, q_put_then, q_put_run, q_put_program, q_put_pipe, q_put_promise, q_drop_it, q_drop_box, q_drop_word, q_drop_any, q_drop_new, q_drop_empty, q_drop_same, q_drop_not, q_drop_and, q_drop_or, q_drop_tell, q_drop_put, q_drop_drop, q_drop_go, q_drop_then, q_drop_run, q_drop_program, q_drop_pipe, q_drop_promise, q_go_it, q_go_box, q_go_word, q_go_any, q_go_new, q_go_empty, q_go_same, q_go_not, q_go_and, q_go_or, q_go_tell, q_go_put, q_go_drop, q_go_go, q_go_then, q_go_run, q_go_program, q_go_pipe, q_go_promise, q_then_it, q_then_box, q_then_word, q_then_any, q_then_new, q_then_empty, q_then_same, q_then_not, q_then_and, q_then_or, q_then_tell, q_then_put, q_then_drop, q_then_go, q_then_then, q_then_run, q_then_program, q_then_pipe, q_then_promise, q_run_it, q_run_box, q_run_word, q_run_any, q_run_new, q_run_empty, q_run_same, q_run_not, q_run_and, q_run_or, q_run_tell, q_run_put, q_run_drop, q_run_go, q_run_then, q_run_run, q_run_program, q_run_pipe, q_run_promise, q_program_it, q_program_box, q_program_word, q_program_any, q_program_new, q_program_empty, q_program_same, q_program_not, q_program_and, q_program_or, q_program_tell, q_program_put, q_program_drop, q_program_go, q_program_then, q_program_run, q_program_program, q_program_pipe, q_program_promise, q_pipe_it, q_pipe_box, q_pipe_word, q_pipe_any, q_pipe_new, q_pipe_empty, q_pipe_same, q_pipe_not, q_pipe_and, q_pipe_or, q_pipe_tell, q_pipe_put, q_pipe_drop, q_pipe_go, q_pipe_then, q_pipe_run, q_pipe_program, q_pipe_pipe, q_pipe_promise, q_promise_it, q_promise_box, q_promise_word, q_promise_any, q_promise_new, q_promise_empty, q_promise_same, q_promise_not, q_promise_and, q_promise_or, q_promise_tell, q_promise_put, q_promise_drop, q_promise_go, q_promise_then, q_promise_run, q_promise_program, q_promise_pipe, q_promise_promise, sPt, kIndex, likeSeq, strsE, h1, h2, h3, actStep]
  | put t b =>
    obtain ⟨j, h1, h2, h3⟩ := put_box (x := worth bs vs t v) w.bok wa.2 hl
    have e := thing_ok (v := v) w wa.1
    simp only [strsE] at h1 e
    simp only [run_mk, List.map_cons, List.map_nil, List.length_cons, List.length_nil, List.cons_append, List.nil_append, List.replicate_succ, List.replicate_zero, Nat.reduceAdd, Nat.reduceSub, List.getElem?_cons_zero, List.getElem?_cons_succ, List.set_cons_zero, List.set_cons_succ, R.bind_ok, sCons, sNil, sIf, sRet, retL, dropL, sSet, setL, sDrop, sUnp, sPar, lNil, lCons, kF, putL, gN, gT, gAll, kC, kX, kD, kG, kS, scl, k1, k2, L.get, L.take, T.toD, aNil, aCons, kTup, kLst, bVal, bAnd, bOr, bNot, kAnd, kOr, kNot, kIf, boolOf, kCall, cNil, cV, cMv, cPass, lend, back, resL, outs, endOf, srcAt, kSGet, kSLen, kInt, SF.get, SF.put, bl, nm, if_true, if_false, Bool.false_eq_true, Bool.not_true, Bool.not_false, psB, psS, Ac.enc, ix0, ix1, ix2, q_it_it, q_it_box, q_it_word, q_it_any, q_it_new, q_it_empty, q_it_same, q_it_not, q_it_and, q_it_or, q_it_tell, q_it_put, q_it_drop, q_it_go, q_it_then, q_it_run, q_it_program, q_it_pipe, q_it_promise, q_box_it, q_box_box, q_box_word, q_box_any, q_box_new, q_box_empty, q_box_same, q_box_not, q_box_and, q_box_or, q_box_tell, q_box_put, q_box_drop, q_box_go, q_box_then, q_box_run, q_box_program, q_box_pipe, q_box_promise, q_word_it, q_word_box, q_word_word, q_word_any, q_word_new, q_word_empty, q_word_same, q_word_not, q_word_and, q_word_or, q_word_tell, q_word_put, q_word_drop, q_word_go, q_word_then, q_word_run, q_word_program, q_word_pipe, q_word_promise, q_any_it, q_any_box, q_any_word, q_any_any, q_any_new, q_any_empty, q_any_same, q_any_not, q_any_and, q_any_or, q_any_tell, q_any_put, q_any_drop, q_any_go, q_any_then, q_any_run, q_any_program, q_any_pipe, q_any_promise, q_new_it, q_new_box, q_new_word, q_new_any, q_new_new, q_new_empty, q_new_same, q_new_not, q_new_and, q_new_or, q_new_tell, q_new_put, q_new_drop, q_new_go, q_new_then, q_new_run, q_new_program, q_new_pipe, q_new_promise, q_empty_it, q_empty_box, q_empty_word, q_empty_any, q_empty_new, q_empty_empty, q_empty_same, q_empty_not, q_empty_and, q_empty_or, q_empty_tell, q_empty_put, q_empty_drop, q_empty_go, q_empty_then, q_empty_run, q_empty_program, q_empty_pipe, q_empty_promise, q_same_it, q_same_box, q_same_word, q_same_any, q_same_new, q_same_empty, q_same_same, q_same_not, q_same_and, q_same_or, q_same_tell, q_same_put, q_same_drop, q_same_go, q_same_then, q_same_run, q_same_program, q_same_pipe, q_same_promise, q_not_it, q_not_box, q_not_word, q_not_any, q_not_new, q_not_empty, q_not_same, q_not_not, q_not_and, q_not_or, q_not_tell, q_not_put, q_not_drop, q_not_go, q_not_then, q_not_run, q_not_program, q_not_pipe, q_not_promise, q_and_it, q_and_box, q_and_word, q_and_any, q_and_new, q_and_empty, q_and_same, q_and_not, q_and_and, q_and_or, q_and_tell, q_and_put, q_and_drop, q_and_go, q_and_then, q_and_run, q_and_program, q_and_pipe, q_and_promise, q_or_it, q_or_box, q_or_word, q_or_any, q_or_new, q_or_empty, q_or_same, q_or_not, q_or_and, q_or_or, q_or_tell, q_or_put, q_or_drop, q_or_go, q_or_then, q_or_run, q_or_program, q_or_pipe, q_or_promise, q_tell_it, q_tell_box, q_tell_word, q_tell_any, q_tell_new, q_tell_empty, q_tell_same, q_tell_not, q_tell_and, q_tell_or, q_tell_tell, q_tell_put, q_tell_drop, q_tell_go, q_tell_then, q_tell_run, q_tell_program, q_tell_pipe, q_tell_promise, q_put_it, q_put_box, q_put_word, q_put_any, q_put_new, q_put_empty, q_put_same, q_put_not, q_put_and, q_put_or, q_put_tell, q_put_put, q_put_drop, q_put_go, q_put_then, q_put_run, q_put_program, q_put_pipe, q_put_promise, q_drop_it, q_drop_box, q_drop_word, q_drop_any, q_drop_new, q_drop_empty, q_drop_same, q_drop_not, q_drop_and, q_drop_or, q_drop_tell, q_drop_put, q_drop_drop, q_drop_go, q_drop_then, q_drop_run, q_drop_program, q_drop_pipe, q_drop_promise, q_go_it, q_go_box, q_go_word, q_go_any, q_go_new, q_go_empty, q_go_same, q_go_not, q_go_and, q_go_or, q_go_tell, q_go_put, q_go_drop, q_go_go, q_go_then, q_go_run, q_go_program, q_go_pipe, q_go_promise, q_then_it, q_then_box, q_then_word, q_then_any, q_then_new, q_then_empty, q_then_same, q_then_not, q_then_and, q_then_or, q_then_tell, q_then_put, q_then_drop, q_then_go, q_then_then, q_then_run, q_then_program, q_then_pipe, q_then_promise, q_run_it, q_run_box, q_run_word, q_run_any, q_run_new, q_run_empty, q_run_same, q_run_not, q_run_and, q_run_or, q_run_tell, q_run_put, q_run_drop, q_run_go, q_run_then, q_run_run, q_run_program, q_run_pipe, q_run_promise, q_program_it, q_program_box, q_program_word, q_program_any, q_program_new, q_program_empty, q_program_same, q_program_not, q_program_and, q_program_or, q_program_tell, q_program_put, q_program_drop, q_program_go, q_program_then, q_program_run, q_program_program, q_program_pipe, q_program_promise, q_pipe_it, q_pipe_box, q_pipe_word, q_pipe_any, q_pipe_new, q_pipe_empty, q_pipe_same, q_pipe_not, q_pipe_and, q_pipe_or, q_pipe_tell, q_pipe_put, q_pipe_drop, q_pipe_go, q_pipe_then, q_pipe_run, q_pipe_program, q_pipe_pipe, q_pipe_promise, q_promise_it, q_promise_box, q_promise_word, q_promise_any, q_promise_new, q_promise_empty, q_promise_same, q_promise_not, q_promise_and, q_promise_or, q_promise_tell, q_promise_put, q_promise_drop, q_promise_go, q_promise_then, q_promise_run, q_promise_program, q_promise_pipe, q_promise_promise, sPt, kIndex, likeSeq, strsE, h1, h2, h3, e, actStep]
theorem actStep_len {bs : List Str} {vs : List (Option Str)} {v : Str} {a : Acc} {ac : Ac} : (actStep bs vs v a ac).2.1.length = a.2.1.length ∧ (actStep bs vs v a ac).1.length ≤ a.1.length + 1 := by
  cases ac <;> simp [actStep, setB_len]
theorem ps_for {ws bs : List Str} {p st nr : D} {v m : Str} {vs : List (Option Str)} (w : WV bs vs) : ∀ {acts : List Ac} {a : Acc} {t : Option T}, (∀ x ∈ acts, WA bs x) → a.2.1.length = bs.length → a.1.length + acts.length ≤ 100000 →
    ∃ t', forD (gN 11) psB (acts.map Ac.enc) (psS ws p st v nr bs m vs a t) = .ok (.nx, psS ws p st v nr bs m vs (acts.foldl (actStep bs vs v) a) t')
  | [], a, t, _, _, _ => ⟨t, rfl⟩
  | ac :: acts, a, t, h, hl, hm => by
    obtain ⟨t1, e⟩ := ps_turn (ws := ws) (p := p) (st := st) (nr := nr) (m := m) (t := t) (v := v) w (h ac (List.mem_cons_self ..)) hl (by simp only [List.length_cons] at hm; omega)
    obtain ⟨s1, e1, e2⟩ := R.bind_eq_ok.mp e
    have al := actStep_len (bs := bs) (vs := vs) (v := v) (a := a) (ac := ac)
    obtain ⟨t2, e3⟩ := ps_for w (acts := acts) (a := actStep bs vs v a ac) (t := t1) (ws := ws) (p := p) (st := st) (nr := nr) (m := m) (fun x hx => h x (List.mem_cons_of_mem _ hx)) (by rw [al.1]; exact hl) (by simp only [List.length_cons] at hm; omega)
    refine ⟨t2, ?_⟩
    rw [List.map_cons]
    unfold forD
    rw [e1, R.bind_ok, e2, R.bind_ok]
    exact e3
theorem some_strs : ∀ l : List (Option Str), (l.filter (·.isSome)).map optE = (l.filterMap id).map PyData.str
  | [] => rfl
  | none :: l => by simpa using some_strs l
  | some x :: l => by simpa [optE] using some_strs l
def stepM (ws : List Str) (p : Pg) (s : Str × List (Option Str)) (v : Str) : List Str × (Str × List (Option Str)) :=
  match p.modes.find? (fun x => decide (x.name = s.1)) with
  | none => ([], s)
  | some md => match md.rules.find? (fun r => holds ws p.boxes s.2 v r.1) with
    | none => ([], s)
    | some r => let a := r.2.foldl (actStep p.boxes s.2 v) ([], s.2, s.1); (a.1.filterMap id, (a.2.2, a.2.1))
theorem firstIx_find {h : Cd → Bool} : ∀ {rs : List (Cd × List Ac)}, (firstIx h rs = none ∧ rs.find? (fun r => h r.1) = none) ∨ ∃ j r, firstIx h rs = some j ∧ rs[j]? = some r ∧ rs.find? (fun r => h r.1) = some r
  | [] => .inl ⟨rfl, rfl⟩
  | r :: rs => by
    cases e : h r.1 with
    | true => exact .inr ⟨0, r, by simp [firstIx, e], rfl, by simp [e]⟩
    | false =>
      rcases firstIx_find (h := h) (rs := rs) with ⟨h1, h2⟩ | ⟨j, r', h1, h2, h3⟩
      · exact .inl ⟨by simp [firstIx, e, h1], by simpa [e] using h2⟩
      · exact .inr ⟨j + 1, r', by simp [firstIx, e, h1], by simpa using h2, by simpa [e] using h3⟩
def ansE (r : List Str × (Str × List (Option Str))) : D := .tuple [strsE r.1, stE r.2]
structure WPA (p : Pg) : Prop extends WP p where
  acts : ∀ x ∈ p.modes, ∀ r ∈ x.rules, r.2.length ≤ 1000 ∧ ∀ ac ∈ r.2, WA p.boxes ac
theorem step_ok {ws : List Str} {p : Pg} {m v : Str} {vs : List (Option Str)} {md : Md} (wp : WPA p) (w : WV p.boxes vs) (hw : ∀ x ∈ ws, Sk x) (hv : Sk v) (hm : Sk m) (hf : p.modes.find? (fun x => decide (x.name = m)) = some md) :
    D_program_step.run [.val (strsE ws), .val p.enc, .val (stE (m, vs)), .val (.str v)] = .ok (.val (ansE (stepM ws p (m, vs) v)), []) := by
  have hd := done_ok wp.toWP w hw hv hm hf
  have hmd : md ∈ p.modes := List.mem_of_find?_eq_some hf
  have hr := rules_ok hm wp.mok wp.few hf
  have ixb : pIx p.enc (.int 2) = .ok (.d (strsE p.boxes)) := ix2
  rcases firstIx_find (h := holds ws p.boxes vs v) (rs := md.rules) with ⟨h1, h2⟩ | ⟨j, r, h1, h2, h3⟩
  · rw [h1] at hd
    simp only [stE, natO] at hd
    simp only [run_mk, List.map_cons, List.map_nil, List.length_cons, List.length_nil, List.cons_append, List.nil_append, List.replicate_succ, List.replicate_zero, Nat.reduceAdd, Nat.reduceSub, List.getElem?_cons_zero, List.getElem?_cons_succ, List.set_cons_zero, List.set_cons_succ, R.bind_ok, sCons, sNil, sIf, sRet, retL, dropL, sSet, setL, sDrop, sUnp, sPar, lNil, lCons, kF, putL, gN, gT, gAll, kC, kX, kD, kG, kS, scl, k1, k2, L.get, L.take, T.toD, aNil, aCons, kTup, kLst, bVal, bAnd, bOr, bNot, kAnd, kOr, kNot, kIf, boolOf, kCall, cNil, cV, cMv, cPass, lend, back, resL, outs, endOf, srcAt, kSGet, kSLen, kInt, SF.get, SF.put, bl, nm, if_true, if_false, Bool.false_eq_true, Bool.not_true, Bool.not_false, D_program_step, stE, hd, ixb, szOk3, szOk2, szOk0, pIsN, isNone, stepM, hf, h2, ansE]
    rfl
  · rw [h1] at hd
    have hj : j < md.rules.length := (List.getElem?_eq_some_iff.mp h2).1
    have hrm : r ∈ md.rules := List.mem_of_getElem? h2
    have ixr : pIx (rulesE md) (.int (j : Nat)) = .ok (.d (ruleE r)) := by
      have e := ixD_nat (n := (md.rules.map ruleE).length) (r := j) (by rw [List.length_map]; exact hj)
      show optD ((ixD (md.rules.map ruleE).length (j : Int)).bind fun j => (md.rules.map ruleE)[j]?) = _
      rw [e]
      simp only [Option.bind_some, List.getElem?_map, h2, Option.map_some, optD]
    have ixa : pIx (ruleE r) (.int 1) = .ok (.d (.tuple (r.2.map Ac.enc))) := ix1
    obtain ⟨wl, wacts⟩ := wp.acts md hmd r hrm
    obtain ⟨t, ef⟩ := ps_for (ws := ws) (p := p.enc) (st := stE (m, vs)) (nr := .int (j : Nat)) (v := v) (m := m) w (acts := r.2) (a := ([], vs, m)) (t := none) wacts w.len (by simp; omega)
    generalize ha : r.2.foldl (actStep p.boxes vs v) ([], vs, m) = a at ef
    have al : a.1.length ≤ r.2.length := by
      rw [← ha]
      have : ∀ (acts : List Ac) (b : Acc), (acts.foldl (actStep p.boxes vs v) b).1.length ≤ b.1.length + acts.length := fun acts => by
        induction acts with
        | nil => intro b; simp
        | cons x xs ih =>
          intro b
          have h1 := ih (actStep p.boxes vs v b x)
          have h2 := actStep_len (bs := p.boxes) (vs := vs) (v := v) (a := b) (ac := x)
          simp only [List.foldl_cons, List.length_cons]
          omega
      simpa using this r.2 ([], vs, m)
    have hc := comp_map (g := gN 12) (c := some (bVal (k1 pNotN (kX 12)))) (f := kX 12) (own := [12]) (s := (psS ws p.enc (stE (m, vs)) v (.int (j : Nat)) p.boxes m vs a t).set 8 (some (.val (.list (a.1.map optE))))) optE
      (fun x => ((psS ws p.enc (stE (m, vs)) v (.int (j : Nat)) p.boxes m vs a t).set 8 (some (.val (.list (a.1.map optE))))).set 12 (some (.val (optE x)))) (·.isSome) optE rfl (xs := a.1) (fun x hx => by
        refine ⟨rfl, rfl, ?_, fun _ => ?_⟩
        · simp only [run_mk, List.map_cons, List.map_nil, List.length_cons, List.length_nil, List.cons_append, List.nil_append, List.replicate_succ, List.replicate_zero, Nat.reduceAdd, Nat.reduceSub, List.getElem?_cons_zero, List.getElem?_cons_succ, List.set_cons_zero, List.set_cons_succ, R.bind_ok, sCons, sNil, sIf, sRet, retL, dropL, sSet, setL, sDrop, sUnp, sPar, lNil, lCons, kF, putL, gN, gT, gAll, kC, kX, kD, kG, kS, scl, k1, k2, L.get, L.take, T.toD, aNil, aCons, kTup, kLst, bVal, bAnd, bOr, bNot, kAnd, kOr, kNot, kIf, boolOf, kCall, cNil, cV, cMv, cPass, lend, back, resL, outs, endOf, srcAt, kSGet, kSLen, kInt, SF.get, SF.put, bl, nm, if_true, if_false, Bool.false_eq_true, Bool.not_true, Bool.not_false, bOf, psS, pNotN, isN_opt, List.set_cons_succ]
          cases x <;> rfl
        · simp only [run_mk, List.map_cons, List.map_nil, List.length_cons, List.length_nil, List.cons_append, List.nil_append, List.replicate_succ, List.replicate_zero, Nat.reduceAdd, Nat.reduceSub, List.getElem?_cons_zero, List.getElem?_cons_succ, List.set_cons_zero, List.set_cons_succ, R.bind_ok, sCons, sNil, sIf, sRet, retL, dropL, sSet, setL, sDrop, sUnp, sPar, lNil, lCons, kF, putL, gN, gT, gAll, kC, kX, kD, kG, kS, scl, k1, k2, L.get, L.take, T.toD, aNil, aCons, kTup, kLst, bVal, bAnd, bOr, bNot, kAnd, kOr, kNot, kIf, boolOf, kCall, cNil, cV, cMv, cPass, lend, back, resL, outs, endOf, srcAt, kSGet, kSLen, kInt, SF.get, SF.put, bl, nm, if_true, if_false, Bool.false_eq_true, Bool.not_true, Bool.not_false, psS])
    rw [some_strs] at hc
    have hz : szOk ((a.1.filterMap id).map PyData.str).length = true := szOk_of (by
      rw [List.length_map]
      have := List.length_filterMap_le id a.1
      omega)
    have em : stepM ws p (m, vs) v = (a.1.filterMap id, (a.2.2, a.2.1)) := by
      simp only [stepM, hf, h3, ha]
    rw [em]
    unfold D_program_step
    refine run_rt (s1 := (psS ws p.enc (stE (m, vs)) v (.int (j : Nat)) p.boxes m vs a t).set 8 (some (.val (.list (a.1.map optE))))) ?_ rfl
    rw [sCons_nx (s1 := [some (.val (strsE ws)), some (.val p.enc), some (.val (stE (m, vs))), some (.val (.str v)), some (.val (.int (j : Nat))), some (.val (strsE p.boxes)), some (.val (.str m)), some (.val (valsE vs)), none, none, none, none, none]) (by
      simp only [stE] at hd
      simp only [run_mk, List.map_cons, List.map_nil, List.length_cons, List.length_nil, List.cons_append, List.nil_append, List.replicate_succ, List.replicate_zero, Nat.reduceAdd, Nat.reduceSub, List.getElem?_cons_zero, List.getElem?_cons_succ, List.set_cons_zero, List.set_cons_succ, R.bind_ok, sCons, sNil, sIf, sRet, retL, dropL, sSet, setL, sDrop, sUnp, sPar, lNil, lCons, kF, putL, gN, gT, gAll, kC, kX, kD, kG, kS, scl, k1, k2, L.get, L.take, T.toD, aNil, aCons, kTup, kLst, bVal, bAnd, bOr, bNot, kAnd, kOr, kNot, kIf, boolOf, kCall, cNil, cV, cMv, cPass, lend, back, resL, outs, endOf, srcAt, kSGet, kSLen, kInt, SF.get, SF.put, bl, nm, if_true, if_false, Bool.false_eq_true, Bool.not_true, Bool.not_false, stE, hd, natO, ixb, szOk3])]
    rw [sCons_nx (s1 := [some (.val (strsE ws)), some (.val p.enc), some (.val (stE (m, vs))), some (.val (.str v)), some (.val (.int (j : Nat))), some (.val (strsE p.boxes)), some (.val (.str m)), some (.val (valsE vs)), none, none, none, none, none]) (by
      simp only [run_mk, List.map_cons, List.map_nil, List.length_cons, List.length_nil, List.cons_append, List.nil_append, List.replicate_succ, List.replicate_zero, Nat.reduceAdd, Nat.reduceSub, List.getElem?_cons_zero, List.getElem?_cons_succ, List.set_cons_zero, List.set_cons_succ, R.bind_ok, sCons, sNil, sIf, sRet, retL, dropL, sSet, setL, sDrop, sUnp, sPar, lNil, lCons, kF, putL, gN, gT, gAll, kC, kX, kD, kG, kS, scl, k1, k2, L.get, L.take, T.toD, aNil, aCons, kTup, kLst, bVal, bAnd, bOr, bNot, kAnd, kOr, kNot, kIf, boolOf, kCall, cNil, cV, cMv, cPass, lend, back, resL, outs, endOf, srcAt, kSGet, kSLen, kInt, SF.get, SF.put, bl, nm, if_true, if_false, Bool.false_eq_true, Bool.not_true, Bool.not_false, pIsN, isNone])]
    rw [sCons_nx (s1 := psS ws p.enc (stE (m, vs)) v (.int (j : Nat)) p.boxes m vs ([], vs, m) none) (by
      simp only [run_mk, List.map_cons, List.map_nil, List.length_cons, List.length_nil, List.cons_append, List.nil_append, List.replicate_succ, List.replicate_zero, Nat.reduceAdd, Nat.reduceSub, List.getElem?_cons_zero, List.getElem?_cons_succ, List.set_cons_zero, List.set_cons_succ, R.bind_ok, sCons, sNil, sIf, sRet, retL, dropL, sSet, setL, sDrop, sUnp, sPar, lNil, lCons, kF, putL, gN, gT, gAll, kC, kX, kD, kG, kS, scl, k1, k2, L.get, L.take, T.toD, aNil, aCons, kTup, kLst, bVal, bAnd, bOr, bNot, kAnd, kOr, kNot, kIf, boolOf, kCall, cNil, cV, cMv, cPass, lend, back, resL, outs, endOf, srcAt, kSGet, kSLen, kInt, SF.get, SF.put, bl, nm, if_true, if_false, Bool.false_eq_true, Bool.not_true, Bool.not_false, szOk0, pList, valsE, psS])]
    rw [sCons_nx (s1 := psS ws p.enc (stE (m, vs)) v (.int (j : Nat)) p.boxes m vs a t) (by
      simp only [psS, psB, List.map_nil] at ef
      simp only [run_mk, List.map_cons, List.map_nil, List.length_cons, List.length_nil, List.cons_append, List.nil_append, List.replicate_succ, List.replicate_zero, Nat.reduceAdd, Nat.reduceSub, List.getElem?_cons_zero, List.getElem?_cons_succ, List.set_cons_zero, List.set_cons_succ, R.bind_ok, sCons, sNil, sIf, sRet, retL, dropL, sSet, setL, sDrop, sUnp, sPar, lNil, lCons, kF, putL, gN, gT, gAll, kC, kX, kD, kG, kS, scl, k1, k2, L.get, L.take, T.toD, aNil, aCons, kTup, kLst, bVal, bAnd, bOr, bNot, kAnd, kOr, kNot, kIf, boolOf, kCall, cNil, cV, cMv, cPass, lend, back, resL, outs, endOf, srcAt, kSGet, kSLen, kInt, SF.get, SF.put, bl, nm, if_true, if_false, Bool.false_eq_true, Bool.not_true, Bool.not_false, sFor, iSeq, seqOf, psS, hr, ixr, ixa, ef])]
    rw [sCons_rt]
    simp only [psS, List.set_cons_succ, List.set_cons_zero] at hc
    simp only [run_mk, List.map_cons, List.map_nil, List.length_cons, List.length_nil, List.cons_append, List.nil_append, List.replicate_succ, List.replicate_zero, Nat.reduceAdd, Nat.reduceSub, List.getElem?_cons_zero, List.getElem?_cons_succ, List.set_cons_zero, List.set_cons_succ, R.bind_ok, sCons, sNil, sIf, sRet, retL, dropL, sSet, setL, sDrop, sUnp, sPar, lNil, lCons, kF, putL, gN, gT, gAll, kC, kX, kD, kG, kS, scl, k1, k2, L.get, L.take, T.toD, aNil, aCons, kTup, kLst, bVal, bAnd, bOr, bNot, kAnd, kOr, kNot, kIf, boolOf, kCall, cNil, cV, cMv, cPass, lend, back, resL, outs, endOf, srcAt, kSGet, kSLen, kInt, SF.get, SF.put, bl, nm, if_true, if_false, Bool.false_eq_true, Bool.not_true, Bool.not_false, psS, kComp, iSeq, seqOf, hc, hz, pTuple, szOk2]
    rfl
end K07

set_option Elab.async false
set_option linter.all false
set_option maxRecDepth 100000
set_option maxHeartbeats 4000000
set_option pp.maxSteps 600
namespace K07
open PySem KV
/-! ### runs of a program -/
abbrev St := Str × List (Option Str)
def isTell : Ac → Bool
  | .tell _ => true
  | _ => false
structure WPG (p : Pg) : Prop extends WPA p where
  gos : ∀ x ∈ p.modes, ∀ r ∈ x.rules, ∀ m, Ac.go m ∈ r.2 → ∃ md, p.modes.find? (fun y => decide (y.name = m)) = some md
  tells : ∀ x ∈ p.modes, ∀ r ∈ x.rules, r.2.countP isTell ≤ 3
  ne : p.modes ≠ []
structure WS (p : Pg) (s : St) : Prop where
  w : WV p.boxes s.2
  k : Sk s.1
  md : ∃ md, p.modes.find? (fun x => decide (x.name = s.1)) = some md
theorem mem_setB {x : Str} {y : Option Str} {c : Str} : ∀ {bs : List Str} {vs : List (Option Str)}, some x ∈ setB bs vs c y → some x ∈ vs ∨ y = some x
  | [], vs, h => by
    cases vs <;> exact .inl h
  | _ :: _, [], h => .inl h
  | b :: bs, v :: vs, h => by
    unfold setB at h
    split at h
    · rcases List.mem_cons.mp h with z | z
      · exact .inr z.symm
      · exact .inl (List.mem_cons_of_mem _ z)
    · rcases List.mem_cons.mp h with z | z
      · exact .inl (z ▸ List.mem_cons_self ..)
      · rcases mem_setB z with z | z
        · exact .inl (List.mem_cons_of_mem _ z)
        · exact .inr z
theorem fold_pres {p : Pg} {v : Str} {vs : List (Option Str)} (w : WV p.boxes vs) (hv : Sk v) : ∀ {acts : List Ac} {a : Acc}, (∀ ac ∈ acts, WA p.boxes ac) → (∀ m, Ac.go m ∈ acts → ∃ md, p.modes.find? (fun y => decide (y.name = m)) = some md) →
    WS p (a.2.2, a.2.1) → (∀ x, some x ∈ a.1 → Sk x) → let b := acts.foldl (actStep p.boxes vs v) a; WS p (b.2.2, b.2.1) ∧ (∀ x, some x ∈ b.1 → Sk x) ∧ b.1.length ≤ a.1.length + acts.countP isTell
  | [], a, _, _, h, h2 => ⟨h, h2, by simp⟩
  | ac :: acts, a, ha, hg, h, h2 => by
    have wa := ha ac (List.mem_cons_self ..)
    have hl : ∀ {t : Th}, WT p.boxes t → ∀ x, worth p.boxes vs t v = some x → Sk x := fun wt => worth_ok w wt hv
    have key : WS p ((actStep p.boxes vs v a ac).2.2, (actStep p.boxes vs v a ac).2.1) ∧ (∀ x, some x ∈ (actStep p.boxes vs v a ac).1 → Sk x) ∧ (actStep p.boxes vs v a ac).1.length ≤ a.1.length + (if isTell ac = true then 1 else 0) := by
      cases ac with
      | tell t =>
        refine ⟨h, fun x hx => ?_, by simp [actStep, isTell]⟩
        rcases List.mem_append.mp hx with z | z
        · exact h2 x z
        · exact hl wa x (List.mem_singleton.mp z).symm
      | put t b =>
        refine ⟨⟨⟨by rw [← h.w.len]; exact setB_len, h.w.bok, fun x hx => ?_⟩, h.k, h.md⟩, h2, by simp [actStep, isTell]⟩
        rcases mem_setB hx with z | z
        · exact h.w.ok x z
        · exact hl wa.1 x z
      | drop b =>
        refine ⟨⟨⟨by rw [← h.w.len]; exact setB_len, h.w.bok, fun x hx => ?_⟩, h.k, h.md⟩, h2, by simp [actStep, isTell]⟩
        rcases mem_setB hx with z | z
        · exact h.w.ok x z
        · cases z
      | go m => exact ⟨⟨h.w, wa, hg m (List.mem_cons_self ..)⟩, h2, by simp [actStep, isTell]⟩
    obtain ⟨k1, k2, k3⟩ := fold_pres w hv (acts := acts) (a := actStep p.boxes vs v a ac) (fun x hx => ha x (List.mem_cons_of_mem _ hx)) (fun m hm => hg m (List.mem_cons_of_mem _ hm)) key.1 key.2.1
    refine ⟨k1, k2, ?_⟩
    rw [List.countP_cons]
    have := key.2.2
    simp only [List.foldl_cons]
    omega
theorem step_pres {ws : List Str} {p : Pg} {s : St} {v : Str} (wp : WPG p) (h : WS p s) (hv : Sk v) : WS p (stepM ws p s v).2 ∧ (∀ x ∈ (stepM ws p s v).1, Sk x) ∧ (stepM ws p s v).1.length ≤ 3 := by
  obtain ⟨md, hf⟩ := h.md
  unfold stepM
  rw [hf]
  simp only
  cases hr : md.rules.find? (fun r => holds ws p.boxes s.2 v r.1) with
  | none => exact ⟨h, (fun x hx => nomatch hx), by simp⟩
  | some r =>
    have hmd := List.mem_of_find?_eq_some hf
    have hrm := List.mem_of_find?_eq_some hr
    obtain ⟨k1, k2, k3⟩ := fold_pres h.w hv (acts := r.2) (a := ([], s.2, s.1)) (wp.acts md hmd r hrm).2 (wp.gos md hmd r hrm) h (fun x hx => nomatch hx)
    refine ⟨k1, fun x hx => ?_, ?_⟩
    · simp only [List.mem_filterMap, id] at hx
      obtain ⟨o, ho, e⟩ := hx
      exact k2 x (e ▸ ho)
    · have a1 := wp.tells md hmd r hrm
      have a2 := List.length_filterMap_le id (r.2.foldl (actStep p.boxes s.2 v) ([], s.2, s.1)).1
      simp only [List.length_nil] at k3
      simp only
      omega
def lotM (ws : List Str) (p : Pg) : St → List Str → List Str × St
  | s, [] => ([], s)
  | s, v :: vs => ((stepM ws p s v).1 ++ (lotM ws p (stepM ws p s v).2 vs).1, (lotM ws p (stepM ws p s v).2 vs).2)
def lotsM (ws : List Str) (p : Pg) : St → List (List Str) → List (List Str) × St
  | s, [] => ([], s)
  | s, l :: ls => ((lotM ws p s l).1 :: (lotsM ws p (lotM ws p s l).2 ls).1, (lotsM ws p (lotM ws p s l).2 ls).2)
theorem lot_pres {ws : List Str} {p : Pg} (wp : WPG p) : ∀ {l : List Str} {s : St}, WS p s → (∀ v ∈ l, Sk v) → WS p (lotM ws p s l).2 ∧ (∀ x ∈ (lotM ws p s l).1, Sk x) ∧ (lotM ws p s l).1.length ≤ 3 * l.length
  | [], s, h, _ => ⟨h, (fun x hx => nomatch hx), by simp [lotM]⟩
  | v :: l, s, h, hv => by
    obtain ⟨k1, k2, k3⟩ := step_pres (ws := ws) wp h (hv v (List.mem_cons_self ..))
    obtain ⟨j1, j2, j3⟩ := lot_pres (ws := ws) wp (l := l) k1 (fun x hx => hv x (List.mem_cons_of_mem _ hx))
    refine ⟨j1, fun x hx => ?_, ?_⟩
    · rcases List.mem_append.mp hx with z | z
      · exact k2 x z
      · exact j2 x z
    · simp only [lotM, List.length_append, List.length_cons]; omega
theorem lots_pres {ws : List Str} {p : Pg} (wp : WPG p) : ∀ {ls : List (List Str)} {s : St} {k : Nat}, WS p s → (∀ l ∈ ls, (∀ v ∈ l, Sk v) ∧ l.length ≤ k) →
    WS p (lotsM ws p s ls).2 ∧ (∀ l ∈ (lotsM ws p s ls).1, (∀ x ∈ l, Sk x) ∧ l.length ≤ 3 * k) ∧ (lotsM ws p s ls).1.length = ls.length
  | [], s, k, h, _ => ⟨h, (fun x hx => nomatch hx), rfl⟩
  | l :: ls, s, k, h, hl => by
    obtain ⟨a1, a2⟩ := hl l (List.mem_cons_self ..)
    obtain ⟨k1, k2, k3⟩ := lot_pres (ws := ws) wp h a1
    obtain ⟨j1, j2, j3⟩ := lots_pres (ws := ws) wp (ls := ls) k1 (fun x hx => hl x (List.mem_cons_of_mem _ hx))
    refine ⟨j1, fun x hx => ?_, ?_⟩
    · rcases List.mem_cons.mp hx with z | z
      · subst z; exact ⟨k2, by omega⟩
      · exact j2 x z
    · simp only [lotsM, List.length_cons, j3]
/-! ### yes -/
theorem yes_ok {p : Pg} {m : Str} {vs : List (Option Str)} {md : Md} (hm : Sk m) (hn : ∀ x ∈ p.modes, Sk x.name) (hl : p.modes.length ≤ 1000) (hf : p.modes.find? (fun x => decide (x.name = m)) = some md) :
    D_program_yes.run [.val p.enc, .val (stE (m, vs))] = .ok (.val (.bool md.yes), []) := by
  have ix0' : ∀ {x : D}, pIx (stE (m, vs)) (.int 0) = .ok (.d (.str m)) := ix0
  have hc := comp_map (g := gT [gN 2, gN 3, gN 4]) (c := some (bVal (k2 pEq (kX 2) (k2 pIx (kX 1) (kC (.int 0)))))) (f := kX 3) (own := [2, 3, 4]) (s := [some (.val p.enc), some (.val (stE (m, vs))), none, none, none]) Md.enc
    (fun x => [some (.val p.enc), some (.val (stE (m, vs))), some (.val (.str x.name)), some (.val (.bool x.yes)), some (.val (rulesE x))]) (fun x => decide (x.name = m)) (fun x => .bool x.yes) rfl (xs := p.modes) (fun x hx => by
      refine ⟨rfl, rfl, ?_, fun _ => ?_⟩
      · simp only [run_mk, List.map_cons, List.map_nil, List.length_cons, List.length_nil, List.cons_append, List.nil_append, List.replicate_succ, List.replicate_zero, Nat.reduceAdd, Nat.reduceSub, List.getElem?_cons_zero, List.getElem?_cons_succ, List.set_cons_zero, List.set_cons_succ, R.bind_ok, sCons, sNil, sIf, sRet, retL, dropL, sSet, setL, sDrop, sUnp, sPar, lNil, lCons, kF, putL, gN, gT, gAll, kC, kX, kD, kG, kS, scl, k1, k2, L.get, L.take, T.toD, aNil, aCons, kTup, kLst, bVal, bAnd, bOr, bNot, kAnd, kOr, kNot, kIf, boolOf, kCall, cNil, cV, cMv, cPass, lend, back, resL, outs, endOf, srcAt, kSGet, kSLen, kInt, SF.get, SF.put, bl, nm, if_true, if_false, Bool.false_eq_true, Bool.not_true, Bool.not_false, bOf, stE, ix0, pEq_sk (hn x hx) hm]
      · simp only [run_mk, List.map_cons, List.map_nil, List.length_cons, List.length_nil, List.cons_append, List.nil_append, List.replicate_succ, List.replicate_zero, Nat.reduceAdd, Nat.reduceSub, List.getElem?_cons_zero, List.getElem?_cons_succ, List.set_cons_zero, List.set_cons_succ, R.bind_ok, sCons, sNil, sIf, sRet, retL, dropL, sSet, setL, sDrop, sUnp, sPar, lNil, lCons, kF, putL, gN, gT, gAll, kC, kX, kD, kG, kS, scl, k1, k2, L.get, L.take, T.toD, aNil, aCons, kTup, kLst, bVal, bAnd, bOr, bNot, kAnd, kOr, kNot, kIf, boolOf, kCall, cNil, cV, cMv, cPass, lend, back, resL, outs, endOf, srcAt, kSGet, kSLen, kInt, SF.get, SF.put, bl, nm, if_true, if_false, Bool.false_eq_true, Bool.not_true, Bool.not_false])
  have hz : szOk ((p.modes.filter fun x => decide (x.name = m)).map fun x => PyData.bool x.yes).length = true := szOk_of (by
    rw [List.length_map]
    exact Nat.le_trans (List.length_filter_le _ _) (by omega))
  obtain ⟨r, hr⟩ : ∃ r, (p.modes.filter fun x => decide (x.name = m)) = md :: r := by
    rw [← List.head?_filter] at hf
    cases e : p.modes.filter fun x => decide (x.name = m) with
    | nil => rw [e] at hf; cases hf
    | cons y r => rw [e] at hf; cases hf; exact ⟨r, rfl⟩
  have ix : ∀ (a : D) (r : List D), pIx (.list (a :: r)) (.int 0) = .ok (.d a) := fun a r => by
    have := ixD_nat (n := (a :: r).length) (r := 0) (by simp)
    simp only [pIx]
    rw [show ixD (a :: r).length 0 = some 0 from this]
    rfl
  rw [hr, List.map_cons] at hc hz
  unfold Pg.enc at hc ⊢
  simp only [run_mk, List.map_cons, List.map_nil, List.length_cons, List.length_nil, List.cons_append, List.nil_append, List.replicate_succ, List.replicate_zero, Nat.reduceAdd, Nat.reduceSub, List.getElem?_cons_zero, List.getElem?_cons_succ, List.set_cons_zero, List.set_cons_succ, R.bind_ok, sCons, sNil, sIf, sRet, retL, dropL, sSet, setL, sDrop, sUnp, sPar, lNil, lCons, kF, putL, gN, gT, gAll, kC, kX, kD, kG, kS, scl, k1, k2, L.get, L.take, T.toD, aNil, aCons, kTup, kLst, bVal, bAnd, bOr, bNot, kAnd, kOr, kNot, kIf, boolOf, kCall, cNil, cV, cMv, cPass, lend, back, resL, outs, endOf, srcAt, kSGet, kSLen, kInt, SF.get, SF.put, bl, nm, if_true, if_false, Bool.false_eq_true, Bool.not_true, Bool.not_false, D_program_yes, kComp, iSeq, seqOf, ix3, hc, hz, ix] at hz ⊢
end K07

set_option Elab.async false
set_option linter.all false
set_option maxRecDepth 100000
set_option maxHeartbeats 10000
set_option pp.maxSteps 600
namespace K07
open PySem KV
def firstM (p : Pg) : St := ((p.modes.head?.map Md.name).getD ⟨#[]⟩, List.replicate p.boxes.length none)
theorem rep_none : ∀ n : Nat, (List.replicate n [PyData.none]).flatten = (List.replicate n (none : Option Str)).map optE
  | 0 => rfl
  | n + 1 => by rw [List.replicate_succ, List.replicate_succ, List.flatten_cons, rep_none n]; rfl
theorem first_ws {p : Pg} (wp : WPG p) : WS p (firstM p) := by
  unfold firstM
  cases hm : p.modes with
  | nil => exact (wp.ne hm).elim
  | cons md r =>
    refine ⟨⟨by simp, wp.bok, fun x hx => ?_⟩, wp.mok md (by rw [hm]; exact List.mem_cons_self ..), ⟨md, by simp [hm]⟩⟩
    simp at hx
theorem first_ok {p : Pg} (wp : WPG p) : D_first_stand.run [.val p.enc] = .ok (.val (stE (firstM p)), []) := by
  unfold firstM
  cases hm : p.modes with
  | nil => exact (wp.ne hm).elim
  | cons md r =>
    have h1 : (0 : Int) ≤ ((p.boxes.length : Nat) : Int) ∧ ((p.boxes.length : Nat) : Int) ≤ 1000 ∧ [PyData.none].length ≤ 1000 := ⟨Int.natCast_nonneg _, by have := wp.fewB; omega, by decide⟩
    have e : pMul (.tuple [.none]) (.int (p.boxes.length : Nat)) = .ok (.d (valsE (List.replicate p.boxes.length none))) := by
      unfold pMul
      simp only [h1, and_self, if_true, Int.toNat_natCast, rep_none, valsE]
    have e0 : pLen (strsE p.boxes) = .ok (.d (.int (p.boxes.length : Nat))) := by
      show nm _ = _
      rw [List.length_map]
      rfl
    simp only [run_mk, List.map_cons, List.map_nil, List.length_cons, List.length_nil, List.cons_append, List.nil_append, List.replicate_succ, List.replicate_zero, Nat.reduceAdd, Nat.reduceSub, List.getElem?_cons_zero, List.getElem?_cons_succ, List.set_cons_zero, List.set_cons_succ, R.bind_ok, sCons, sNil, sIf, sRet, retL, dropL, sSet, setL, sDrop, sUnp, sPar, lNil, lCons, kF, putL, gN, gT, gAll, kC, kX, kD, kG, kS, scl, k1, k2, L.get, L.take, T.toD, aNil, aCons, kTup, kLst, bVal, bAnd, bOr, bNot, kAnd, kOr, kNot, kIf, boolOf, kCall, cNil, cV, cMv, cPass, lend, back, resL, outs, endOf, srcAt, kSGet, kSLen, kInt, SF.get, SF.put, bl, nm, if_true, if_false, Bool.false_eq_true, Bool.not_true, Bool.not_false, D_first_stand, Pg.enc, hm, Md.enc, ix0, e0, e, szOk1, szOk2, stE, List.head?_cons, Option.map_some, Option.getD_some]
def runM (ws : List Str) (p : Pg) (lots : List (List Str)) : List (List Str) × St := lotsM ws p (firstM p) lots
def prS (ws : List Str) (p lots : D) (s : St) (found : List (List Str)) (lot : Option T) (told : List Str) (v a : Option T) : Sl :=
  [some (.val (strsE ws)), some (.val p), some (.val lots), some (.val (stE s)), some (.lst (found.map strsE)), lot, some (.lst (told.map PyData.str)), v, a]
abbrev prI : SV := (sCons (sUnp (gT [(gN 8), (gN 3)]) (kCall (D_program_step).run (cV (kX 0) (cV (kX 1) (cV (kX 3) (cV (kX 7) cNil))))))
    (sCons (sDrop (kExt 6 (kX 8)))
    sNil))
theorem pr_for {ws : List Str} {p : Pg} {lots : D} {found : List (List Str)} {lot : Option T} (wp : WPG p) (hw : ∀ x ∈ ws, Sk x) : ∀ {l : List Str} {s : St} {told : List Str} {v a : Option T}, WS p s → (∀ x ∈ l, Sk x) → told.length + 3 * l.length ≤ 1000000 →
    ∃ v' a', forD (gN 7) prI (l.map PyData.str) (prS ws p.enc lots s found lot told v a) = .ok (.nx, prS ws p.enc lots (lotM ws p s l).2 found lot (told ++ (lotM ws p s l).1) v' a')
  | [], s, told, v, a, _, _, _ => ⟨v, a, by simp [forD, lotM]⟩
  | x :: l, s, told, v, a, h, hl, hn => by
    have hx := hl x (List.mem_cons_self ..)
    obtain ⟨md, hf⟩ := h.md
    have e := step_ok (ws := ws) wp.toWPA h.w hw hx h.k hf
    obtain ⟨k1, k2, k3⟩ := step_pres (ws := ws) wp h hx
    simp only [List.length_cons] at hn
    obtain ⟨v', a', e2⟩ := pr_for wp hw (lots := lots) (found := found) (lot := lot) (l := l) (s := (stepM ws p s x).2) (told := told ++ (stepM ws p s x).1) (v := some (.val (.str x))) (a := some (.val (strsE (stepM ws p s x).1))) k1 (fun y hy => hl y (List.mem_cons_of_mem _ hy)) (by rw [List.length_append]; omega)
    refine ⟨v', a', ?_⟩
    have hz : szOk ((told.map PyData.str).length + ((stepM ws p s x).1.map PyData.str).length) = true := szOk_of (by simp only [List.length_map]; omega)
    have e0 : D_program_step.run [.val (strsE ws), .val p.enc, .val (stE s), .val (.str x)] = .ok (.val (ansE (stepM ws p s x)), []) := e
    simp only [prS, strsE, List.map_append, prI] at e2
    rw [List.map_cons]
    unfold forD
    simp only [strsE] at e0
    simp only [run_mk, List.map_cons, List.map_nil, List.length_cons, List.length_nil, List.cons_append, List.nil_append, List.replicate_succ, List.replicate_zero, Nat.reduceAdd, Nat.reduceSub, List.getElem?_cons_zero, List.getElem?_cons_succ, List.set_cons_zero, List.set_cons_succ, R.bind_ok, sCons, sNil, sIf, sRet, retL, dropL, sSet, setL, sDrop, sUnp, sPar, lNil, lCons, kF, putL, gN, gT, gAll, kC, kX, kD, kG, kS, scl, k1, k2, L.get, L.take, T.toD, aNil, aCons, kTup, kLst, bVal, bAnd, bOr, bNot, kAnd, kOr, kNot, kIf, boolOf, kCall, cNil, cV, cMv, cPass, lend, back, resL, outs, endOf, srcAt, kSGet, kSLen, kInt, SF.get, SF.put, bl, nm, if_true, if_false, Bool.false_eq_true, Bool.not_true, Bool.not_false, prS, prI, e0, ansE, strsE, kExt, seqOf, hz, e2, lotM, List.append_assoc, List.map_append]
end K07

set_option Elab.async false
set_option linter.all false
set_option maxRecDepth 100000
set_option maxHeartbeats 10000
set_option pp.maxSteps 600
namespace K07
open PySem KV
def lotsE (ls : List (List Str)) : D := .tuple (ls.map strsE)
def poS (ws : List Str) (p lots : D) (s : St) (found : List (List Str)) (lot told v a : Option T) : Sl :=
  [some (.val (strsE ws)), some (.val p), some (.val lots), some (.val (stE s)), some (.lst (found.map strsE)), lot, told, v, a]
abbrev poB : SV := (sCons (sSet 6 (kLst aNil))
    (sCons (sFor (iSeq (kX 5)) (gN 7) prI)
    (sCons (sDrop (kApp 4 (k1 pTuple (kX 6))))
    sNil)))
theorem po_for {ws : List Str} {p : Pg} {lots : D} (wp : WPG p) (hw : ∀ x ∈ ws, Sk x) : ∀ {ls : List (List Str)} {s : St} {found : List (List Str)} {lot told v a : Option T}, WS p s → (∀ l ∈ ls, (∀ x ∈ l, Sk x) ∧ l.length ≤ 1000) → found.length + ls.length ≤ 1000000 →
    ∃ lot' told' v' a', forD (gN 5) poB (ls.map strsE) (poS ws p.enc lots s found lot told v a) = .ok (.nx, poS ws p.enc lots (lotsM ws p s ls).2 (found ++ (lotsM ws p s ls).1) lot' told' v' a')
  | [], s, found, lot, told, v, a, _, _, _ => ⟨lot, told, v, a, by simp [forD, lotsM]⟩
  | l :: ls, s, found, lot, told, v, a, h, hl, hn => by
    obtain ⟨hx, hlen⟩ := hl l (List.mem_cons_self ..)
    obtain ⟨w1, w2, w3⟩ := lot_pres (ws := ws) wp h hx
    simp only [List.length_cons] at hn
    obtain ⟨v1, a1, e⟩ := pr_for wp hw (lots := lots) (found := found) (lot := some (.val (strsE l))) (l := l) (s := s) (told := []) (v := v) (a := a) h hx (by simp only [List.length_nil]; omega)
    obtain ⟨lot', told', v', a', e2⟩ := po_for wp hw (lots := lots) (ls := ls) (s := (lotM ws p s l).2) (found := found ++ [(lotM ws p s l).1]) (lot := some (.val (strsE l))) (told := some (.lst ((lotM ws p s l).1.map PyData.str))) (v := v1) (a := a1) w1 (fun y hy => hl y (List.mem_cons_of_mem _ hy)) (by rw [List.length_append, List.length_singleton]; omega)
    refine ⟨lot', told', v', a', ?_⟩
    have hz : szOk ((found.map strsE).length + 1) = true := szOk_of (by simp only [List.length_map]; omega)
    simp only [prS, strsE, List.map_nil, List.nil_append] at e
    simp only [poS, poB, List.map_append, strsE, List.map_cons, List.map_nil] at e2
    rw [List.map_cons]
    unfold forD
    simp only [run_mk, List.map_cons, List.map_nil, List.length_cons, List.length_nil, List.cons_append, List.nil_append, List.replicate_succ, List.replicate_zero, Nat.reduceAdd, Nat.reduceSub, List.getElem?_cons_zero, List.getElem?_cons_succ, List.set_cons_zero, List.set_cons_succ, R.bind_ok, sCons, sNil, sIf, sRet, retL, dropL, sSet, setL, sDrop, sUnp, sPar, lNil, lCons, kF, putL, gN, gT, gAll, kC, kX, kD, kG, kS, scl, k1, k2, L.get, L.take, T.toD, aNil, aCons, kTup, kLst, bVal, bAnd, bOr, bNot, kAnd, kOr, kNot, kIf, boolOf, kCall, cNil, cV, cMv, cPass, lend, back, resL, outs, endOf, srcAt, kSGet, kSLen, kInt, SF.get, SF.put, bl, nm, if_true, if_false, Bool.false_eq_true, Bool.not_true, Bool.not_false, poS, poB, sFor, iSeq, seqOf, strsE, e, kApp, pTuple, hz, szOk0, e2, lotsM, List.append_assoc, List.map_append]
theorem run_ok {ws : List Str} {p : Pg} {lots : List (List Str)} {ld : D} (hq : seqOf ld = .ok (lots.map strsE)) (wp : WPG p) (hw : ∀ x ∈ ws, Sk x) (hl : ∀ l ∈ lots, (∀ x ∈ l, Sk x) ∧ l.length ≤ 1000) (hn : lots.length ≤ 1000) :
    ∃ md, p.modes.find? (fun x => decide (x.name = (runM ws p lots).2.1)) = some md ∧
    D_program_run.run [.val (strsE ws), .val p.enc, .val ld] = .ok (.val (.tuple [lotsE (runM ws p lots).1, .bool md.yes, stE (runM ws p lots).2]), []) := by
  have h0 := first_ws wp
  have ef := first_ok wp
  obtain ⟨w1, w2, w3⟩ := lots_pres (ws := ws) wp (k := 1000) h0 hl
  obtain ⟨lot', told', v', a', e⟩ := po_for (ws := ws) wp hw (lots := ld) (ls := lots) (found := []) (lot := none) (told := none) (v := none) (a := none) h0 hl (by simp; omega)
  obtain ⟨md, hf⟩ := w1.md
  refine ⟨md, hf, ?_⟩
  have ey := yes_ok (vs := (lotsM ws p (firstM p) lots).2.2) w1.k wp.mok wp.few hf
  have ey' : D_program_yes.run [.val p.enc, .val (stE (lotsM ws p (firstM p) lots).2)] = .ok (.val (.bool md.yes), []) := ey
  simp only [poS, List.map_nil, List.nil_append, lotsE] at e
  simp only [run_mk, List.map_cons, List.map_nil, List.length_cons, List.length_nil, List.cons_append, List.nil_append, List.replicate_succ, List.replicate_zero, Nat.reduceAdd, Nat.reduceSub, List.getElem?_cons_zero, List.getElem?_cons_succ, List.set_cons_zero, List.set_cons_succ, R.bind_ok, sCons, sNil, sIf, sRet, retL, dropL, sSet, setL, sDrop, sUnp, sPar, lNil, lCons, kF, putL, gN, gT, gAll, kC, kX, kD, kG, kS, scl, k1, k2, L.get, L.take, T.toD, aNil, aCons, kTup, kLst, bVal, bAnd, bOr, bNot, kAnd, kOr, kNot, kIf, boolOf, kCall, cNil, cV, cMv, cPass, lend, back, resL, outs, endOf, srcAt, kSGet, kSLen, kInt, SF.get, SF.put, bl, nm, if_true, if_false, Bool.false_eq_true, Bool.not_true, Bool.not_false, D_program_run, sFor, iSeq, hq, ef, szOk0, szOk3, lotsE, e, pTuple, ey', runM]
end K07

set_option Elab.async false
set_option linter.all false
set_option maxRecDepth 100000
set_option maxHeartbeats 4000000
set_option pp.maxSteps 600
namespace K07
open PySem KV
/-! ### dict(zip(boxes, values)) -/
def kvE (bs : List Str) (vs : List (Option Str)) : List (D × D) := (bs.map PyData.str).zip (vs.map optE)
theorem merge_nodup : ∀ (bs : List Str) (ds : List D) (acc : List (D × D)), bs.Nodup → (∀ b ∈ bs, hasB acc (.str b) = false) → mergeD acc ((bs.map PyData.str).zip ds) = acc ++ (bs.map PyData.str).zip ds
  | [], ds, acc, _, _ => by simp [mergeD]
  | b :: bs, [], acc, _, _ => by simp [mergeD]
  | b :: bs, d :: ds, acc, hn, ha => by
    obtain ⟨h1, h2⟩ := List.nodup_cons.mp hn
    have hb := ha b (List.mem_cons_self ..)
    rw [List.map_cons, List.zip_cons_cons]
    unfold mergeD
    have hp : putD acc (.str b) d = acc ++ [(.str b, d)] := by unfold putD; rw [hb]; rfl
    rw [hp, merge_nodup bs ds _ h2 (fun c hc => ?_), List.append_assoc]
    · rfl
    · unfold hasB
      rw [List.any_append]
      have e1 : (acc.any fun p => PyData.eqv p.1 (.str c)) = false := ha c (List.mem_cons_of_mem _ hc)
      have e2 : PyData.eqv (.str b) (.str c) = false := by rw [eqv_str]; exact decide_eq_false (fun z => h1 (z ▸ hc))
      rw [e1]
      simp [e2]
theorem look_zip : ∀ {bs : List Str} {vs : List (Option Str)} {b : Str}, b ∈ bs → vs.length = bs.length → lookD (kvE bs vs) (.str b) = some (optE (look bs vs b))
  | [], _, _, h, _ => nomatch h
  | c :: bs, [], _, _, h => by simp at h
  | c :: bs, v :: vs, b, h, hl => by
    unfold kvE lookD
    rw [List.map_cons, List.map_cons, List.zip_cons_cons, List.find?_cons]
    by_cases e : c = b
    · subst e
      simp only [eqv_str_self, look, if_true, Option.map_some]
    · have e2 : PyData.eqv (.str c) (.str b) = false := by rw [eqv_str]; exact decide_eq_false e
      have hb : b ∈ bs := (List.mem_cons.mp h).resolve_left (fun z => e z.symm)
      have := look_zip (bs := bs) (vs := vs) hb (by simpa using hl)
      simp only [e2, look, if_neg e]
      exact this
theorem known_ix {bs : List Str} {vs : List (Option Str)} {b : Str} (h : b ∈ bs) (hl : vs.length = bs.length) : pIx (.dict (kvE bs vs)) (.str b) = .ok (.d (optE (look bs vs b))) := by
  simp only [pIx, keyOf, Option.isSome_some, if_true, look_zip h hl, optD]
theorem dz_ev {bs : List Str} {vs : List (Option Str)} {i j : Nat} {s : Sl} (hn : bs.Nodup) (h1 : s[i]? = some (some (.val (strsE bs)))) (h2 : s[j]? = some (some (.val (valsE vs)))) : kDictZip (kX i) (kX j) s = .ok (.t (.dct (kvE bs vs)), s) := by
  have ha : (bs.map PyData.str).all (fun x => (keyOf x).isSome) = true := by
    rw [List.all_eq_true]
    intro x hx
    obtain ⟨b, _, rfl⟩ := List.mem_map.mp hx
    rfl
  have hm : mergeD [] ((bs.map PyData.str).zip (vs.map optE)) = kvE bs vs := merge_nodup bs _ [] hn (fun _ _ => rfl)
  unfold strsE at h1
  unfold valsE at h2
  simp only [kDictZip, kD, kX, h1, h2, R.bind_ok, L.take, ha, if_true, hm]
theorem dz_w {bs : List Str} {vs : List (Option Str)} {r : Sl} (hn : bs.Nodup) : kDictZip (kX 0) (kX 1) (some (.val (strsE bs)) :: some (.val (valsE vs)) :: r) = .ok (.t (.dct (kvE bs vs)), some (.val (strsE bs)) :: some (.val (valsE vs)) :: r) := dz_ev hn rfl rfl
theorem dz_h {bs : List Str} {vs : List (Option Str)} {a : Option T} {r : Sl} (hn : bs.Nodup) : kDictZip (kX 1) (kX 2) (a :: some (.val (strsE bs)) :: some (.val (valsE vs)) :: r) = .ok (.t (.dct (kvE bs vs)), a :: some (.val (strsE bs)) :: some (.val (valsE vs)) :: r) := dz_ev hn rfl rfl
theorem eq_it_it : pEq (.tuple [.str "it"]) (.tuple [.str "it"]) = bl true := by kernel_rfl
theorem eq_th_it {bs : List Str} {t : Th} (hb : ∀ b ∈ bs, Sk b) (wt : WT bs t) : pEq t.enc (.tuple [.str "it"]) = bl (match t with | .it => true | _ => false) := by
  have h1 : eqOk t.enc = true := (fit_th hb wt).eqOk (by decide)
  rw [pEq_of h1 (by kernel_rfl)]
  cases t with
  | it => rfl
  | box b => rfl
  | word x => rfl
theorem lworth_ok {bs : List Str} {vs : List (Option Str)} {t : Th} {v : Str} (w : WV bs vs) (hn : bs.Nodup) (wt : WT bs t) : D_u_law_worth.run [.val (strsE bs), .val (valsE vs), .val t.enc, .val (.str v)] = .ok (.val (optE (worth bs vs t v)), []) := by
  have e0 := eq_th_it w.bok wt
  cases t with
  | it =>
    simp only at e0
    simp only [run_mk, List.map_cons, List.map_nil, List.length_cons, List.length_nil, List.cons_append, List.nil_append, List.replicate_succ, List.replicate_zero, Nat.reduceAdd, Nat.reduceSub, List.getElem?_cons_zero, List.getElem?_cons_succ, List.set_cons_zero, List.set_cons_succ, R.bind_ok, sCons, sNil, sIf, sRet, retL, dropL, sSet, setL, sDrop, sUnp, sPar, lNil, lCons, kF, putL, gN, gT, gAll, kC, kX, kD, kG, kS, scl, k1, k2, L.get, L.take, T.toD, aNil, aCons, kTup, kLst, bVal, bAnd, bOr, bNot, kAnd, kOr, kNot, kIf, boolOf, kCall, cNil, cV, cMv, cPass, lend, back, resL, outs, endOf, srcAt, kSGet, kSLen, kInt, SF.get, SF.put, bl, nm, if_true, if_false, Bool.false_eq_true, Bool.not_true, Bool.not_false, D_u_law_worth, szOk1, e0]
    rfl
  | word x =>
    simp only at e0
    have i0 : pIx (Th.word x).enc (.int 0) = .ok (.d (.str "word")) := ix0
    have i1 : pIx (Th.word x).enc (.int 1) = .ok (.d (.str x)) := ix1
    simp only [run_mk, List.map_cons, List.map_nil, List.length_cons, List.length_nil, List.cons_append, List.nil_append, List.replicate_succ, List.replicate_zero, Nat.reduceAdd, Nat.reduceSub, List.getElem?_cons_zero, List.getElem?_cons_succ, List.set_cons_zero, List.set_cons_succ, R.bind_ok, sCons, sNil, sIf, sRet, retL, dropL, sSet, setL, sDrop, sUnp, sPar, lNil, lCons, kF, putL, gN, gT, gAll, kC, kX, kD, kG, kS, scl, k1, k2, L.get, L.take, T.toD, aNil, aCons, kTup, kLst, bVal, bAnd, bOr, bNot, kAnd, kOr, kNot, kIf, boolOf, kCall, cNil, cV, cMv, cPass, lend, back, resL, outs, endOf, srcAt, kSGet, kSLen, kInt, SF.get, SF.put, bl, nm, if_true, if_false, Bool.false_eq_true, Bool.not_true, Bool.not_false, D_u_law_worth, szOk1, e0, i0, i1, q_word_box]
    rfl
  | box b =>
    simp only at e0
    have i0 : pIx (Th.box b).enc (.int 0) = .ok (.d (.str "box")) := ix0
    have i1 : pIx (Th.box b).enc (.int 1) = .ok (.d (.str b)) := ix1
    have e := known_ix (vs := vs) wt w.len
    simp only [run_mk, List.map_cons, List.map_nil, List.length_cons, List.length_nil, List.cons_append, List.nil_append, List.replicate_succ, List.replicate_zero, Nat.reduceAdd, Nat.reduceSub, List.getElem?_cons_zero, List.getElem?_cons_succ, List.set_cons_zero, List.set_cons_succ, R.bind_ok, sCons, sNil, sIf, sRet, retL, dropL, sSet, setL, sDrop, sUnp, sPar, lNil, lCons, kF, putL, gN, gT, gAll, kC, kX, kD, kG, kS, scl, k1, k2, L.get, L.take, T.toD, aNil, aCons, kTup, kLst, bVal, bAnd, bOr, bNot, kAnd, kOr, kNot, kIf, boolOf, kCall, cNil, cV, cMv, cPass, lend, back, resL, outs, endOf, srcAt, kSGet, kSLen, kInt, SF.get, SF.put, bl, nm, if_true, if_false, Bool.false_eq_true, Bool.not_true, Bool.not_false, D_u_law_worth, szOk1, e0, i0, i1, q_box_box, dz_w hn, e]
    rfl
end K07

set_option Elab.async false
set_option linter.all false
set_option maxRecDepth 100000
set_option maxHeartbeats 4000000
set_option pp.maxSteps 600
namespace K07
open PySem KV
theorem an_any : pIn (.str "any") (.tuple [.str "any", .str "new"]) = bl true := by kernel_rfl
theorem an_new : pIn (.str "new") (.tuple [.str "any", .str "new"]) = bl true := by kernel_rfl
theorem an_it : pIn (.str "it") (.tuple [.str "any", .str "new"]) = bl false := by kernel_rfl
theorem an_empty : pIn (.str "empty") (.tuple [.str "any", .str "new"]) = bl false := by kernel_rfl
theorem an_same : pIn (.str "same") (.tuple [.str "any", .str "new"]) = bl false := by kernel_rfl
theorem an_not : pIn (.str "not") (.tuple [.str "any", .str "new"]) = bl false := by kernel_rfl
theorem an_and : pIn (.str "and") (.tuple [.str "any", .str "new"]) = bl false := by kernel_rfl
theorem an_or : pIn (.str "or") (.tuple [.str "any", .str "new"]) = bl false := by kernel_rfl
theorem ao_it : pIn (.str "it") (.tuple [.str "and", .str "or"]) = bl false := by kernel_rfl
theorem ao_empty : pIn (.str "empty") (.tuple [.str "and", .str "or"]) = bl false := by kernel_rfl
theorem ao_same : pIn (.str "same") (.tuple [.str "and", .str "or"]) = bl false := by kernel_rfl
theorem ao_and : pIn (.str "and") (.tuple [.str "and", .str "or"]) = bl true := by kernel_rfl
theorem ao_or : pIn (.str "or") (.tuple [.str "and", .str "or"]) = bl true := by kernel_rfl
theorem nin_two (a b : Bool) : pNotIn (.bool false) (.list [.bool a, .bool b]) = bl (a && b) := by
  cases a <;> cases b <;> kernel_rfl
theorem in_two (a b : Bool) : pIn (.bool true) (.list [.bool a, .bool b]) = bl (a || b) := by
  cases a <;> cases b <;> kernel_rfl
theorem notIn_list {v : Str} {xs : List Str} (hv : Sk v) (h : ∀ x ∈ xs, Sk x) : pNotIn (.str v) (.list (xs.map PyData.str)) = bl (!decide (v ∈ xs)) := by
  have h1 : eqOk (.list (xs.map PyData.str)) = true := (fit_lst (fit_strs h) (Nat.le_refl _)).eqOk (by decide)
  have h2 : inB (.str v) (xs.map PyData.str) = decide (v ∈ xs) := by
    unfold inB
    rw [List.any_map]
    rw [Bool.eq_iff_iff, List.any_eq_true, decide_eq_true_iff]
    constructor
    · rintro ⟨x, hx, e⟩
      simp only [Function.comp, eqv_str, decide_eq_true_eq] at e
      exact e ▸ hx
    · intro hx
      exact ⟨v, hx, by simp [eqv_str]⟩
  unfold pNotIn pIn
  simp only [eqOk_sk hv, h1, Bool.and_self, if_true, h2, R.bind_ok, bl]
theorem somes_comp {a b c d e f g h : Option T} {vs : List (Option Str)} : compD (gN 7) (some (bVal (k1 pNotN (kX 7)))) (kX 7) [7] (vs.map optE) [a, b, c, d, e, f, g, none, h] = .ok ((vs.filterMap id).map PyData.str, [a, b, c, d, e, f, g, none, h]) := by
  have hc := comp_map (g := gN 7) (c := some (bVal (k1 pNotN (kX 7)))) (f := kX 7) (own := [7]) (s := [a, b, c, d, e, f, g, none, h]) optE (fun o => [a, b, c, d, e, f, g, some (.val (optE o)), h]) (·.isSome) optE rfl (xs := vs)
    (fun o _ => ⟨rfl, rfl, by cases o <;> rfl, fun _ => rfl⟩)
  rw [hc, some_strs]
theorem mem_somes {v : Str} {vs : List (Option Str)} : decide (v ∈ vs.filterMap id) = decide (some v ∈ vs) := by
  by_cases h : some v ∈ vs
  · rw [decide_eq_true h, decide_eq_true]
    rw [List.mem_filterMap]
    exact ⟨_, h, rfl⟩
  · rw [decide_eq_false h, decide_eq_false]
    rw [List.mem_filterMap]
    rintro ⟨x, hx, e⟩
    exact h (show some v ∈ vs from (show x = some v from e) ▸ hx)
theorem lholds_ok {ws bs : List Str} {vs : List (Option Str)} {v : Str} (w : WV bs vs) (hn : bs.Nodup) (hlen : vs.length ≤ 1000) (hw : ∀ x ∈ ws, Sk x) (hv : Sk v) : ∀ {n : Nat} {c : Cd}, WC bs c → c.hgt < n →
    (D_u_law_holds n).run [.val (strsE ws), .val (strsE bs), .val (valsE vs), .val c.enc, .val (.str v)] = .ok (.val (.bool (holds ws bs vs v c)), [])
  | 0, _, _, h => absurd h (Nat.not_lt_zero _)
  | n + 1, .any, _, _ => by simp only [run_mk, List.map_cons, List.map_nil, List.length_cons, List.length_nil, List.cons_append, List.nil_append, List.replicate_succ, List.replicate_zero, Nat.reduceAdd, Nat.reduceSub, List.getElem?_cons_zero, List.getElem?_cons_succ, List.set_cons_zero, List.set_cons_succ, R.bind_ok, sCons, sNil, sIf, sRet, retL, dropL, sSet, setL, sDrop, sUnp, sPar, lNil, lCons, kF, putL, gN, gT, gAll, kC, kX, kD, kG, kS, scl, k1, k2, L.get, L.take, T.toD, aNil, aCons, kTup, kLst, bVal, bAnd, bOr, bNot, kAnd, kOr, kNot, kIf, boolOf, kCall, cNil, cV, cMv, cPass, lend, back, resL, outs, endOf, srcAt, kSGet, kSLen, kInt, SF.get, SF.put, bl, nm, if_true, if_false, Bool.false_eq_true, Bool.not_true, Bool.not_false, D_u_law_holds, Cd.enc, ix0, dz_h hn, szOk2, an_any, q_it_it, q_it_box, q_it_word, q_it_any, q_it_new, q_it_empty, q_it_same, q_it_not, q_it_and, q_it_or, q_it_tell, q_it_put, q_it_drop, q_it_go, q_it_then, q_it_run, q_it_program, q_it_pipe, q_it_promise, q_box_it, q_box_box, q_box_word, q_box_any, q_box_new, q_box_empty, q_box_same, q_box_not, q_box_and, q_box_or, q_box_tell, q_box_put, q_box_drop, q_box_go, q_box_then, q_box_run, q_box_program, q_box_pipe, q_box_promise, q_word_it, q_word_box, q_word_word, q_word_any, q_word_new, q_word_empty, q_word_same, q_word_not, q_word_and, q_word_or, q_word_tell, q_word_put, q_word_drop, q_word_go, q_word_then, q_word_run, q_word_program, q_word_pipe, q_word_promise, q_any_it, q_any_box, q_any_word, q_any_any, q_any_new, q_any_empty, q_any_same, q_any_not, q_any_and, q_any_or, q_any_tell, q_any_put, q_any_drop, q_any_go, q_any_then, q_any_run, q_any_program, q_any_pipe, q_any_promise, q_new_it, q_new_box, q_new_word, q_new_any, q_new_new, q_new_empty, q_new_same, q_new_not, q_new_and, q_new_or, q_new_tell, q_new_put, q_new_drop, q_new_go, q_new_then, q_new_run, q_new_program, q_new_pipe, q_new_promise, q_empty_it, q_empty_box, q_empty_word, q_empty_any, q_empty_new, q_empty_empty, q_empty_same, q_empty_not, q_empty_and, q_empty_or, q_empty_tell, q_empty_put, q_empty_drop, q_empty_go, q_empty_then, q_empty_run, q_empty_program, q_empty_pipe, q_empty_promise, q_same_it, q_same_box, q_same_word, q_same_any, q_same_new, q_same_empty, q_same_same, q_same_not, q_same_and, q_same_or, q_same_tell, q_same_put, q_same_drop, q_same_go, q_same_then, q_same_run, q_same_program, q_same_pipe, q_same_promise, q_not_it, q_not_box, q_not_word, q_not_any, q_not_new, q_not_empty, q_not_same, q_not_not, q_not_and, q_not_or, q_not_tell, q_not_put, q_not_drop, q_not_go, q_not_then, q_not_run, q_not_program, q_not_pipe, q_not_promise, q_and_it, q_and_box, q_and_word, q_and_any, q_and_new, q_and_empty, q_and_same, q_and_not, q_and_and, q_and_or, q_and_tell, q_and_put, q_and_drop, q_and_go, q_and_then, q_and_run, q_and_program, q_and_pipe, q_and_promise, q_or_it, q_or_box, q_or_word, q_or_any, q_or_new, q_or_empty, q_or_same, q_or_not, q_or_and, q_or_or, q_or_tell, q_or_put, q_or_drop, q_or_go, q_or_then, q_or_run, q_or_program, q_or_pipe, q_or_promise, q_tell_it, q_tell_box, q_tell_word, q_tell_any, q_tell_new, q_tell_empty, q_tell_same, q_tell_not, q_tell_and, q_tell_or, q_tell_tell, q_tell_put, q_tell_drop, q_tell_go, q_tell_then, q_tell_run, q_tell_program, q_tell_pipe, q_tell_promise, q_put_it, q_put_box, q_put_word, q_put_any, q_put_new, q_put_empty, q_put_same, q_put_not, q_put_and, q_put_or, q_put_tell, q_put_put, q_put_drop, q_put_go, q_put_then, q_put_run, q_put_program, q_put_pipe, q_put_promise, q_drop_it, q_drop_box, q_drop_word, q_drop_any, q_drop_new, q_drop_empty, q_drop_same, q_drop_not, q_drop_and, q_drop_or, q_drop_tell, q_drop_put, q_drop_drop, q_drop_go, q_drop_then, q_drop_run, q_drop_program, q_drop_pipe, q_drop_promise, q_go_it, q_go_box, q_go_word, q_go_any, q_go_new, q_go_empty, q_go_same, q_go_not, q_go_and, q_go_or, q_go_tell, q_go_put, q_go_drop, q_go_go, q_go_then, q_go_run, q_go_program, q_go_pipe, q_go_promise, q_then_it, q_then_box, q_then_word, q_then_any, q_then_new, q_then_empty, q_then_same, q_then_not, q_then_and, q_then_or, q_then_tell, q_then_put, q_then_drop, q_then_go, q_then_then, q_then_run, q_then_program, q_then_pipe, q_then_promise, q_run_it, q_run_box, q_run_word, q_run_any, q_run_new, q_run_empty, q_run_same, q_run_not, q_run_and, q_run_or, q_run_tell, q_run_put, q_run_drop, q_run_go, q_run_then, q_run_run, q_run_program, q_run_pipe, q_run_promise, q_program_it, q_program_box, q_program_word, q_program_any, q_program_new, q_program_empty, q_program_same, q_program_not, q_program_and, q_program_or, q_program_tell, q_program_put, q_program_drop, q_program_go, q_program_then, q_program_run, q_program_program, q_program_pipe, q_program_promise, q_pipe_it, q_pipe_box, q_pipe_word, q_pipe_any, q_pipe_new, q_pipe_empty, q_pipe_same, q_pipe_not, q_pipe_and, q_pipe_or, q_pipe_tell, q_pipe_put, q_pipe_drop, q_pipe_go, q_pipe_then, q_pipe_run, q_pipe_program, q_pipe_pipe, q_pipe_promise, q_promise_it, q_promise_box, q_promise_word, q_promise_any, q_promise_new, q_promise_empty, q_promise_same, q_promise_not, q_promise_and, q_promise_or, q_promise_tell, q_promise_put, q_promise_drop, q_promise_go, q_promise_then, q_promise_run, q_promise_program, q_promise_pipe, q_promise_promise]; rfl
  | n + 1, .new, _, _ => by
    have hz : szOk ((vs.filterMap id).map PyData.str).length = true := szOk_of (by rw [List.length_map]; exact Nat.le_trans (List.length_filterMap_le ..) (by omega))
    have h3 : ∀ x ∈ vs.filterMap id, Sk x := fun x hx => by
      obtain ⟨o, ho, e⟩ := List.mem_filterMap.mp hx
      exact w.ok x ((show o = some x from e) ▸ ho)
    have hq : seqOf (valsE vs) = .ok (vs.map optE) := rfl
    simp only [run_mk, List.map_cons, List.map_nil, List.length_cons, List.length_nil, List.cons_append, List.nil_append, List.replicate_succ, List.replicate_zero, Nat.reduceAdd, Nat.reduceSub, List.getElem?_cons_zero, List.getElem?_cons_succ, List.set_cons_zero, List.set_cons_succ, R.bind_ok, sCons, sNil, sIf, sRet, retL, dropL, sSet, setL, sDrop, sUnp, sPar, lNil, lCons, kF, putL, gN, gT, gAll, kC, kX, kD, kG, kS, scl, k1, k2, L.get, L.take, T.toD, aNil, aCons, kTup, kLst, bVal, bAnd, bOr, bNot, kAnd, kOr, kNot, kIf, boolOf, kCall, cNil, cV, cMv, cPass, lend, back, resL, outs, endOf, srcAt, kSGet, kSLen, kInt, SF.get, SF.put, bl, nm, if_true, if_false, Bool.false_eq_true, Bool.not_true, Bool.not_false, D_u_law_holds, Cd.enc, ix0, dz_h hn, szOk2, an_new, q_it_it, q_it_box, q_it_word, q_it_any, q_it_new, q_it_empty, q_it_same, q_it_not, q_it_and, q_it_or, q_it_tell, q_it_put, q_it_drop, q_it_go, q_it_then, q_it_run, q_it_program, q_it_pipe, q_it_promise, q_box_it, q_box_box, q_box_word, q_box_any, q_box_new, q_box_empty, q_box_same, q_box_not, q_box_and, q_box_or, q_box_tell, q_box_put, q_box_drop, q_box_go, q_box_then, q_box_run, q_box_program, q_box_pipe, q_box_promise, q_word_it, q_word_box, q_word_word, q_word_any, q_word_new, q_word_empty, q_word_same, q_word_not, q_word_and, q_word_or, q_word_tell, q_word_put, q_word_drop, q_word_go, q_word_then, q_word_run, q_word_program, q_word_pipe, q_word_promise, q_any_it, q_any_box, q_any_word, q_any_any, q_any_new, q_any_empty, q_any_same, q_any_not, q_any_and, q_any_or, q_any_tell, q_any_put, q_any_drop, q_any_go, q_any_then, q_any_run, q_any_program, q_any_pipe, q_any_promise, q_new_it, q_new_box, q_new_word, q_new_any, q_new_new, q_new_empty, q_new_same, q_new_not, q_new_and, q_new_or, q_new_tell, q_new_put, q_new_drop, q_new_go, q_new_then, q_new_run, q_new_program, q_new_pipe, q_new_promise, q_empty_it, q_empty_box, q_empty_word, q_empty_any, q_empty_new, q_empty_empty, q_empty_same, q_empty_not, q_empty_and, q_empty_or, q_empty_tell, q_empty_put, q_empty_drop, q_empty_go, q_empty_then, q_empty_run, q_empty_program, q_empty_pipe, q_empty_promise, q_same_it, q_same_box, q_same_word, q_same_any, q_same_new, q_same_empty, q_same_same, q_same_not, q_same_and, q_same_or, q_same_tell, q_same_put, q_same_drop, q_same_go, q_same_then, q_same_run, q_same_program, q_same_pipe, q_same_promise, q_not_it, q_not_box, q_not_word, q_not_any, q_not_new, q_not_empty, q_not_same, q_not_not, q_not_and, q_not_or, q_not_tell, q_not_put, q_not_drop, q_not_go, q_not_then, q_not_run, q_not_program, q_not_pipe, q_not_promise, q_and_it, q_and_box, q_and_word, q_and_any, q_and_new, q_and_empty, q_and_same, q_and_not, q_and_and, q_and_or, q_and_tell, q_and_put, q_and_drop, q_and_go, q_and_then, q_and_run, q_and_program, q_and_pipe, q_and_promise, q_or_it, q_or_box, q_or_word, q_or_any, q_or_new, q_or_empty, q_or_same, q_or_not, q_or_and, q_or_or, q_or_tell, q_or_put, q_or_drop, q_or_go, q_or_then, q_or_run, q_or_program, q_or_pipe, q_or_promise, q_tell_it, q_tell_box, q_tell_word, q_tell_any, q_tell_new, q_tell_empty, q_tell_same, q_tell_not, q_tell_and, q_tell_or, q_tell_tell, q_tell_put, q_tell_drop, q_tell_go, q_tell_then, q_tell_run, q_tell_program, q_tell_pipe, q_tell_promise, q_put_it, q_put_box, q_put_word, q_put_any, q_put_new, q_put_empty, q_put_same, q_put_not, q_put_and, q_put_or, q_put_tell, q_put_put, q_put_drop, q_put_go, q_put_then, q_put_run, q_put_program, q_put_pipe, q_put_promise, q_drop_it, q_drop_box, q_drop_word, q_drop_any, q_drop_new, q_drop_empty, q_drop_same, q_drop_not, q_drop_and, q_drop_or, q_drop_tell, q_drop_put, q_drop_drop, q_drop_go, q_drop_then, q_drop_run, q_drop_program, q_drop_pipe, q_drop_promise, q_go_it, q_go_box, q_go_word, q_go_any, q_go_new, q_go_empty, q_go_same, q_go_not, q_go_and, q_go_or, q_go_tell, q_go_put, q_go_drop, q_go_go, q_go_then, q_go_run, q_go_program, q_go_pipe, q_go_promise, q_then_it, q_then_box, q_then_word, q_then_any, q_then_new, q_then_empty, q_then_same, q_then_not, q_then_and, q_then_or, q_then_tell, q_then_put, q_then_drop, q_then_go, q_then_then, q_then_run, q_then_program, q_then_pipe, q_then_promise, q_run_it, q_run_box, q_run_word, q_run_any, q_run_new, q_run_empty, q_run_same, q_run_not, q_run_and, q_run_or, q_run_tell, q_run_put, q_run_drop, q_run_go, q_run_then, q_run_run, q_run_program, q_run_pipe, q_run_promise, q_program_it, q_program_box, q_program_word, q_program_any, q_program_new, q_program_empty, q_program_same, q_program_not, q_program_and, q_program_or, q_program_tell, q_program_put, q_program_drop, q_program_go, q_program_then, q_program_run, q_program_program, q_program_pipe, q_program_promise, q_pipe_it, q_pipe_box, q_pipe_word, q_pipe_any, q_pipe_new, q_pipe_empty, q_pipe_same, q_pipe_not, q_pipe_and, q_pipe_or, q_pipe_tell, q_pipe_put, q_pipe_drop, q_pipe_go, q_pipe_then, q_pipe_run, q_pipe_program, q_pipe_pipe, q_pipe_promise, q_promise_it, q_promise_box, q_promise_word, q_promise_any, q_promise_new, q_promise_empty, q_promise_same, q_promise_not, q_promise_and, q_promise_or, q_promise_tell, q_promise_put, q_promise_drop, q_promise_go, q_promise_then, q_promise_run, q_promise_program, q_promise_pipe, q_promise_promise, notIn_strs hv hw, kComp, iSeq, hq, somes_comp, hz, notIn_list hv h3, mem_somes, holds]
    cases h : decide (v ∈ ws) <;> simp only [run_mk, List.map_cons, List.map_nil, List.length_cons, List.length_nil, List.cons_append, List.nil_append, List.replicate_succ, List.replicate_zero, Nat.reduceAdd, Nat.reduceSub, List.getElem?_cons_zero, List.getElem?_cons_succ, List.set_cons_zero, List.set_cons_succ, R.bind_ok, sCons, sNil, sIf, sRet, retL, dropL, sSet, setL, sDrop, sUnp, sPar, lNil, lCons, kF, putL, gN, gT, gAll, kC, kX, kD, kG, kS, scl, k1, k2, L.get, L.take, T.toD, aNil, aCons, kTup, kLst, bVal, bAnd, bOr, bNot, kAnd, kOr, kNot, kIf, boolOf, kCall, cNil, cV, cMv, cPass, lend, back, resL, outs, endOf, srcAt, kSGet, kSLen, kInt, SF.get, SF.put, bl, nm, if_true, if_false, Bool.false_eq_true, Bool.not_true, Bool.not_false, Bool.false_and, Bool.true_and]
  | n + 1, .it t, wc, _ => by
    have e := lworth_ok (v := v) w hn wc
    have e2 : pEq (.str v) (optE (worth bs vs t v)) = bl (decide (worth bs vs t v = some v)) := by
      have := pEq_opt (o := some v) (fun x h => by cases h; exact hv) (worth_ok w wc hv)
      rw [show decide (worth bs vs t v = some v) = decide (some v = worth bs vs t v) by simp only [eq_comm]]
      exact this
    have ei : pIx (.tuple [.str "it", t.enc]) (.int (-1)) = .ok (.d t.enc) := rfl
    have en : pNotN (.str v) = bl true := rfl
    simp only [run_mk, List.map_cons, List.map_nil, List.length_cons, List.length_nil, List.cons_append, List.nil_append, List.replicate_succ, List.replicate_zero, Nat.reduceAdd, Nat.reduceSub, List.getElem?_cons_zero, List.getElem?_cons_succ, List.set_cons_zero, List.set_cons_succ, R.bind_ok, sCons, sNil, sIf, sRet, retL, dropL, sSet, setL, sDrop, sUnp, sPar, lNil, lCons, kF, putL, gN, gT, gAll, kC, kX, kD, kG, kS, scl, k1, k2, L.get, L.take, T.toD, aNil, aCons, kTup, kLst, bVal, bAnd, bOr, bNot, kAnd, kOr, kNot, kIf, boolOf, kCall, cNil, cV, cMv, cPass, lend, back, resL, outs, endOf, srcAt, kSGet, kSLen, kInt, SF.get, SF.put, bl, nm, if_true, if_false, Bool.false_eq_true, Bool.not_true, Bool.not_false, D_u_law_holds, Cd.enc, ix0, dz_h hn, szOk2, an_it, ao_it, q_it_it, q_it_box, q_it_word, q_it_any, q_it_new, q_it_empty, q_it_same, q_it_not, q_it_and, q_it_or, q_it_tell, q_it_put, q_it_drop, q_it_go, q_it_then, q_it_run, q_it_program, q_it_pipe, q_it_promise, q_box_it, q_box_box, q_box_word, q_box_any, q_box_new, q_box_empty, q_box_same, q_box_not, q_box_and, q_box_or, q_box_tell, q_box_put, q_box_drop, q_box_go, q_box_then, q_box_run, q_box_program, q_box_pipe, q_box_promise, q_word_it, q_word_box, q_word_word, q_word_any, q_word_new, q_word_empty, q_word_same, q_word_not, q_word_and, q_word_or, q_word_tell, q_word_put, q_word_drop, q_word_go, q_word_then, q_word_run, q_word_program, q_word_pipe, q_word_promise, q_any_it, q_any_box, q_any_word, q_any_any, q_any_new, q_any_empty, q_any_same, q_any_not, q_any_and, q_any_or, q_any_tell, q_any_put, q_any_drop, q_any_go, q_any_then, q_any_run, q_any_program, q_any_pipe, q_any_promise, q_new_it, q_new_box, q_new_word, q_new_any, q_new_new, q_new_empty, q_new_same, q_new_not, q_new_and, q_new_or, q_new_tell, q_new_put, q_new_drop, q_new_go, q_new_then, q_new_run, q_new_program, q_new_pipe, q_new_promise, q_empty_it, q_empty_box, q_empty_word, q_empty_any, q_empty_new, q_empty_empty, q_empty_same, q_empty_not, q_empty_and, q_empty_or, q_empty_tell, q_empty_put, q_empty_drop, q_empty_go, q_empty_then, q_empty_run, q_empty_program, q_empty_pipe, q_empty_promise, q_same_it, q_same_box, q_same_word, q_same_any, q_same_new, q_same_empty, q_same_same, q_same_not, q_same_and, q_same_or, q_same_tell, q_same_put, q_same_drop, q_same_go, q_same_then, q_same_run, q_same_program, q_same_pipe, q_same_promise, q_not_it, q_not_box, q_not_word, q_not_any, q_not_new, q_not_empty, q_not_same, q_not_not, q_not_and, q_not_or, q_not_tell, q_not_put, q_not_drop, q_not_go, q_not_then, q_not_run, q_not_program, q_not_pipe, q_not_promise, q_and_it, q_and_box, q_and_word, q_and_any, q_and_new, q_and_empty, q_and_same, q_and_not, q_and_and, q_and_or, q_and_tell, q_and_put, q_and_drop, q_and_go, q_and_then, q_and_run, q_and_program, q_and_pipe, q_and_promise, q_or_it, q_or_box, q_or_word, q_or_any, q_or_new, q_or_empty, q_or_same, q_or_not, q_or_and, q_or_or, q_or_tell, q_or_put, q_or_drop, q_or_go, q_or_then, q_or_run, q_or_program, q_or_pipe, q_or_promise, q_tell_it, q_tell_box, q_tell_word, q_tell_any, q_tell_new, q_tell_empty, q_tell_same, q_tell_not, q_tell_and, q_tell_or, q_tell_tell, q_tell_put, q_tell_drop, q_tell_go, q_tell_then, q_tell_run, q_tell_program, q_tell_pipe, q_tell_promise, q_put_it, q_put_box, q_put_word, q_put_any, q_put_new, q_put_empty, q_put_same, q_put_not, q_put_and, q_put_or, q_put_tell, q_put_put, q_put_drop, q_put_go, q_put_then, q_put_run, q_put_program, q_put_pipe, q_put_promise, q_drop_it, q_drop_box, q_drop_word, q_drop_any, q_drop_new, q_drop_empty, q_drop_same, q_drop_not, q_drop_and, q_drop_or, q_drop_tell, q_drop_put, q_drop_drop, q_drop_go, q_drop_then, q_drop_run, q_drop_program, q_drop_pipe, q_drop_promise, q_go_it, q_go_box, q_go_word, q_go_any, q_go_new, q_go_empty, q_go_same, q_go_not, q_go_and, q_go_or, q_go_tell, q_go_put, q_go_drop, q_go_go, q_go_then, q_go_run, q_go_program, q_go_pipe, q_go_promise, q_then_it, q_then_box, q_then_word, q_then_any, q_then_new, q_then_empty, q_then_same, q_then_not, q_then_and, q_then_or, q_then_tell, q_then_put, q_then_drop, q_then_go, q_then_then, q_then_run, q_then_program, q_then_pipe, q_then_promise, q_run_it, q_run_box, q_run_word, q_run_any, q_run_new, q_run_empty, q_run_same, q_run_not, q_run_and, q_run_or, q_run_tell, q_run_put, q_run_drop, q_run_go, q_run_then, q_run_run, q_run_program, q_run_pipe, q_run_promise, q_program_it, q_program_box, q_program_word, q_program_any, q_program_new, q_program_empty, q_program_same, q_program_not, q_program_and, q_program_or, q_program_tell, q_program_put, q_program_drop, q_program_go, q_program_then, q_program_run, q_program_program, q_program_pipe, q_program_promise, q_pipe_it, q_pipe_box, q_pipe_word, q_pipe_any, q_pipe_new, q_pipe_empty, q_pipe_same, q_pipe_not, q_pipe_and, q_pipe_or, q_pipe_tell, q_pipe_put, q_pipe_drop, q_pipe_go, q_pipe_then, q_pipe_run, q_pipe_program, q_pipe_pipe, q_pipe_promise, q_promise_it, q_promise_box, q_promise_word, q_promise_any, q_promise_new, q_promise_empty, q_promise_same, q_promise_not, q_promise_and, q_promise_or, q_promise_tell, q_promise_put, q_promise_drop, q_promise_go, q_promise_then, q_promise_run, q_promise_program, q_promise_pipe, q_promise_promise, en, pNeg, ei, e, e2, holds]
  | n + 1, .empty b, wc, _ => by
    have e := known_ix (vs := vs) wc w.len
    simp only [run_mk, List.map_cons, List.map_nil, List.length_cons, List.length_nil, List.cons_append, List.nil_append, List.replicate_succ, List.replicate_zero, Nat.reduceAdd, Nat.reduceSub, List.getElem?_cons_zero, List.getElem?_cons_succ, List.set_cons_zero, List.set_cons_succ, R.bind_ok, sCons, sNil, sIf, sRet, retL, dropL, sSet, setL, sDrop, sUnp, sPar, lNil, lCons, kF, putL, gN, gT, gAll, kC, kX, kD, kG, kS, scl, k1, k2, L.get, L.take, T.toD, aNil, aCons, kTup, kLst, bVal, bAnd, bOr, bNot, kAnd, kOr, kNot, kIf, boolOf, kCall, cNil, cV, cMv, cPass, lend, back, resL, outs, endOf, srcAt, kSGet, kSLen, kInt, SF.get, SF.put, bl, nm, if_true, if_false, Bool.false_eq_true, Bool.not_true, Bool.not_false, D_u_law_holds, Cd.enc, ix0, ix1, dz_h hn, szOk2, an_empty, ao_empty, q_it_it, q_it_box, q_it_word, q_it_any, q_it_new, q_it_empty, q_it_same, q_it_not, q_it_and, q_it_or, q_it_tell, q_it_put, q_it_drop, q_it_go, q_it_then, q_it_run, q_it_program, q_it_pipe, q_it_promise, q_box_it, q_box_box, q_box_word, q_box_any, q_box_new, q_box_empty, q_box_same, q_box_not, q_box_and, q_box_or, q_box_tell, q_box_put, q_box_drop, q_box_go, q_box_then, q_box_run, q_box_program, q_box_pipe, q_box_promise, q_word_it, q_word_box, q_word_word, q_word_any, q_word_new, q_word_empty, q_word_same, q_word_not, q_word_and, q_word_or, q_word_tell, q_word_put, q_word_drop, q_word_go, q_word_then, q_word_run, q_word_program, q_word_pipe, q_word_promise, q_any_it, q_any_box, q_any_word, q_any_any, q_any_new, q_any_empty, q_any_same, q_any_not, q_any_and, q_any_or, q_any_tell, q_any_put, q_any_drop, q_any_go, q_any_then, q_any_run, q_any_program, q_any_pipe, q_any_promise, q_new_it, q_new_box, q_new_word, q_new_any, q_new_new, q_new_empty, q_new_same, q_new_not, q_new_and, q_new_or, q_new_tell, q_new_put, q_new_drop, q_new_go, q_new_then, q_new_run, q_new_program, q_new_pipe, q_new_promise, q_empty_it, q_empty_box, q_empty_word, q_empty_any, q_empty_new, q_empty_empty, q_empty_same, q_empty_not, q_empty_and, q_empty_or, q_empty_tell, q_empty_put, q_empty_drop, q_empty_go, q_empty_then, q_empty_run, q_empty_program, q_empty_pipe, q_empty_promise, q_same_it, q_same_box, q_same_word, q_same_any, q_same_new, q_same_empty, q_same_same, q_same_not, q_same_and, q_same_or, q_same_tell, q_same_put, q_same_drop, q_same_go, q_same_then, q_same_run, q_same_program, q_same_pipe, q_same_promise, q_not_it, q_not_box, q_not_word, q_not_any, q_not_new, q_not_empty, q_not_same, q_not_not, q_not_and, q_not_or, q_not_tell, q_not_put, q_not_drop, q_not_go, q_not_then, q_not_run, q_not_program, q_not_pipe, q_not_promise, q_and_it, q_and_box, q_and_word, q_and_any, q_and_new, q_and_empty, q_and_same, q_and_not, q_and_and, q_and_or, q_and_tell, q_and_put, q_and_drop, q_and_go, q_and_then, q_and_run, q_and_program, q_and_pipe, q_and_promise, q_or_it, q_or_box, q_or_word, q_or_any, q_or_new, q_or_empty, q_or_same, q_or_not, q_or_and, q_or_or, q_or_tell, q_or_put, q_or_drop, q_or_go, q_or_then, q_or_run, q_or_program, q_or_pipe, q_or_promise, q_tell_it, q_tell_box, q_tell_word, q_tell_any, q_tell_new, q_tell_empty, q_tell_same, q_tell_not, q_tell_and, q_tell_or, q_tell_tell, q_tell_put, q_tell_drop, q_tell_go, q_tell_then, q_tell_run, q_tell_program, q_tell_pipe, q_tell_promise, q_put_it, q_put_box, q_put_word, q_put_any, q_put_new, q_put_empty, q_put_same, q_put_not, q_put_and, q_put_or, q_put_tell, q_put_put, q_put_drop, q_put_go, q_put_then, q_put_run, q_put_program, q_put_pipe, q_put_promise, q_drop_it, q_drop_box, q_drop_word, q_drop_any, q_drop_new, q_drop_empty, q_drop_same, q_drop_not, q_drop_and, q_drop_or, q_drop_tell, q_drop_put, q_drop_drop, q_drop_go, q_drop_then, q_drop_run, q_drop_program, q_drop_pipe, q_drop_promise, q_go_it, q_go_box, q_go_word, q_go_any, q_go_new, q_go_empty, q_go_same, q_go_not, q_go_and, q_go_or, q_go_tell, q_go_put, q_go_drop, q_go_go, q_go_then, q_go_run, q_go_program, q_go_pipe, q_go_promise, q_then_it, q_then_box, q_then_word, q_then_any, q_then_new, q_then_empty, q_then_same, q_then_not, q_then_and, q_then_or, q_then_tell, q_then_put, q_then_drop, q_then_go, q_then_then, q_then_run, q_then_program, q_then_pipe, q_then_promise, q_run_it, q_run_box, q_run_word, q_run_any, q_run_new, q_run_empty, q_run_same, q_run_not, q_run_and, q_run_or, q_run_tell, q_run_put, q_run_drop, q_run_go, q_run_then, q_run_run, q_run_program, q_run_pipe, q_run_promise, q_program_it, q_program_box, q_program_word, q_program_any, q_program_new, q_program_empty, q_program_same, q_program_not, q_program_and, q_program_or, q_program_tell, q_program_put, q_program_drop, q_program_go, q_program_then, q_program_run, q_program_program, q_program_pipe, q_program_promise, q_pipe_it, q_pipe_box, q_pipe_word, q_pipe_any, q_pipe_new, q_pipe_empty, q_pipe_same, q_pipe_not, q_pipe_and, q_pipe_or, q_pipe_tell, q_pipe_put, q_pipe_drop, q_pipe_go, q_pipe_then, q_pipe_run, q_pipe_program, q_pipe_pipe, q_pipe_promise, q_promise_it, q_promise_box, q_promise_word, q_promise_any, q_promise_new, q_promise_empty, q_promise_same, q_promise_not, q_promise_and, q_promise_or, q_promise_tell, q_promise_put, q_promise_drop, q_promise_go, q_promise_then, q_promise_run, q_promise_program, q_promise_pipe, q_promise_promise, e, pIsN, isN_opt, holds]
  | n + 1, .same b t, wc, _ => by
    have e := lworth_ok (v := v) w hn wc.2
    have e1 := known_ix (vs := vs) wc.1 w.len
    have e2 := pEq_opt (o := look bs vs b) (fun x h => w.ok x (look_ok h)) (worth_ok (v := v) w wc.2 hv)
    have ei : pIx (.tuple [.str "same", .str b, t.enc]) (.int (-1)) = .ok (.d t.enc) := rfl
    simp only [run_mk, List.map_cons, List.map_nil, List.length_cons, List.length_nil, List.cons_append, List.nil_append, List.replicate_succ, List.replicate_zero, Nat.reduceAdd, Nat.reduceSub, List.getElem?_cons_zero, List.getElem?_cons_succ, List.set_cons_zero, List.set_cons_succ, R.bind_ok, sCons, sNil, sIf, sRet, retL, dropL, sSet, setL, sDrop, sUnp, sPar, lNil, lCons, kF, putL, gN, gT, gAll, kC, kX, kD, kG, kS, scl, k1, k2, L.get, L.take, T.toD, aNil, aCons, kTup, kLst, bVal, bAnd, bOr, bNot, kAnd, kOr, kNot, kIf, boolOf, kCall, cNil, cV, cMv, cPass, lend, back, resL, outs, endOf, srcAt, kSGet, kSLen, kInt, SF.get, SF.put, bl, nm, if_true, if_false, Bool.false_eq_true, Bool.not_true, Bool.not_false, D_u_law_holds, Cd.enc, ix0, ix1, dz_h hn, szOk2, an_same, ao_same, q_it_it, q_it_box, q_it_word, q_it_any, q_it_new, q_it_empty, q_it_same, q_it_not, q_it_and, q_it_or, q_it_tell, q_it_put, q_it_drop, q_it_go, q_it_then, q_it_run, q_it_program, q_it_pipe, q_it_promise, q_box_it, q_box_box, q_box_word, q_box_any, q_box_new, q_box_empty, q_box_same, q_box_not, q_box_and, q_box_or, q_box_tell, q_box_put, q_box_drop, q_box_go, q_box_then, q_box_run, q_box_program, q_box_pipe, q_box_promise, q_word_it, q_word_box, q_word_word, q_word_any, q_word_new, q_word_empty, q_word_same, q_word_not, q_word_and, q_word_or, q_word_tell, q_word_put, q_word_drop, q_word_go, q_word_then, q_word_run, q_word_program, q_word_pipe, q_word_promise, q_any_it, q_any_box, q_any_word, q_any_any, q_any_new, q_any_empty, q_any_same, q_any_not, q_any_and, q_any_or, q_any_tell, q_any_put, q_any_drop, q_any_go, q_any_then, q_any_run, q_any_program, q_any_pipe, q_any_promise, q_new_it, q_new_box, q_new_word, q_new_any, q_new_new, q_new_empty, q_new_same, q_new_not, q_new_and, q_new_or, q_new_tell, q_new_put, q_new_drop, q_new_go, q_new_then, q_new_run, q_new_program, q_new_pipe, q_new_promise, q_empty_it, q_empty_box, q_empty_word, q_empty_any, q_empty_new, q_empty_empty, q_empty_same, q_empty_not, q_empty_and, q_empty_or, q_empty_tell, q_empty_put, q_empty_drop, q_empty_go, q_empty_then, q_empty_run, q_empty_program, q_empty_pipe, q_empty_promise, q_same_it, q_same_box, q_same_word, q_same_any, q_same_new, q_same_empty, q_same_same, q_same_not, q_same_and, q_same_or, q_same_tell, q_same_put, q_same_drop, q_same_go, q_same_then, q_same_run, q_same_program, q_same_pipe, q_same_promise, q_not_it, q_not_box, q_not_word, q_not_any, q_not_new, q_not_empty, q_not_same, q_not_not, q_not_and, q_not_or, q_not_tell, q_not_put, q_not_drop, q_not_go, q_not_then, q_not_run, q_not_program, q_not_pipe, q_not_promise, q_and_it, q_and_box, q_and_word, q_and_any, q_and_new, q_and_empty, q_and_same, q_and_not, q_and_and, q_and_or, q_and_tell, q_and_put, q_and_drop, q_and_go, q_and_then, q_and_run, q_and_program, q_and_pipe, q_and_promise, q_or_it, q_or_box, q_or_word, q_or_any, q_or_new, q_or_empty, q_or_same, q_or_not, q_or_and, q_or_or, q_or_tell, q_or_put, q_or_drop, q_or_go, q_or_then, q_or_run, q_or_program, q_or_pipe, q_or_promise, q_tell_it, q_tell_box, q_tell_word, q_tell_any, q_tell_new, q_tell_empty, q_tell_same, q_tell_not, q_tell_and, q_tell_or, q_tell_tell, q_tell_put, q_tell_drop, q_tell_go, q_tell_then, q_tell_run, q_tell_program, q_tell_pipe, q_tell_promise, q_put_it, q_put_box, q_put_word, q_put_any, q_put_new, q_put_empty, q_put_same, q_put_not, q_put_and, q_put_or, q_put_tell, q_put_put, q_put_drop, q_put_go, q_put_then, q_put_run, q_put_program, q_put_pipe, q_put_promise, q_drop_it, q_drop_box, q_drop_word, q_drop_any, q_drop_new, q_drop_empty, q_drop_same, q_drop_not, q_drop_and, q_drop_or, q_drop_tell, q_drop_put, q_drop_drop, q_drop_go, q_drop_then, q_drop_run, q_drop_program, q_drop_pipe, q_drop_promise, q_go_it, q_go_box, q_go_word, q_go_any, q_go_new, q_go_empty, q_go_same, q_go_not, q_go_and, q_go_or, q_go_tell, q_go_put, q_go_drop, q_go_go, q_go_then, q_go_run, q_go_program, q_go_pipe, q_go_promise, q_then_it, q_then_box, q_then_word, q_then_any, q_then_new, q_then_empty, q_then_same, q_then_not, q_then_and, q_then_or, q_then_tell, q_then_put, q_then_drop, q_then_go, q_then_then, q_then_run, q_then_program, q_then_pipe, q_then_promise, q_run_it, q_run_box, q_run_word, q_run_any, q_run_new, q_run_empty, q_run_same, q_run_not, q_run_and, q_run_or, q_run_tell, q_run_put, q_run_drop, q_run_go, q_run_then, q_run_run, q_run_program, q_run_pipe, q_run_promise, q_program_it, q_program_box, q_program_word, q_program_any, q_program_new, q_program_empty, q_program_same, q_program_not, q_program_and, q_program_or, q_program_tell, q_program_put, q_program_drop, q_program_go, q_program_then, q_program_run, q_program_program, q_program_pipe, q_program_promise, q_pipe_it, q_pipe_box, q_pipe_word, q_pipe_any, q_pipe_new, q_pipe_empty, q_pipe_same, q_pipe_not, q_pipe_and, q_pipe_or, q_pipe_tell, q_pipe_put, q_pipe_drop, q_pipe_go, q_pipe_then, q_pipe_run, q_pipe_program, q_pipe_pipe, q_pipe_promise, q_promise_it, q_promise_box, q_promise_word, q_promise_any, q_promise_new, q_promise_empty, q_promise_same, q_promise_not, q_promise_and, q_promise_or, q_promise_tell, q_promise_put, q_promise_drop, q_promise_go, q_promise_then, q_promise_run, q_promise_program, q_promise_pipe, q_promise_promise, e1, pNotN, isN_opt, pNeg, ei, holds, e, e2]
    cases h : look bs vs b <;> simp only [run_mk, List.map_cons, List.map_nil, List.length_cons, List.length_nil, List.cons_append, List.nil_append, List.replicate_succ, List.replicate_zero, Nat.reduceAdd, Nat.reduceSub, List.getElem?_cons_zero, List.getElem?_cons_succ, List.set_cons_zero, List.set_cons_succ, R.bind_ok, sCons, sNil, sIf, sRet, retL, dropL, sSet, setL, sDrop, sUnp, sPar, lNil, lCons, kF, putL, gN, gT, gAll, kC, kX, kD, kG, kS, scl, k1, k2, L.get, L.take, T.toD, aNil, aCons, kTup, kLst, bVal, bAnd, bOr, bNot, kAnd, kOr, kNot, kIf, boolOf, kCall, cNil, cV, cMv, cPass, lend, back, resL, outs, endOf, srcAt, kSGet, kSLen, kInt, SF.get, SF.put, bl, nm, if_true, if_false, Bool.false_eq_true, Bool.not_true, Bool.not_false, optE, Option.isNone, Option.isSome, Bool.true_and, Bool.false_and]
  | n + 1, .not c, wc, h => by
    have e := lholds_ok w hn hlen hw hv (n := n) (c := c) wc (by have : c.hgt + 1 < n + 1 := h; omega)
    simp only [run_mk, List.map_cons, List.map_nil, List.length_cons, List.length_nil, List.cons_append, List.nil_append, List.replicate_succ, List.replicate_zero, Nat.reduceAdd, Nat.reduceSub, List.getElem?_cons_zero, List.getElem?_cons_succ, List.set_cons_zero, List.set_cons_succ, R.bind_ok, sCons, sNil, sIf, sRet, retL, dropL, sSet, setL, sDrop, sUnp, sPar, lNil, lCons, kF, putL, gN, gT, gAll, kC, kX, kD, kG, kS, scl, k1, k2, L.get, L.take, T.toD, aNil, aCons, kTup, kLst, bVal, bAnd, bOr, bNot, kAnd, kOr, kNot, kIf, boolOf, kCall, cNil, cV, cMv, cPass, lend, back, resL, outs, endOf, srcAt, kSGet, kSLen, kInt, SF.get, SF.put, bl, nm, if_true, if_false, Bool.false_eq_true, Bool.not_true, Bool.not_false, D_u_law_holds, Cd.enc, ix0, ix1, dz_h hn, szOk2, an_not, q_it_it, q_it_box, q_it_word, q_it_any, q_it_new, q_it_empty, q_it_same, q_it_not, q_it_and, q_it_or, q_it_tell, q_it_put, q_it_drop, q_it_go, q_it_then, q_it_run, q_it_program, q_it_pipe, q_it_promise, q_box_it, q_box_box, q_box_word, q_box_any, q_box_new, q_box_empty, q_box_same, q_box_not, q_box_and, q_box_or, q_box_tell, q_box_put, q_box_drop, q_box_go, q_box_then, q_box_run, q_box_program, q_box_pipe, q_box_promise, q_word_it, q_word_box, q_word_word, q_word_any, q_word_new, q_word_empty, q_word_same, q_word_not, q_word_and, q_word_or, q_word_tell, q_word_put, q_word_drop, q_word_go, q_word_then, q_word_run, q_word_program, q_word_pipe, q_word_promise, q_any_it, q_any_box, q_any_word, q_any_any, q_any_new, q_any_empty, q_any_same, q_any_not, q_any_and, q_any_or, q_any_tell, q_any_put, q_any_drop, q_any_go, q_any_then, q_any_run, q_any_program, q_any_pipe, q_any_promise, q_new_it, q_new_box, q_new_word, q_new_any, q_new_new, q_new_empty, q_new_same, q_new_not, q_new_and, q_new_or, q_new_tell, q_new_put, q_new_drop, q_new_go, q_new_then, q_new_run, q_new_program, q_new_pipe, q_new_promise, q_empty_it, q_empty_box, q_empty_word, q_empty_any, q_empty_new, q_empty_empty, q_empty_same, q_empty_not, q_empty_and, q_empty_or, q_empty_tell, q_empty_put, q_empty_drop, q_empty_go, q_empty_then, q_empty_run, q_empty_program, q_empty_pipe, q_empty_promise, q_same_it, q_same_box, q_same_word, q_same_any, q_same_new, q_same_empty, q_same_same, q_same_not, q_same_and, q_same_or, q_same_tell, q_same_put, q_same_drop, q_same_go, q_same_then, q_same_run, q_same_program, q_same_pipe, q_same_promise, q_not_it, q_not_box, q_not_word, q_not_any, q_not_new, q_not_empty, q_not_same, q_not_not, q_not_and, q_not_or, q_not_tell, q_not_put, q_not_drop, q_not_go, q_not_then, q_not_run, q_not_program, q_not_pipe, q_not_promise, q_and_it, q_and_box, q_and_word, q_and_any, q_and_new, q_and_empty, q_and_same, q_and_not, q_and_and, q_and_or, q_and_tell, q_and_put, q_and_drop, q_and_go, q_and_then, q_and_run, q_and_program, q_and_pipe, q_and_promise, q_or_it, q_or_box, q_or_word, q_or_any, q_or_new, q_or_empty, q_or_same, q_or_not, q_or_and, q_or_or, q_or_tell, q_or_put, q_or_drop, q_or_go, q_or_then, q_or_run, q_or_program, q_or_pipe, q_or_promise, q_tell_it, q_tell_box, q_tell_word, q_tell_any, q_tell_new, q_tell_empty, q_tell_same, q_tell_not, q_tell_and, q_tell_or, q_tell_tell, q_tell_put, q_tell_drop, q_tell_go, q_tell_then, q_tell_run, q_tell_program, q_tell_pipe, q_tell_promise, q_put_it, q_put_box, q_put_word, q_put_any, q_put_new, q_put_empty, q_put_same, q_put_not, q_put_and, q_put_or, q_put_tell, q_put_put, q_put_drop, q_put_go, q_put_then, q_put_run, q_put_program, q_put_pipe, q_put_promise, q_drop_it, q_drop_box, q_drop_word, q_drop_any, q_drop_new, q_drop_empty, q_drop_same, q_drop_not, q_drop_and, q_drop_or, q_drop_tell, q_drop_put, q_drop_drop, q_drop_go, q_drop_then, q_drop_run, q_drop_program, q_drop_pipe, q_drop_promise, q_go_it, q_go_box, q_go_word, q_go_any, q_go_new, q_go_empty, q_go_same, q_go_not, q_go_and, q_go_or, q_go_tell, q_go_put, q_go_drop, q_go_go, q_go_then, q_go_run, q_go_program, q_go_pipe, q_go_promise, q_then_it, q_then_box, q_then_word, q_then_any, q_then_new, q_then_empty, q_then_same, q_then_not, q_then_and, q_then_or, q_then_tell, q_then_put, q_then_drop, q_then_go, q_then_then, q_then_run, q_then_program, q_then_pipe, q_then_promise, q_run_it, q_run_box, q_run_word, q_run_any, q_run_new, q_run_empty, q_run_same, q_run_not, q_run_and, q_run_or, q_run_tell, q_run_put, q_run_drop, q_run_go, q_run_then, q_run_run, q_run_program, q_run_pipe, q_run_promise, q_program_it, q_program_box, q_program_word, q_program_any, q_program_new, q_program_empty, q_program_same, q_program_not, q_program_and, q_program_or, q_program_tell, q_program_put, q_program_drop, q_program_go, q_program_then, q_program_run, q_program_program, q_program_pipe, q_program_promise, q_pipe_it, q_pipe_box, q_pipe_word, q_pipe_any, q_pipe_new, q_pipe_empty, q_pipe_same, q_pipe_not, q_pipe_and, q_pipe_or, q_pipe_tell, q_pipe_put, q_pipe_drop, q_pipe_go, q_pipe_then, q_pipe_run, q_pipe_program, q_pipe_pipe, q_pipe_promise, q_promise_it, q_promise_box, q_promise_word, q_promise_any, q_promise_new, q_promise_empty, q_promise_same, q_promise_not, q_promise_and, q_promise_or, q_promise_tell, q_promise_put, q_promise_drop, q_promise_go, q_promise_then, q_promise_run, q_promise_program, q_promise_pipe, q_promise_promise, e, holds]
  | n + 1, .and c d, wc, h => by
    have hh : max c.hgt d.hgt + 1 < n + 1 := h
    have e := lholds_ok w hn hlen hw hv (n := n) (c := c) wc.1 (by omega)
    have e2 := lholds_ok w hn hlen hw hv (n := n) (c := d) wc.2 (by omega)
    simp only [run_mk, List.map_cons, List.map_nil, List.length_cons, List.length_nil, List.cons_append, List.nil_append, List.replicate_succ, List.replicate_zero, Nat.reduceAdd, Nat.reduceSub, List.getElem?_cons_zero, List.getElem?_cons_succ, List.set_cons_zero, List.set_cons_succ, R.bind_ok, sCons, sNil, sIf, sRet, retL, dropL, sSet, setL, sDrop, sUnp, sPar, lNil, lCons, kF, putL, gN, gT, gAll, kC, kX, kD, kG, kS, scl, k1, k2, L.get, L.take, T.toD, aNil, aCons, kTup, kLst, bVal, bAnd, bOr, bNot, kAnd, kOr, kNot, kIf, boolOf, kCall, cNil, cV, cMv, cPass, lend, back, resL, outs, endOf, srcAt, kSGet, kSLen, kInt, SF.get, SF.put, bl, nm, if_true, if_false, Bool.false_eq_true, Bool.not_true, Bool.not_false, D_u_law_holds, Cd.enc, ix0, dz_h hn, szOk2, an_and, ao_and, q_it_it, q_it_box, q_it_word, q_it_any, q_it_new, q_it_empty, q_it_same, q_it_not, q_it_and, q_it_or, q_it_tell, q_it_put, q_it_drop, q_it_go, q_it_then, q_it_run, q_it_program, q_it_pipe, q_it_promise, q_box_it, q_box_box, q_box_word, q_box_any, q_box_new, q_box_empty, q_box_same, q_box_not, q_box_and, q_box_or, q_box_tell, q_box_put, q_box_drop, q_box_go, q_box_then, q_box_run, q_box_program, q_box_pipe, q_box_promise, q_word_it, q_word_box, q_word_word, q_word_any, q_word_new, q_word_empty, q_word_same, q_word_not, q_word_and, q_word_or, q_word_tell, q_word_put, q_word_drop, q_word_go, q_word_then, q_word_run, q_word_program, q_word_pipe, q_word_promise, q_any_it, q_any_box, q_any_word, q_any_any, q_any_new, q_any_empty, q_any_same, q_any_not, q_any_and, q_any_or, q_any_tell, q_any_put, q_any_drop, q_any_go, q_any_then, q_any_run, q_any_program, q_any_pipe, q_any_promise, q_new_it, q_new_box, q_new_word, q_new_any, q_new_new, q_new_empty, q_new_same, q_new_not, q_new_and, q_new_or, q_new_tell, q_new_put, q_new_drop, q_new_go, q_new_then, q_new_run, q_new_program, q_new_pipe, q_new_promise, q_empty_it, q_empty_box, q_empty_word, q_empty_any, q_empty_new, q_empty_empty, q_empty_same, q_empty_not, q_empty_and, q_empty_or, q_empty_tell, q_empty_put, q_empty_drop, q_empty_go, q_empty_then, q_empty_run, q_empty_program, q_empty_pipe, q_empty_promise, q_same_it, q_same_box, q_same_word, q_same_any, q_same_new, q_same_empty, q_same_same, q_same_not, q_same_and, q_same_or, q_same_tell, q_same_put, q_same_drop, q_same_go, q_same_then, q_same_run, q_same_program, q_same_pipe, q_same_promise, q_not_it, q_not_box, q_not_word, q_not_any, q_not_new, q_not_empty, q_not_same, q_not_not, q_not_and, q_not_or, q_not_tell, q_not_put, q_not_drop, q_not_go, q_not_then, q_not_run, q_not_program, q_not_pipe, q_not_promise, q_and_it, q_and_box, q_and_word, q_and_any, q_and_new, q_and_empty, q_and_same, q_and_not, q_and_and, q_and_or, q_and_tell, q_and_put, q_and_drop, q_and_go, q_and_then, q_and_run, q_and_program, q_and_pipe, q_and_promise, q_or_it, q_or_box, q_or_word, q_or_any, q_or_new, q_or_empty, q_or_same, q_or_not, q_or_and, q_or_or, q_or_tell, q_or_put, q_or_drop, q_or_go, q_or_then, q_or_run, q_or_program, q_or_pipe, q_or_promise, q_tell_it, q_tell_box, q_tell_word, q_tell_any, q_tell_new, q_tell_empty, q_tell_same, q_tell_not, q_tell_and, q_tell_or, q_tell_tell, q_tell_put, q_tell_drop, q_tell_go, q_tell_then, q_tell_run, q_tell_program, q_tell_pipe, q_tell_promise, q_put_it, q_put_box, q_put_word, q_put_any, q_put_new, q_put_empty, q_put_same, q_put_not, q_put_and, q_put_or, q_put_tell, q_put_put, q_put_drop, q_put_go, q_put_then, q_put_run, q_put_program, q_put_pipe, q_put_promise, q_drop_it, q_drop_box, q_drop_word, q_drop_any, q_drop_new, q_drop_empty, q_drop_same, q_drop_not, q_drop_and, q_drop_or, q_drop_tell, q_drop_put, q_drop_drop, q_drop_go, q_drop_then, q_drop_run, q_drop_program, q_drop_pipe, q_drop_promise, q_go_it, q_go_box, q_go_word, q_go_any, q_go_new, q_go_empty, q_go_same, q_go_not, q_go_and, q_go_or, q_go_tell, q_go_put, q_go_drop, q_go_go, q_go_then, q_go_run, q_go_program, q_go_pipe, q_go_promise, q_then_it, q_then_box, q_then_word, q_then_any, q_then_new, q_then_empty, q_then_same, q_then_not, q_then_and, q_then_or, q_then_tell, q_then_put, q_then_drop, q_then_go, q_then_then, q_then_run, q_then_program, q_then_pipe, q_then_promise, q_run_it, q_run_box, q_run_word, q_run_any, q_run_new, q_run_empty, q_run_same, q_run_not, q_run_and, q_run_or, q_run_tell, q_run_put, q_run_drop, q_run_go, q_run_then, q_run_run, q_run_program, q_run_pipe, q_run_promise, q_program_it, q_program_box, q_program_word, q_program_any, q_program_new, q_program_empty, q_program_same, q_program_not, q_program_and, q_program_or, q_program_tell, q_program_put, q_program_drop, q_program_go, q_program_then, q_program_run, q_program_program, q_program_pipe, q_program_promise, q_pipe_it, q_pipe_box, q_pipe_word, q_pipe_any, q_pipe_new, q_pipe_empty, q_pipe_same, q_pipe_not, q_pipe_and, q_pipe_or, q_pipe_tell, q_pipe_put, q_pipe_drop, q_pipe_go, q_pipe_then, q_pipe_run, q_pipe_program, q_pipe_pipe, q_pipe_promise, q_promise_it, q_promise_box, q_promise_word, q_promise_any, q_promise_new, q_promise_empty, q_promise_same, q_promise_not, q_promise_and, q_promise_or, q_promise_tell, q_promise_put, q_promise_drop, q_promise_go, q_promise_then, q_promise_run, q_promise_program, q_promise_pipe, q_promise_promise, kComp, iSeq, kSl, partOf, pSl, cut1, seqOf, compD, wipeD, e, e2, nin_two, holds]
  | n + 1, .or c d, wc, h => by
    have hh : max c.hgt d.hgt + 1 < n + 1 := h
    have e := lholds_ok w hn hlen hw hv (n := n) (c := c) wc.1 (by omega)
    have e2 := lholds_ok w hn hlen hw hv (n := n) (c := d) wc.2 (by omega)
    simp only [run_mk, List.map_cons, List.map_nil, List.length_cons, List.length_nil, List.cons_append, List.nil_append, List.replicate_succ, List.replicate_zero, Nat.reduceAdd, Nat.reduceSub, List.getElem?_cons_zero, List.getElem?_cons_succ, List.set_cons_zero, List.set_cons_succ, R.bind_ok, sCons, sNil, sIf, sRet, retL, dropL, sSet, setL, sDrop, sUnp, sPar, lNil, lCons, kF, putL, gN, gT, gAll, kC, kX, kD, kG, kS, scl, k1, k2, L.get, L.take, T.toD, aNil, aCons, kTup, kLst, bVal, bAnd, bOr, bNot, kAnd, kOr, kNot, kIf, boolOf, kCall, cNil, cV, cMv, cPass, lend, back, resL, outs, endOf, srcAt, kSGet, kSLen, kInt, SF.get, SF.put, bl, nm, if_true, if_false, Bool.false_eq_true, Bool.not_true, Bool.not_false, D_u_law_holds, Cd.enc, ix0, dz_h hn, szOk2, an_or, ao_or, q_it_it, q_it_box, q_it_word, q_it_any, q_it_new, q_it_empty, q_it_same, q_it_not, q_it_and, q_it_or, q_it_tell, q_it_put, q_it_drop, q_it_go, q_it_then, q_it_run, q_it_program, q_it_pipe, q_it_promise, q_box_it, q_box_box, q_box_word, q_box_any, q_box_new, q_box_empty, q_box_same, q_box_not, q_box_and, q_box_or, q_box_tell, q_box_put, q_box_drop, q_box_go, q_box_then, q_box_run, q_box_program, q_box_pipe, q_box_promise, q_word_it, q_word_box, q_word_word, q_word_any, q_word_new, q_word_empty, q_word_same, q_word_not, q_word_and, q_word_or, q_word_tell, q_word_put, q_word_drop, q_word_go, q_word_then, q_word_run, q_word_program, q_word_pipe, q_word_promise, q_any_it, q_any_box, q_any_word, q_any_any, q_any_new, q_any_empty, q_any_same, q_any_not, q_any_and, q_any_or, q_any_tell, q_any_put, q_any_drop, q_any_go, q_any_then, q_any_run, q_any_program, q_any_pipe, q_any_promise, q_new_it, q_new_box, q_new_word, q_new_any, q_new_new, q_new_empty, q_new_same, q_new_not, q_new_and, q_new_or, q_new_tell, q_new_put, q_new_drop, q_new_go, q_new_then, q_new_run, q_new_program, q_new_pipe, q_new_promise, q_empty_it, q_empty_box, q_empty_word, q_empty_any, q_empty_new, q_empty_empty, q_empty_same, q_empty_not, q_empty_and, q_empty_or, q_empty_tell, q_empty_put, q_empty_drop, q_empty_go, q_empty_then, q_empty_run, q_empty_program, q_empty_pipe, q_empty_promise, q_same_it, q_same_box, q_same_word, q_same_any, q_same_new, q_same_empty, q_same_same, q_same_not, q_same_and, q_same_or, q_same_tell, q_same_put, q_same_drop, q_same_go, q_same_then, q_same_run, q_same_program, q_same_pipe, q_same_promise, q_not_it, q_not_box, q_not_word, q_not_any, q_not_new, q_not_empty, q_not_same, q_not_not, q_not_and, q_not_or, q_not_tell, q_not_put, q_not_drop, q_not_go, q_not_then, q_not_run, q_not_program, q_not_pipe, q_not_promise, q_and_it, q_and_box, q_and_word, q_and_any, q_and_new, q_and_empty, q_and_same, q_and_not, q_and_and, q_and_or, q_and_tell, q_and_put, q_and_drop, q_and_go, q_and_then, q_and_run, q_and_program, q_and_pipe, q_and_promise, q_or_it, q_or_box, q_or_word, q_or_any, q_or_new, q_or_empty, q_or_same, q_or_not, q_or_and, q_or_or, q_or_tell, q_or_put, q_or_drop, q_or_go, q_or_then, q_or_run, q_or_program, q_or_pipe, q_or_promise, q_tell_it, q_tell_box, q_tell_word, q_tell_any, q_tell_new, q_tell_empty, q_tell_same, q_tell_not, q_tell_and, q_tell_or, q_tell_tell, q_tell_put, q_tell_drop, q_tell_go, q_tell_then, q_tell_run, q_tell_program, q_tell_pipe, q_tell_promise, q_put_it, q_put_box, q_put_word, q_put_any, q_put_new, q_put_empty, q_put_same, q_put_not, q_put_and, q_put_or, q_put_tell, q_put_put, q_put_drop, q_put_go, q_put_then, q_put_run, q_put_program, q_put_pipe, q_put_promise, q_drop_it, q_drop_box, q_drop_word, q_drop_any, q_drop_new, q_drop_empty, q_drop_same, q_drop_not, q_drop_and, q_drop_or, q_drop_tell, q_drop_put, q_drop_drop, q_drop_go, q_drop_then, q_drop_run, q_drop_program, q_drop_pipe, q_drop_promise, q_go_it, q_go_box, q_go_word, q_go_any, q_go_new, q_go_empty, q_go_same, q_go_not, q_go_and, q_go_or, q_go_tell, q_go_put, q_go_drop, q_go_go, q_go_then, q_go_run, q_go_program, q_go_pipe, q_go_promise, q_then_it, q_then_box, q_then_word, q_then_any, q_then_new, q_then_empty, q_then_same, q_then_not, q_then_and, q_then_or, q_then_tell, q_then_put, q_then_drop, q_then_go, q_then_then, q_then_run, q_then_program, q_then_pipe, q_then_promise, q_run_it, q_run_box, q_run_word, q_run_any, q_run_new, q_run_empty, q_run_same, q_run_not, q_run_and, q_run_or, q_run_tell, q_run_put, q_run_drop, q_run_go, q_run_then, q_run_run, q_run_program, q_run_pipe, q_run_promise, q_program_it, q_program_box, q_program_word, q_program_any, q_program_new, q_program_empty, q_program_same, q_program_not, q_program_and, q_program_or, q_program_tell, q_program_put, q_program_drop, q_program_go, q_program_then, q_program_run, q_program_program, q_program_pipe, q_program_promise, q_pipe_it, q_pipe_box, q_pipe_word, q_pipe_any, q_pipe_new, q_pipe_empty, q_pipe_same, q_pipe_not, q_pipe_and, q_pipe_or, q_pipe_tell, q_pipe_put, q_pipe_drop, q_pipe_go, q_pipe_then, q_pipe_run, q_pipe_program, q_pipe_pipe, q_pipe_promise, q_promise_it, q_promise_box, q_promise_word, q_promise_any, q_promise_new, q_promise_empty, q_promise_same, q_promise_not, q_promise_and, q_promise_or, q_promise_tell, q_promise_put, q_promise_drop, q_promise_go, q_promise_then, q_promise_run, q_promise_program, q_promise_pipe, q_promise_promise, kComp, iSeq, kSl, partOf, pSl, cut1, seqOf, compD, wipeD, e, e2, in_two, holds]
end K07

set_option Elab.async false
set_option linter.all false
set_option maxRecDepth 100000
set_option maxHeartbeats 4000000
set_option pp.maxSteps 600
namespace K07
open PySem KV
/-! ### the number of the first rule -/
def hold? (h : Cd → Bool) (rs : List (Cd × List Ac)) (i : Nat) : Bool := match rs[i]? with
  | some r => h r.1
  | none => false
theorem first_range {h : Cd → Bool} : ∀ rs : List (Cd × List Ac), ((List.range rs.length).filter (hold? h rs)).head? = firstIx h rs
  | [] => rfl
  | r :: rs => by
    have ih := first_range (h := h) rs
    rw [List.length_cons, List.range_succ_eq_map, List.filter_cons]
    cases e : h r.1 with
    | true =>
      have : hold? h (r :: rs) 0 = true := e
      rw [if_pos this]
      simp [firstIx, e]
    | false =>
      have : ¬ hold? h (r :: rs) 0 = true := by
        show ¬ h r.1 = true
        simp [e]
      rw [if_neg this, List.filter_map]
      have e2 : (hold? h (r :: rs) ∘ Nat.succ) = hold? h rs := by
        funext i
        simp [hold?]
      rw [e2, List.head?_map, ih]
      simp [firstIx, e]
theorem eqOk_ints (l : List Nat) : eqOk (.list (l.map fun i => PyData.int (0 + (i : Nat)))) = true := by
  have h1 : ∀ l : List Nat, PyData.canLayAll0 (l.map fun i => PyData.int (0 + (i : Nat))) = true ∧ PyData.depthAll (l.map fun i => PyData.int (0 + (i : Nat))) ≤ 1 := fun l => by
    induction l with
    | nil => exact ⟨rfl, Nat.zero_le _⟩
    | cons x xs ih =>
      rw [List.map_cons]
      refine ⟨by rw [PyData.canLayAll0, ih.1]; simp [PyData.canLay0], ?_⟩
      rw [PyData.depthAll]
      simp only [PyData.depth]
      have := ih.2
      omega
  have e : ((PyData.list (l.map fun i => PyData.int (0 + (i : Nat)))).canLay0 && decide ((PyData.list (l.map fun i => PyData.int (0 + (i : Nat)))).depth ≤ 64)) = true := by
    rw [Bool.and_eq_true]
    refine ⟨by rw [PyData.canLay0]; exact (h1 l).1, decide_eq_true ?_⟩
    rw [PyData.depth]
    have := (h1 l).2
    omega
  exact e
theorem ixl0 : ∀ (a : D) (r : List D), pIx (.list (a :: r)) (.int 0) = .ok (.d a) := fun a r => by
  have := ixD_nat (n := (a :: r).length) (r := 0) (by simp)
  simp only [pIx]
  rw [show ixD (a :: r).length 0 = some 0 from this]
  rfl
theorem ix_rule {md : Md} {i : Nat} {r : Cd × List Ac} (h : md.rules[i]? = some r) : pIx (rulesE md) (.int (i : Nat)) = .ok (.d (ruleE r)) := by
  have hj : i < md.rules.length := (List.getElem?_eq_some_iff.mp h).1
  have e := ixD_nat (n := (md.rules.map ruleE).length) (r := i) (by rw [List.length_map]; exact hj)
  show optD ((ixD (md.rules.map ruleE).length (i : Int)).bind fun j => (md.rules.map ruleE)[j]?) = _
  rw [e]
  simp only [Option.bind_some, List.getElem?_map, h, Option.map_some, optD]
theorem heads {p : Pg} {m : Str} {md : Md} (hf : p.modes.find? (fun x => decide (x.name = m)) = some md) : ∃ r, (p.modes.filter fun x => decide (x.name = m)) = md :: r := by
  rw [← List.head?_filter] at hf
  cases e : p.modes.filter fun x => decide (x.name = m) with
  | nil => rw [e] at hf; cases hf
  | cons y r => rw [e] at hf; cases hf; exact ⟨r, rfl⟩
theorem lfirst_ok {ws : List Str} {p : Pg} {m v : Str} {vs : List (Option Str)} {md : Md} (wp : WP p) (low : ∀ x ∈ p.modes, ∀ r ∈ x.rules, r.1.hgt < 4) (nd : p.boxes.Nodup) (w : WV p.boxes vs) (hw : ∀ x ∈ ws, Sk x) (hv : Sk v) (hm : Sk m) (hf : p.modes.find? (fun x => decide (x.name = m)) = some md) :
    D_u_law_first_rule.run [.val (strsE ws), .val p.enc, .val (stE (m, vs)), .val (.str v)] = .ok (.val (natO (firstIx (holds ws p.boxes vs v) md.rules)), []) := by
  have hmd : md ∈ p.modes := List.mem_of_find?_eq_some hf
  have hlen : vs.length ≤ 1000 := by rw [w.len]; exact wp.fewB
  have ixb : pIx p.enc (.int 2) = .ok (.d (strsE p.boxes)) := ix2
  have ixm : pIx p.enc (.int 3) = .ok (.d (.tuple (p.modes.map Md.enc))) := ix3
  have is0 : pIx (stE (m, vs)) (.int 0) = .ok (.d (.str m)) := ix0
  have is1 : pIx (stE (m, vs)) (.int 1) = .ok (.d (valsE vs)) := ix1
  have hc := comp_map (g := gT [gN 7, gN 8, gN 4]) (c := some (bVal (k2 pEq (kX 7) (k2 pIx (kX 2) (kC (.int 0)))))) (f := kX 4) (own := [7, 8, 4]) (s := [some (.val (strsE ws)), some (.val p.enc), some (.val (stE (m, vs))), some (.val (.str v)), none, none, none, none, none]) Md.enc
    (fun x => [some (.val (strsE ws)), some (.val p.enc), some (.val (stE (m, vs))), some (.val (.str v)), some (.val (rulesE x)), none, none, some (.val (.str x.name)), some (.val (.bool x.yes))]) (fun x => decide (x.name = m)) rulesE rfl (xs := p.modes) (fun x hx => by
      refine ⟨rfl, rfl, ?_, fun _ => ?_⟩
      · simp only [run_mk, List.map_cons, List.map_nil, List.length_cons, List.length_nil, List.cons_append, List.nil_append, List.replicate_succ, List.replicate_zero, Nat.reduceAdd, Nat.reduceSub, List.getElem?_cons_zero, List.getElem?_cons_succ, List.set_cons_zero, List.set_cons_succ, R.bind_ok, sCons, sNil, sIf, sRet, retL, dropL, sSet, setL, sDrop, sUnp, sPar, lNil, lCons, kF, putL, gN, gT, gAll, kC, kX, kD, kG, kS, scl, k1, k2, L.get, L.take, T.toD, aNil, aCons, kTup, kLst, bVal, bAnd, bOr, bNot, kAnd, kOr, kNot, kIf, boolOf, kCall, cNil, cV, cMv, cPass, lend, back, resL, outs, endOf, srcAt, kSGet, kSLen, kInt, SF.get, SF.put, bl, nm, if_true, if_false, Bool.false_eq_true, Bool.not_true, Bool.not_false, bOf, is0, pEq_sk (wp.mok x hx) hm]
      · simp only [run_mk, List.map_cons, List.map_nil, List.length_cons, List.length_nil, List.cons_append, List.nil_append, List.replicate_succ, List.replicate_zero, Nat.reduceAdd, Nat.reduceSub, List.getElem?_cons_zero, List.getElem?_cons_succ, List.set_cons_zero, List.set_cons_succ, R.bind_ok, sCons, sNil, sIf, sRet, retL, dropL, sSet, setL, sDrop, sUnp, sPar, lNil, lCons, kF, putL, gN, gT, gAll, kC, kX, kD, kG, kS, scl, k1, k2, L.get, L.take, T.toD, aNil, aCons, kTup, kLst, bVal, bAnd, bOr, bNot, kAnd, kOr, kNot, kIf, boolOf, kCall, cNil, cV, cMv, cPass, lend, back, resL, outs, endOf, srcAt, kSGet, kSLen, kInt, SF.get, SF.put, bl, nm, if_true, if_false, Bool.false_eq_true, Bool.not_true, Bool.not_false])
  have hz : szOk ((p.modes.filter fun x => decide (x.name = m)).map rulesE).length = true := szOk_of (by
    rw [List.length_map]
    exact Nat.le_trans (List.length_filter_le _ _) (by have := wp.few; omega))
  obtain ⟨rr, hr⟩ := heads hf
  rw [hr, List.map_cons] at hc hz
  have hr2 := (wp.rls md hmd).2
  have hl2 := (wp.rls md hmd).1
  have hc2 := comp_map (g := gN 6) (c := some (bVal (kCall (D_u_law_holds 4).run (cV (kX 0) (cV (k2 pIx (kX 1) (kC (.int 2))) (cV (k2 pIx (kX 2) (kC (.int 1))) (cV (k2 pIx (k2 pIx (kX 4) (kX 6)) (kC (.int 0))) (cV (kX 3) cNil)))))))) (f := kX 6) (own := [6]) (s := [some (.val (strsE ws)), some (.val p.enc), some (.val (stE (m, vs))), some (.val (.str v)), some (.val (rulesE md)), none, none, none, none]) (fun i : Nat => PyData.int (0 + (i : Nat)))
    (fun i => [some (.val (strsE ws)), some (.val p.enc), some (.val (stE (m, vs))), some (.val (.str v)), some (.val (rulesE md)), none, some (.val (.int (0 + (i : Nat)))), none, none]) (hold? (holds ws p.boxes vs v) md.rules) (fun i => PyData.int (0 + (i : Nat))) rfl (xs := List.range md.rules.length) (fun i hi => by
      have hi' : i < md.rules.length := List.mem_range.mp hi
      have hri : md.rules[i]? = some md.rules[i] := List.getElem?_eq_getElem hi'
      have hmem : md.rules[i] ∈ md.rules := List.getElem_mem _
      have e := lholds_ok w nd hlen hw hv (n := 4) (c := md.rules[i].1) (hr2 _ hmem).1 (low md hmd _ hmem)
      have e1 := ix_rule hri
      have e2 : pIx (ruleE md.rules[i]) (.int 0) = .ok (.d md.rules[i].1.enc) := ix0
      refine ⟨rfl, rfl, ?_, fun _ => ?_⟩
      · simp only [run_mk, List.map_cons, List.map_nil, List.length_cons, List.length_nil, List.cons_append, List.nil_append, List.replicate_succ, List.replicate_zero, Nat.reduceAdd, Nat.reduceSub, List.getElem?_cons_zero, List.getElem?_cons_succ, List.set_cons_zero, List.set_cons_succ, R.bind_ok, sCons, sNil, sIf, sRet, retL, dropL, sSet, setL, sDrop, sUnp, sPar, lNil, lCons, kF, putL, gN, gT, gAll, kC, kX, kD, kG, kS, scl, k1, k2, L.get, L.take, T.toD, aNil, aCons, kTup, kLst, bVal, bAnd, bOr, bNot, kAnd, kOr, kNot, kIf, boolOf, kCall, cNil, cV, cMv, cPass, lend, back, resL, outs, endOf, srcAt, kSGet, kSLen, kInt, SF.get, SF.put, bl, nm, if_true, if_false, Bool.false_eq_true, Bool.not_true, Bool.not_false, bOf, ixb, is1, Int.zero_add, e1, e2, e, hold?, hri]
      · simp only [run_mk, List.map_cons, List.map_nil, List.length_cons, List.length_nil, List.cons_append, List.nil_append, List.replicate_succ, List.replicate_zero, Nat.reduceAdd, Nat.reduceSub, List.getElem?_cons_zero, List.getElem?_cons_succ, List.set_cons_zero, List.set_cons_succ, R.bind_ok, sCons, sNil, sIf, sRet, retL, dropL, sSet, setL, sDrop, sUnp, sPar, lNil, lCons, kF, putL, gN, gT, gAll, kC, kX, kD, kG, kS, scl, k1, k2, L.get, L.take, T.toD, aNil, aCons, kTup, kLst, bVal, bAnd, bOr, bNot, kAnd, kOr, kNot, kIf, boolOf, kCall, cNil, cV, cMv, cPass, lend, back, resL, outs, endOf, srcAt, kSGet, kSLen, kInt, SF.get, SF.put, bl, nm, if_true, if_false, Bool.false_eq_true, Bool.not_true, Bool.not_false])
  have hh := first_range (h := holds ws p.boxes vs v) md.rules
  generalize hg : (List.range md.rules.length).filter (hold? (holds ws p.boxes vs v) md.rules) = l at hc2 hh
  have hll : l.length ≤ md.rules.length := by
    rw [← hg]
    refine Nat.le_trans (List.length_filter_le _ _) ?_
    rw [List.length_range]
    exact Nat.le_refl _
  have hz2 : szOk (l.map fun i => PyData.int (0 + (i : Nat))).length = true := szOk_of (by rw [List.length_map]; omega)
  have hq : pNe (.list (l.map fun i => PyData.int (0 + (i : Nat)))) (.list []) = bl (!(l.map fun i => PyData.int (0 + (i : Nat))).isEmpty) := pNe_nil (eqOk_ints l)
  have hlr : pLen (rulesE md) = nm (md.rules.map ruleE).length := rfl
  have zn : (((md.rules.map ruleE).length : Int) ≤ 16000000 ∧ -16000000 ≤ ((md.rules.map ruleE).length : Int)) := by rw [List.length_map]; omega
  have hI : intR 0 (Int.toNat ((md.rules.map ruleE).length : Int)) = (List.range md.rules.length).map (fun i : Nat => PyData.int (0 + (i : Nat))) := by rw [Int.toNat_natCast, List.length_map]; rfl
  rw [List.length_cons] at hz
  cases l with
  | nil =>
    simp only [List.map_nil, List.isEmpty_nil, Bool.not_true] at hq hc2
    rw [← hh]
    simp only [run_mk, List.map_cons, List.map_nil, List.length_cons, List.length_nil, List.cons_append, List.nil_append, List.replicate_succ, List.replicate_zero, Nat.reduceAdd, Nat.reduceSub, List.getElem?_cons_zero, List.getElem?_cons_succ, List.set_cons_zero, List.set_cons_succ, R.bind_ok, sCons, sNil, sIf, sRet, retL, dropL, sSet, setL, sDrop, sUnp, sPar, lNil, lCons, kF, putL, gN, gT, gAll, kC, kX, kD, kG, kS, scl, k1, k2, L.get, L.take, T.toD, aNil, aCons, kTup, kLst, bVal, bAnd, bOr, bNot, kAnd, kOr, kNot, kIf, boolOf, kCall, cNil, cV, cMv, cPass, lend, back, resL, outs, endOf, srcAt, kSGet, kSLen, kInt, SF.get, SF.put, bl, nm, if_true, if_false, Bool.false_eq_true, Bool.not_true, Bool.not_false, D_u_law_first_rule, kComp, iSeq, iRg1, seqOf, ixm, hc, hz, ixl0, hlr, zn, and_self, hI, hc2, szOk0, hq, List.head?_nil, natO]
  | cons x l =>
    simp only [List.map_cons, List.isEmpty_cons, Bool.not_false, List.length_cons] at hq hc2 hz2
    rw [← hh]
    have e0 : ((0 : Int) + (x : Nat)) = (x : Nat) := Int.zero_add _
    rw [e0] at hq hc2
    simp only [run_mk, List.map_cons, List.map_nil, List.length_cons, List.length_nil, List.cons_append, List.nil_append, List.replicate_succ, List.replicate_zero, Nat.reduceAdd, Nat.reduceSub, List.getElem?_cons_zero, List.getElem?_cons_succ, List.set_cons_zero, List.set_cons_succ, R.bind_ok, sCons, sNil, sIf, sRet, retL, dropL, sSet, setL, sDrop, sUnp, sPar, lNil, lCons, kF, putL, gN, gT, gAll, kC, kX, kD, kG, kS, scl, k1, k2, L.get, L.take, T.toD, aNil, aCons, kTup, kLst, bVal, bAnd, bOr, bNot, kAnd, kOr, kNot, kIf, boolOf, kCall, cNil, cV, cMv, cPass, lend, back, resL, outs, endOf, srcAt, kSGet, kSLen, kInt, SF.get, SF.put, bl, nm, if_true, if_false, Bool.false_eq_true, Bool.not_true, Bool.not_false, D_u_law_first_rule, kComp, iSeq, iRg1, seqOf, ixm, hc, hz, ixl0, hlr, zn, and_self, hI, hc2, hz2, szOk0, hq, List.head?_cons, natO]
end K07

set_option Elab.async false
set_option linter.all false
set_option maxRecDepth 100000
set_option maxHeartbeats 4000000
set_option pp.maxSteps 600
namespace K07
open PySem KV
theorem fit_ac {bs : List Str} {ac : Ac} (hb : ∀ b ∈ bs, Sk b) (w : WA bs ac) : fit 2 129 ac.enc := by
  cases ac with
  | tell t =>
    refine (fit_tup (n := 1) (m := 42) (k := 3) (fun d hd => ?_) (by simp))
    simp at hd
    rcases hd with z | z <;> subst z
    · exact fit_lit "tell" (by simp) (by omega)
    · exact fit_th hb w
  | put t b =>
    refine (fit_tup (n := 1) (m := 42) (k := 3) (fun d hd => ?_) (by simp))
    simp at hd
    rcases hd with z | z | z <;> subst z
    · exact fit_lit "put" (by simp) (by omega)
    · exact fit_th hb w.1
    · exact fit_str (hb b w.2).1 (Nat.le_trans (hb b w.2).2 (by omega))
  | drop b =>
    refine (fit_tup (n := 1) (m := 42) (k := 3) (fun d hd => ?_) (by simp))
    simp at hd
    rcases hd with z | z <;> subst z
    · exact fit_lit "drop" (by simp) (by omega)
    · exact fit_str (hb b w).1 (Nat.le_trans (hb b w).2 (by omega))
  | go m =>
    refine (fit_tup (n := 1) (m := 42) (k := 3) (fun d hd => ?_) (by simp))
    simp at hd
    rcases hd with z | z <;> subst z
    · exact fit_lit "go" (by simp) (by omega)
    · exact fit_str w.1 (Nat.le_trans w.2 (by omega))
/-! ### the law's step: box by box -/
def latF (bs : List Str) (vs : List (Option Str)) (v : Str) (b : Str) (w : Option Str) : Ac → Option Str
  | .put t c => if c = b then worth bs vs t v else w
  | .drop c => if c = b then none else w
  | _ => w
def goF (m : Str) : Ac → Str
  | .go x => x
  | _ => m
def wOf (bs : List Str) (vs : List (Option Str)) (v : Str) : Ac → Option Str
  | .tell t => worth bs vs t v
  | _ => none
def isTl : Ac → Bool
  | .tell _ => true
  | _ => false
theorem setB_zip {f : Str → Option Str → Option Str} {c : Str} {x : Option Str} (hf : ∀ b w, f b w = if c = b then x else w) : ∀ {bs : List Str} {vs : List (Option Str)}, bs.Nodup → vs.length = bs.length → setB bs vs c x = List.zipWith f bs vs
  | [], vs, _, h => by cases vs with
    | nil => rfl
    | cons v vs => simp at h
  | b :: bs, [], _, h => by simp at h
  | b :: bs, v :: vs, hn, h => by
    obtain ⟨h1, h2⟩ := List.nodup_cons.mp hn
    have ih := setB_zip hf (bs := bs) (vs := vs) h2 (by simpa using h)
    unfold setB
    rw [List.zipWith_cons_cons, hf b v]
    by_cases e : b = c
    · subst e
      rw [if_pos rfl, if_pos rfl]
      congr 1
      have : ∀ {bs : List Str} {vs : List (Option Str)}, b ∉ bs → vs.length = bs.length → List.zipWith f bs vs = vs := fun {bs} => by
        induction bs with
        | nil => intro vs _ h; cases vs with
          | nil => rfl
          | cons v vs => simp at h
        | cons c bs ih =>
          intro vs hb hl
          cases vs with
          | nil => simp at hl
          | cons v vs =>
            rw [List.zipWith_cons_cons, hf c v, if_neg (show ¬ b = c from fun z => hb (z ▸ List.mem_cons_self ..)), ih (fun z => hb (List.mem_cons_of_mem _ z)) (by simpa using hl)]
      exact (this h1 (by simpa using h)).symm
    · rw [if_neg e, if_neg (fun z => e z.symm), ih]
theorem zip_id {f : Str → Option Str → Option Str} (hf : ∀ b w, f b w = w) : ∀ {bs : List Str} {vs : List (Option Str)}, vs.length = bs.length → List.zipWith f bs vs = vs
  | [], vs, h => by cases vs with
    | nil => rfl
    | cons v vs => simp at h
  | b :: bs, [], h => by simp at h
  | b :: bs, v :: vs, h => by rw [List.zipWith_cons_cons, hf, zip_id hf (by simpa using h)]
theorem zip_zip {f g h : Str → Option Str → Option Str} (e : ∀ b w, g b (f b w) = h b w) : ∀ {bs : List Str} {vs : List (Option Str)}, List.zipWith g bs (List.zipWith f bs vs) = List.zipWith h bs vs
  | [], vs => by simp
  | b :: bs, [] => by simp
  | b :: bs, v :: vs => by rw [List.zipWith_cons_cons, List.zipWith_cons_cons, List.zipWith_cons_cons, e, zip_zip e]
theorem act_zip {bs : List Str} {vs : List (Option Str)} {v : Str} {a : Acc} {ac : Ac} (hn : bs.Nodup) (hl : a.2.1.length = bs.length) : (actStep bs vs v a ac).2.1 = List.zipWith (fun b w => latF bs vs v b w ac) bs a.2.1 := by
  cases ac with
  | tell t => exact (zip_id (fun _ _ => rfl) hl).symm
  | go m => exact (zip_id (fun _ _ => rfl) hl).symm
  | put t c => exact setB_zip (fun _ _ => rfl) hn hl
  | drop c => exact setB_zip (fun _ _ => rfl) hn hl
theorem fold_zip {bs : List Str} {vs : List (Option Str)} {v : Str} (hn : bs.Nodup) : ∀ {acts : List Ac} {a : Acc}, a.2.1.length = bs.length →
    acts.foldl (actStep bs vs v) a = (a.1 ++ (acts.filter isTl).map (wOf bs vs v), List.zipWith (fun b w => acts.foldl (latF bs vs v b) w) bs a.2.1, acts.foldl goF a.2.2)
  | [], a, hl => by
    have : List.zipWith (fun b w => List.foldl (latF bs vs v b) w ([] : List Ac)) bs a.2.1 = a.2.1 := zip_id (fun _ _ => rfl) hl
    rw [this]
    simp
  | ac :: acts, a, hl => by
    rw [List.foldl_cons, fold_zip hn (acts := acts) (by rw [actStep_len.1]; exact hl), act_zip hn hl, zip_zip (h := fun b w => (ac :: acts).foldl (latF bs vs v b) w) (fun b w => rfl)]
    cases ac <;> simp [actStep, isTl, wOf, goF, List.filter_cons]
/-! ### its loops -/
def stS (ws : List Str) (p st : D) (v : Str) (nu : D) (bs : List Str) (ac : D) (told : T) (late : List D) (m : Str) (t10 t11 t12 : Option T) : Sl :=
  [some (.val (strsE ws)), some (.val p), some (.val st), some (.val (.str v)), some (.val nu), some (.val (strsE bs)), some (.val ac), some told, some (.lst late), some (.val (.str m)), t10, t11, t12, none, none, none]
abbrev sI : SV := (sCons (sIf (bAnd (bVal (k2 pEq (k2 pIx (kX 12) (kC (.int 0))) (kC (.str "put")))) (bVal (k2 pEq (k2 pIx (kX 12) (kC (.int 2))) (kX 10)))) (sCons (sSet 11 (kCall (D_u_law_worth).run (cV (kX 5) (cV (k2 pIx (kX 2) (kC (.int 1))) (cV (k2 pIx (kX 12) (kC (.int 1))) (cV (kX 3) cNil))))))
    sNil) sNil)
    (sCons (sIf (bVal (k2 pEq (kX 12) (kTup (aCons (kC (.str "drop")) (aCons (kX 10) aNil))))) (sCons (sSet 11 (kC .none))
    sNil) sNil)
    sNil))
theorem eq_drop {bs : List Str} {ac : Ac} {b : Str} (hb : ∀ b ∈ bs, Sk b) (wa : WA bs ac) (hk : Sk b) : pEq ac.enc (.tuple [.str "drop", .str b]) = bl (match ac with | .drop c => decide (c = b) | _ => false) := by
  have h1 : eqOk ac.enc = true := (fit_ac hb wa).eqOk (by decide)
  have h2 : eqOk (.tuple [.str "drop", .str b]) = true := (fit_tup (n := 0) (m := 20) (k := 2) (fun d hd => by
    simp only [List.mem_cons, List.not_mem_nil, or_false] at hd
    rcases hd with rfl | rfl
    · exact fit_lit "drop" (by simp) (by omega)
    · exact fit_str hk.1 hk.2) (by simp)).eqOk (by decide)
  rw [pEq_of h1 h2]
  cases ac with
  | tell t => rfl
  | put t c => rfl
  | go m => rfl
  | drop c =>
    have : PyData.eqv (Ac.drop c).enc (.tuple [.str "drop", .str b]) = (PyData.eqv (.str c) (.str b) && true) := rfl
    rw [this, Bool.and_true, eqv_str]
theorem sI_for {ws bs : List Str} {p nu acD : D} {v m m0 b : Str} {vs : List (Option Str)} {told : T} {late : List D} (w : WV bs vs) (nd : bs.Nodup) (hk : Sk b) : ∀ {acts : List Ac} {x : Option Str} {t12 : Option T}, (∀ a ∈ acts, WA bs a) →
    ∃ t, forD (gN 12) sI (acts.map Ac.enc) (stS ws p (stE (m0, vs)) v nu bs acD told late m (some (.val (.str b))) (some (.val (optE x))) t12) = .ok (.nx, stS ws p (stE (m0, vs)) v nu bs acD told late m (some (.val (.str b))) (some (.val (optE (acts.foldl (latF bs vs v b) x)))) t)
  | [], x, t12, _ => ⟨t12, rfl⟩
  | ac :: acts, x, t12, ha => by
    have wa := ha ac (List.mem_cons_self ..)
    obtain ⟨t, ih⟩ := sI_for (ws := ws) (p := p) (nu := nu) (acD := acD) (v := v) (m := m) (m0 := m0) (told := told) (late := late) w nd hk (acts := acts) (x := latF bs vs v b x ac) (t12 := some (.val ac.enc)) (fun y hy => ha y (List.mem_cons_of_mem _ hy))
    refine ⟨t, ?_⟩
    have ed := eq_drop w.bok wa hk
    have is1 : pIx (stE (m0, vs)) (.int 1) = .ok (.d (valsE vs)) := ix1
    have key : (gN 12 ac.enc (stS ws p (stE (m0, vs)) v nu bs acD told late m (some (.val (.str b))) (some (.val (optE x))) t12)).bind sI = .ok (.nx, stS ws p (stE (m0, vs)) v nu bs acD told late m (some (.val (.str b))) (some (.val (optE (latF bs vs v b x ac)))) (some (.val ac.enc))) := by
      cases ac with
      | tell y =>
        have a0 : pIx (Ac.tell y).enc (.int 0) = .ok (.d (.str "tell")) := ix0
        simp only at ed
        simp only [run_mk, List.map_cons, List.map_nil, List.length_cons, List.length_nil, List.cons_append, List.nil_append, List.replicate_succ, List.replicate_zero, Nat.reduceAdd, Nat.reduceSub, List.getElem?_cons_zero, List.getElem?_cons_succ, List.set_cons_zero, List.set_cons_succ, R.bind_ok, sCons, sNil, sIf, sRet, retL, dropL, sSet, setL, sDrop, sUnp, sPar, lNil, lCons, kF, putL, gN, gT, gAll, kC, kX, kD, kG, kS, scl, k1, k2, L.get, L.take, T.toD, aNil, aCons, kTup, kLst, bVal, bAnd, bOr, bNot, kAnd, kOr, kNot, kIf, boolOf, kCall, cNil, cV, cMv, cPass, lend, back, resL, outs, endOf, srcAt, kSGet, kSLen, kInt, SF.get, SF.put, bl, nm, if_true, if_false, Bool.false_eq_true, Bool.not_true, Bool.not_false, sI, stS, a0, q_tell_put, szOk2, ed, latF]
      | go y =>
        have a0 : pIx (Ac.go y).enc (.int 0) = .ok (.d (.str "go")) := ix0
        simp only at ed
        simp only [run_mk, List.map_cons, List.map_nil, List.length_cons, List.length_nil, List.cons_append, List.nil_append, List.replicate_succ, List.replicate_zero, Nat.reduceAdd, Nat.reduceSub, List.getElem?_cons_zero, List.getElem?_cons_succ, List.set_cons_zero, List.set_cons_succ, R.bind_ok, sCons, sNil, sIf, sRet, retL, dropL, sSet, setL, sDrop, sUnp, sPar, lNil, lCons, kF, putL, gN, gT, gAll, kC, kX, kD, kG, kS, scl, k1, k2, L.get, L.take, T.toD, aNil, aCons, kTup, kLst, bVal, bAnd, bOr, bNot, kAnd, kOr, kNot, kIf, boolOf, kCall, cNil, cV, cMv, cPass, lend, back, resL, outs, endOf, srcAt, kSGet, kSLen, kInt, SF.get, SF.put, bl, nm, if_true, if_false, Bool.false_eq_true, Bool.not_true, Bool.not_false, sI, stS, a0, q_go_put, szOk2, ed, latF]
      | drop c =>
        have a0 : pIx (Ac.drop c).enc (.int 0) = .ok (.d (.str "drop")) := ix0
        simp only at ed
        by_cases e : c = b
        · simp only [decide_eq_true e] at ed
          simp only [run_mk, List.map_cons, List.map_nil, List.length_cons, List.length_nil, List.cons_append, List.nil_append, List.replicate_succ, List.replicate_zero, Nat.reduceAdd, Nat.reduceSub, List.getElem?_cons_zero, List.getElem?_cons_succ, List.set_cons_zero, List.set_cons_succ, R.bind_ok, sCons, sNil, sIf, sRet, retL, dropL, sSet, setL, sDrop, sUnp, sPar, lNil, lCons, kF, putL, gN, gT, gAll, kC, kX, kD, kG, kS, scl, k1, k2, L.get, L.take, T.toD, aNil, aCons, kTup, kLst, bVal, bAnd, bOr, bNot, kAnd, kOr, kNot, kIf, boolOf, kCall, cNil, cV, cMv, cPass, lend, back, resL, outs, endOf, srcAt, kSGet, kSLen, kInt, SF.get, SF.put, bl, nm, if_true, if_false, Bool.false_eq_true, Bool.not_true, Bool.not_false, sI, stS, a0, q_drop_put, szOk2, ed, latF, if_pos e, optE]
        · simp only [decide_eq_false e] at ed
          simp only [run_mk, List.map_cons, List.map_nil, List.length_cons, List.length_nil, List.cons_append, List.nil_append, List.replicate_succ, List.replicate_zero, Nat.reduceAdd, Nat.reduceSub, List.getElem?_cons_zero, List.getElem?_cons_succ, List.set_cons_zero, List.set_cons_succ, R.bind_ok, sCons, sNil, sIf, sRet, retL, dropL, sSet, setL, sDrop, sUnp, sPar, lNil, lCons, kF, putL, gN, gT, gAll, kC, kX, kD, kG, kS, scl, k1, k2, L.get, L.take, T.toD, aNil, aCons, kTup, kLst, bVal, bAnd, bOr, bNot, kAnd, kOr, kNot, kIf, boolOf, kCall, cNil, cV, cMv, cPass, lend, back, resL, outs, endOf, srcAt, kSGet, kSLen, kInt, SF.get, SF.put, bl, nm, if_true, if_false, Bool.false_eq_true, Bool.not_true, Bool.not_false, sI, stS, a0, q_drop_put, szOk2, ed, latF, if_neg e]
      | put y c =>
        have a0 : pIx (Ac.put y c).enc (.int 0) = .ok (.d (.str "put")) := ix0
        have a1 : pIx (Ac.put y c).enc (.int 1) = .ok (.d y.enc) := ix1
        have a2 : pIx (Ac.put y c).enc (.int 2) = .ok (.d (.str c)) := ix2
        have ew := lworth_ok (v := v) w nd wa.1
        have eb := pEq_sk (w.bok c wa.2) hk
        simp only at ed
        by_cases e : c = b
        · simp only [decide_eq_true e] at eb
          simp only [run_mk, List.map_cons, List.map_nil, List.length_cons, List.length_nil, List.cons_append, List.nil_append, List.replicate_succ, List.replicate_zero, Nat.reduceAdd, Nat.reduceSub, List.getElem?_cons_zero, List.getElem?_cons_succ, List.set_cons_zero, List.set_cons_succ, R.bind_ok, sCons, sNil, sIf, sRet, retL, dropL, sSet, setL, sDrop, sUnp, sPar, lNil, lCons, kF, putL, gN, gT, gAll, kC, kX, kD, kG, kS, scl, k1, k2, L.get, L.take, T.toD, aNil, aCons, kTup, kLst, bVal, bAnd, bOr, bNot, kAnd, kOr, kNot, kIf, boolOf, kCall, cNil, cV, cMv, cPass, lend, back, resL, outs, endOf, srcAt, kSGet, kSLen, kInt, SF.get, SF.put, bl, nm, if_true, if_false, Bool.false_eq_true, Bool.not_true, Bool.not_false, sI, stS, a0, a1, a2, q_put_put, eb, is1, ew, szOk2, ed, latF, if_pos e]
        · simp only [decide_eq_false e] at eb
          simp only [run_mk, List.map_cons, List.map_nil, List.length_cons, List.length_nil, List.cons_append, List.nil_append, List.replicate_succ, List.replicate_zero, Nat.reduceAdd, Nat.reduceSub, List.getElem?_cons_zero, List.getElem?_cons_succ, List.set_cons_zero, List.set_cons_succ, R.bind_ok, sCons, sNil, sIf, sRet, retL, dropL, sSet, setL, sDrop, sUnp, sPar, lNil, lCons, kF, putL, gN, gT, gAll, kC, kX, kD, kG, kS, scl, k1, k2, L.get, L.take, T.toD, aNil, aCons, kTup, kLst, bVal, bAnd, bOr, bNot, kAnd, kOr, kNot, kIf, boolOf, kCall, cNil, cV, cMv, cPass, lend, back, resL, outs, endOf, srcAt, kSGet, kSLen, kInt, SF.get, SF.put, bl, nm, if_true, if_false, Bool.false_eq_true, Bool.not_true, Bool.not_false, sI, stS, a0, a1, a2, q_put_put, eb, szOk2, ed, latF, if_neg e]
    obtain ⟨s1, k1, k2⟩ := R.bind_eq_ok.mp key
    rw [List.map_cons]
    unfold forD
    rw [k1, R.bind_ok, k2, R.bind_ok]
    exact ih
end K07

set_option Elab.async false
set_option linter.all false
set_option maxRecDepth 100000
set_option maxHeartbeats 4000000
set_option pp.maxSteps 600
namespace K07
open PySem KV
theorem seq_t {xs : List D} : seqOf (.tuple xs) = .ok xs := rfl
theorem seq_l {xs : List D} : seqOf (.list xs) = .ok xs := rfl
abbrev sO : SV := (sCons (sFor (iSeq (kX 6)) (gN 12) sI) (sCons (sDrop (kApp 8 (kX 11)))
    sNil))
def actsE (l : List Ac) : D := .tuple (l.map Ac.enc)
theorem sO_for {ws bs : List Str} {p nu : D} {v m m0 : Str} {vs : List (Option Str)} {told : T} {acts : List Ac} (w : WV bs vs) (nd : bs.Nodup) (ha : ∀ a ∈ acts, WA bs a) : ∀ {bt : List Str} {vt : List (Option Str)} {late : List D} {t10 t11 t12 : Option T}, (∀ b ∈ bt, Sk b) → vt.length = bt.length → late.length + bt.length ≤ 100000 →
    ∃ a b c, forD (gT [gN 10, gN 11]) sO (zipD (bt.map PyData.str) (vt.map optE)) (stS ws p (stE (m0, vs)) v nu bs (actsE acts) told late m t10 t11 t12) = .ok (.nx, stS ws p (stE (m0, vs)) v nu bs (actsE acts) told (late ++ (List.zipWith (fun b w => acts.foldl (latF bs vs v b) w) bt vt).map optE) m a b c)
  | [], vt, late, t10, t11, t12, _, hl, _ => by
    cases vt with
    | cons _ _ => simp at hl
    | nil => exact ⟨t10, t11, t12, by simp [zipD, forD]⟩
  | b :: bt, [], _, _, _, _, _, hl, _ => by simp at hl
  | b :: bt, x :: vt, late, t10, t11, t12, hk, hl, hn => by
    simp only [List.length_cons] at hn hl
    obtain ⟨t, e⟩ := sI_for (ws := ws) (p := p) (nu := nu) (acD := actsE acts) (v := v) (m := m) (m0 := m0) (told := told) (late := late) w nd (hk b (List.mem_cons_self ..)) (acts := acts) (x := x) (t12 := t12) ha
    obtain ⟨a1, b1, c1, e2⟩ := sO_for (ws := ws) (p := p) (nu := nu) (v := v) (m := m) (m0 := m0) (told := told) w nd ha (bt := bt) (vt := vt) (late := late ++ [optE (acts.foldl (latF bs vs v b) x)]) (t10 := some (.val (.str b))) (t11 := some (.val (optE (acts.foldl (latF bs vs v b) x)))) (t12 := t) (fun y hy => hk y (List.mem_cons_of_mem _ hy)) (by omega) (by rw [List.length_append, List.length_singleton]; omega)
    refine ⟨a1, b1, c1, ?_⟩
    have hz : szOk (late.length + 1) = true := szOk_of (by omega)
    have hq : seqOf (actsE acts) = .ok (acts.map Ac.enc) := rfl
    simp only [stS] at e e2
    rw [List.map_cons, List.map_cons]
    unfold zipD forD
    simp only [run_mk, List.map_cons, List.map_nil, List.length_cons, List.length_nil, List.cons_append, List.nil_append, List.replicate_succ, List.replicate_zero, Nat.reduceAdd, Nat.reduceSub, List.getElem?_cons_zero, List.getElem?_cons_succ, List.set_cons_zero, List.set_cons_succ, R.bind_ok, sCons, sNil, sIf, sRet, retL, dropL, sSet, setL, sDrop, sUnp, sPar, lNil, lCons, kF, putL, gN, gT, gAll, kC, kX, kD, kG, kS, scl, k1, k2, L.get, L.take, T.toD, aNil, aCons, kTup, kLst, bVal, bAnd, bOr, bNot, kAnd, kOr, kNot, kIf, boolOf, kCall, cNil, cV, cMv, cPass, lend, back, resL, outs, endOf, srcAt, kSGet, kSLen, kInt, SF.get, SF.put, bl, nm, if_true, if_false, Bool.false_eq_true, Bool.not_true, Bool.not_false, stS, sO, sFor, iSeq, hq, e, kApp, hz, e2, List.zipWith_cons_cons, List.map_cons, List.append_assoc]
abbrev sG : SV := (sCons (sSet 9 (kIf (bVal (k2 pEq (k2 pIx (kX 12) (kC (.int 0))) (kC (.str "go")))) (k2 pIx (kX 12) (kC (.int 1))) (kX 9)))
    sNil)
theorem sG_for {ws bs : List Str} {p nu st acD : D} {v : Str} {told : T} {late : List D} {t10 t11 : Option T} : ∀ {acts : List Ac} {m : Str} {t12 : Option T}, 
    ∃ c, forD (gN 12) sG (acts.map Ac.enc) (stS ws p st v nu bs acD told late m t10 t11 t12) = .ok (.nx, stS ws p st v nu bs acD told late (acts.foldl goF m) t10 t11 c)
  | [], m, t12 => ⟨t12, rfl⟩
  | ac :: acts, m, t12 => by
    obtain ⟨c, e⟩ := sG_for (ws := ws) (bs := bs) (p := p) (nu := nu) (st := st) (acD := acD) (v := v) (told := told) (late := late) (t10 := t10) (t11 := t11) (acts := acts) (m := goF m ac) (t12 := some (.val ac.enc))
    refine ⟨c, ?_⟩
    have key : (gN 12 ac.enc (stS ws p st v nu bs acD told late m t10 t11 t12)).bind sG = .ok (.nx, stS ws p st v nu bs acD told late (goF m ac) t10 t11 (some (.val ac.enc))) := by
      cases ac with
      | tell y =>
        have a0 : pIx (Ac.tell y).enc (.int 0) = .ok (.d (.str "tell")) := ix0
        simp only [run_mk, List.map_cons, List.map_nil, List.length_cons, List.length_nil, List.cons_append, List.nil_append, List.replicate_succ, List.replicate_zero, Nat.reduceAdd, Nat.reduceSub, List.getElem?_cons_zero, List.getElem?_cons_succ, List.set_cons_zero, List.set_cons_succ, R.bind_ok, sCons, sNil, sIf, sRet, retL, dropL, sSet, setL, sDrop, sUnp, sPar, lNil, lCons, kF, putL, gN, gT, gAll, kC, kX, kD, kG, kS, scl, k1, k2, L.get, L.take, T.toD, aNil, aCons, kTup, kLst, bVal, bAnd, bOr, bNot, kAnd, kOr, kNot, kIf, boolOf, kCall, cNil, cV, cMv, cPass, lend, back, resL, outs, endOf, srcAt, kSGet, kSLen, kInt, SF.get, SF.put, bl, nm, if_true, if_false, Bool.false_eq_true, Bool.not_true, Bool.not_false, sG, stS, a0, q_tell_go, goF]
      | put y c =>
        have a0 : pIx (Ac.put y c).enc (.int 0) = .ok (.d (.str "put")) := ix0
        simp only [run_mk, List.map_cons, List.map_nil, List.length_cons, List.length_nil, List.cons_append, List.nil_append, List.replicate_succ, List.replicate_zero, Nat.reduceAdd, Nat.reduceSub, List.getElem?_cons_zero, List.getElem?_cons_succ, List.set_cons_zero, List.set_cons_succ, R.bind_ok, sCons, sNil, sIf, sRet, retL, dropL, sSet, setL, sDrop, sUnp, sPar, lNil, lCons, kF, putL, gN, gT, gAll, kC, kX, kD, kG, kS, scl, k1, k2, L.get, L.take, T.toD, aNil, aCons, kTup, kLst, bVal, bAnd, bOr, bNot, kAnd, kOr, kNot, kIf, boolOf, kCall, cNil, cV, cMv, cPass, lend, back, resL, outs, endOf, srcAt, kSGet, kSLen, kInt, SF.get, SF.put, bl, nm, if_true, if_false, Bool.false_eq_true, Bool.not_true, Bool.not_false, sG, stS, a0, q_put_go, goF]
      | drop c =>
        have a0 : pIx (Ac.drop c).enc (.int 0) = .ok (.d (.str "drop")) := ix0
        simp only [run_mk, List.map_cons, List.map_nil, List.length_cons, List.length_nil, List.cons_append, List.nil_append, List.replicate_succ, List.replicate_zero, Nat.reduceAdd, Nat.reduceSub, List.getElem?_cons_zero, List.getElem?_cons_succ, List.set_cons_zero, List.set_cons_succ, R.bind_ok, sCons, sNil, sIf, sRet, retL, dropL, sSet, setL, sDrop, sUnp, sPar, lNil, lCons, kF, putL, gN, gT, gAll, kC, kX, kD, kG, kS, scl, k1, k2, L.get, L.take, T.toD, aNil, aCons, kTup, kLst, bVal, bAnd, bOr, bNot, kAnd, kOr, kNot, kIf, boolOf, kCall, cNil, cV, cMv, cPass, lend, back, resL, outs, endOf, srcAt, kSGet, kSLen, kInt, SF.get, SF.put, bl, nm, if_true, if_false, Bool.false_eq_true, Bool.not_true, Bool.not_false, sG, stS, a0, q_drop_go, goF]
      | go y =>
        have a0 : pIx (Ac.go y).enc (.int 0) = .ok (.d (.str "go")) := ix0
        have a1 : pIx (Ac.go y).enc (.int 1) = .ok (.d (.str y)) := ix1
        simp only [run_mk, List.map_cons, List.map_nil, List.length_cons, List.length_nil, List.cons_append, List.nil_append, List.replicate_succ, List.replicate_zero, Nat.reduceAdd, Nat.reduceSub, List.getElem?_cons_zero, List.getElem?_cons_succ, List.set_cons_zero, List.set_cons_succ, R.bind_ok, sCons, sNil, sIf, sRet, retL, dropL, sSet, setL, sDrop, sUnp, sPar, lNil, lCons, kF, putL, gN, gT, gAll, kC, kX, kD, kG, kS, scl, k1, k2, L.get, L.take, T.toD, aNil, aCons, kTup, kLst, bVal, bAnd, bOr, bNot, kAnd, kOr, kNot, kIf, boolOf, kCall, cNil, cV, cMv, cPass, lend, back, resL, outs, endOf, srcAt, kSGet, kSLen, kInt, SF.get, SF.put, bl, nm, if_true, if_false, Bool.false_eq_true, Bool.not_true, Bool.not_false, sG, stS, a0, a1, q_go_go, goF]
    obtain ⟨s1, k1, k2⟩ := R.bind_eq_ok.mp key
    rw [List.map_cons]
    unfold forD
    rw [k1, R.bind_ok, k2, R.bind_ok]
    exact e
def tlF (bs : List Str) (vs : List (Option Str)) (v : Str) (acts : List Ac) : List (Option Str) := (acts.filter isTl).map (wOf bs vs v)
theorem lstep_ok {ws : List Str} {p : Pg} {m v : Str} {vs : List (Option Str)} {md : Md} (wp : WPA p) (low : ∀ x ∈ p.modes, ∀ r ∈ x.rules, r.1.hgt < 4) (nd : p.boxes.Nodup) (w : WV p.boxes vs) (hw : ∀ x ∈ ws, Sk x) (hv : Sk v) (hm : Sk m) (hf : p.modes.find? (fun x => decide (x.name = m)) = some md) :
    D_u_law_step.run [.val (strsE ws), .val p.enc, .val (stE (m, vs)), .val (.str v)] = .ok (.val (ansE (stepM ws p (m, vs) v)), []) := by
  have hd := lfirst_ok wp.toWP low nd w hw hv hm hf
  have hmd : md ∈ p.modes := List.mem_of_find?_eq_some hf
  have ixb : pIx p.enc (.int 2) = .ok (.d (strsE p.boxes)) := ix2
  have ixm : pIx p.enc (.int 3) = .ok (.d (.tuple (p.modes.map Md.enc))) := ix3
  have is0 : pIx (stE (m, vs)) (.int 0) = .ok (.d (.str m)) := ix0
  have is1 : pIx (stE (m, vs)) (.int 1) = .ok (.d (valsE vs)) := ix1
  rcases firstIx_find (h := holds ws p.boxes vs v) (rs := md.rules) with ⟨h1, h2⟩ | ⟨j, r, h1, h2, h3⟩
  · rw [h1] at hd
    simp only [natO] at hd
    simp only [run_mk, List.map_cons, List.map_nil, List.length_cons, List.length_nil, List.cons_append, List.nil_append, List.replicate_succ, List.replicate_zero, Nat.reduceAdd, Nat.reduceSub, List.getElem?_cons_zero, List.getElem?_cons_succ, List.set_cons_zero, List.set_cons_succ, R.bind_ok, sCons, sNil, sIf, sRet, retL, dropL, sSet, setL, sDrop, sUnp, sPar, lNil, lCons, kF, putL, gN, gT, gAll, kC, kX, kD, kG, kS, scl, k1, k2, L.get, L.take, T.toD, aNil, aCons, kTup, kLst, bVal, bAnd, bOr, bNot, kAnd, kOr, kNot, kIf, boolOf, kCall, cNil, cV, cMv, cPass, lend, back, resL, outs, endOf, srcAt, kSGet, kSLen, kInt, SF.get, SF.put, bl, nm, if_true, if_false, Bool.false_eq_true, Bool.not_true, Bool.not_false, D_u_law_step, hd, ixb, szOk2, szOk0, pIsN, isNone, stepM, hf, h2, ansE]
    rfl
  · rw [h1] at hd
    simp only [natO] at hd
    have hrm : r ∈ md.rules := List.mem_of_getElem? h2
    obtain ⟨wl, wacts⟩ := wp.acts md hmd r hrm
    have ixr := ix_rule h2
    have ixa : pIx (ruleE r) (.int 1) = .ok (.d (actsE r.2)) := ix1
    have hsm : stepM ws p (m, vs) v = ((tlF p.boxes vs v r.2).filterMap id, (r.2.foldl goF m, List.zipWith (fun b w => r.2.foldl (latF p.boxes vs v b) w) p.boxes vs)) := by
      have ff := fold_zip (bs := p.boxes) (vs := vs) (v := v) nd (acts := r.2) (a := ([], vs, m)) w.len
      simp only [List.nil_append] at ff
      simp only [stepM, hf, h3, ff]
      rfl
    rw [hsm]
    have hc := comp_map (g := gT [gN 9, gN 14, gN 15]) (c := some (bVal (k2 pEq (kX 9) (k2 pIx (kX 2) (kC (.int 0)))))) (f := kX 15) (own := [9, 14, 15]) (s := [some (.val (strsE ws)), some (.val p.enc), some (.val (stE (m, vs))), some (.val (.str v)), some (.val (.int (j : Nat))), some (.val (strsE p.boxes)), none, none, none, none, none, none, none, none, none, none]) Md.enc
      (fun x => [some (.val (strsE ws)), some (.val p.enc), some (.val (stE (m, vs))), some (.val (.str v)), some (.val (.int (j : Nat))), some (.val (strsE p.boxes)), none, none, none, some (.val (.str x.name)), none, none, none, none, some (.val (.bool x.yes)), some (.val (rulesE x))]) (fun x => decide (x.name = m)) rulesE rfl (xs := p.modes) (fun x hx => by
        refine ⟨rfl, rfl, ?_, fun _ => ?_⟩
        · simp only [run_mk, List.map_cons, List.map_nil, List.length_cons, List.length_nil, List.cons_append, List.nil_append, List.replicate_succ, List.replicate_zero, Nat.reduceAdd, Nat.reduceSub, List.getElem?_cons_zero, List.getElem?_cons_succ, List.set_cons_zero, List.set_cons_succ, R.bind_ok, sCons, sNil, sIf, sRet, retL, dropL, sSet, setL, sDrop, sUnp, sPar, lNil, lCons, kF, putL, gN, gT, gAll, kC, kX, kD, kG, kS, scl, k1, k2, L.get, L.take, T.toD, aNil, aCons, kTup, kLst, bVal, bAnd, bOr, bNot, kAnd, kOr, kNot, kIf, boolOf, kCall, cNil, cV, cMv, cPass, lend, back, resL, outs, endOf, srcAt, kSGet, kSLen, kInt, SF.get, SF.put, bl, nm, if_true, if_false, Bool.false_eq_true, Bool.not_true, Bool.not_false, bOf, is0, pEq_sk (wp.mok x hx) hm]
        · simp only [run_mk, List.map_cons, List.map_nil, List.length_cons, List.length_nil, List.cons_append, List.nil_append, List.replicate_succ, List.replicate_zero, Nat.reduceAdd, Nat.reduceSub, List.getElem?_cons_zero, List.getElem?_cons_succ, List.set_cons_zero, List.set_cons_succ, R.bind_ok, sCons, sNil, sIf, sRet, retL, dropL, sSet, setL, sDrop, sUnp, sPar, lNil, lCons, kF, putL, gN, gT, gAll, kC, kX, kD, kG, kS, scl, k1, k2, L.get, L.take, T.toD, aNil, aCons, kTup, kLst, bVal, bAnd, bOr, bNot, kAnd, kOr, kNot, kIf, boolOf, kCall, cNil, cV, cMv, cPass, lend, back, resL, outs, endOf, srcAt, kSGet, kSLen, kInt, SF.get, SF.put, bl, nm, if_true, if_false, Bool.false_eq_true, Bool.not_true, Bool.not_false])
    have hz : szOk ((p.modes.filter fun x => decide (x.name = m)).map rulesE).length = true := szOk_of (by
      rw [List.length_map]
      exact Nat.le_trans (List.length_filter_le _ _) (by have := wp.few; omega))
    obtain ⟨rr, hr⟩ := heads hf
    rw [hr, List.map_cons] at hc hz
    rw [List.length_cons] at hz
    have hc2 := comp_map (g := gN 12) (c := some (bVal (k2 pEq (k2 pIx (kX 12) (kC (.int 0))) (kC (.str "tell"))))) (f := kCall (D_u_law_worth).run (cV (kX 5) (cV (k2 pIx (kX 2) (kC (.int 1))) (cV (k2 pIx (kX 12) (kC (.int 1))) (cV (kX 3) cNil))))) (own := [12]) (s := [some (.val (strsE ws)), some (.val p.enc), some (.val (stE (m, vs))), some (.val (.str v)), some (.val (.int (j : Nat))), some (.val (strsE p.boxes)), some (.val (actsE r.2)), none, none, none, none, none, none, none, none, none]) Ac.enc
      (fun x => [some (.val (strsE ws)), some (.val p.enc), some (.val (stE (m, vs))), some (.val (.str v)), some (.val (.int (j : Nat))), some (.val (strsE p.boxes)), some (.val (actsE r.2)), none, none, none, none, none, some (.val x.enc), none, none, none]) isTl (fun x => optE (wOf p.boxes vs v x)) rfl (xs := r.2) (fun x hx => by
        have wa := wacts x hx
        refine ⟨rfl, rfl, ?_, fun ht => ?_⟩
        · cases x with
          | tell y =>
            have a0 : pIx (Ac.tell y).enc (.int 0) = .ok (.d (.str "tell")) := ix0
            simp only [run_mk, List.map_cons, List.map_nil, List.length_cons, List.length_nil, List.cons_append, List.nil_append, List.replicate_succ, List.replicate_zero, Nat.reduceAdd, Nat.reduceSub, List.getElem?_cons_zero, List.getElem?_cons_succ, List.set_cons_zero, List.set_cons_succ, R.bind_ok, sCons, sNil, sIf, sRet, retL, dropL, sSet, setL, sDrop, sUnp, sPar, lNil, lCons, kF, putL, gN, gT, gAll, kC, kX, kD, kG, kS, scl, k1, k2, L.get, L.take, T.toD, aNil, aCons, kTup, kLst, bVal, bAnd, bOr, bNot, kAnd, kOr, kNot, kIf, boolOf, kCall, cNil, cV, cMv, cPass, lend, back, resL, outs, endOf, srcAt, kSGet, kSLen, kInt, SF.get, SF.put, bl, nm, if_true, if_false, Bool.false_eq_true, Bool.not_true, Bool.not_false, bOf, a0, q_tell_tell, isTl]
          | put y c =>
            have a0 : pIx (Ac.put y c).enc (.int 0) = .ok (.d (.str "put")) := ix0
            simp only [run_mk, List.map_cons, List.map_nil, List.length_cons, List.length_nil, List.cons_append, List.nil_append, List.replicate_succ, List.replicate_zero, Nat.reduceAdd, Nat.reduceSub, List.getElem?_cons_zero, List.getElem?_cons_succ, List.set_cons_zero, List.set_cons_succ, R.bind_ok, sCons, sNil, sIf, sRet, retL, dropL, sSet, setL, sDrop, sUnp, sPar, lNil, lCons, kF, putL, gN, gT, gAll, kC, kX, kD, kG, kS, scl, k1, k2, L.get, L.take, T.toD, aNil, aCons, kTup, kLst, bVal, bAnd, bOr, bNot, kAnd, kOr, kNot, kIf, boolOf, kCall, cNil, cV, cMv, cPass, lend, back, resL, outs, endOf, srcAt, kSGet, kSLen, kInt, SF.get, SF.put, bl, nm, if_true, if_false, Bool.false_eq_true, Bool.not_true, Bool.not_false, bOf, a0, q_put_tell, isTl]
          | drop c =>
            have a0 : pIx (Ac.drop c).enc (.int 0) = .ok (.d (.str "drop")) := ix0
            simp only [run_mk, List.map_cons, List.map_nil, List.length_cons, List.length_nil, List.cons_append, List.nil_append, List.replicate_succ, List.replicate_zero, Nat.reduceAdd, Nat.reduceSub, List.getElem?_cons_zero, List.getElem?_cons_succ, List.set_cons_zero, List.set_cons_succ, R.bind_ok, sCons, sNil, sIf, sRet, retL, dropL, sSet, setL, sDrop, sUnp, sPar, lNil, lCons, kF, putL, gN, gT, gAll, kC, kX, kD, kG, kS, scl, k1, k2, L.get, L.take, T.toD, aNil, aCons, kTup, kLst, bVal, bAnd, bOr, bNot, kAnd, kOr, kNot, kIf, boolOf, kCall, cNil, cV, cMv, cPass, lend, back, resL, outs, endOf, srcAt, kSGet, kSLen, kInt, SF.get, SF.put, bl, nm, if_true, if_false, Bool.false_eq_true, Bool.not_true, Bool.not_false, bOf, a0, q_drop_tell, isTl]
          | go y =>
            have a0 : pIx (Ac.go y).enc (.int 0) = .ok (.d (.str "go")) := ix0
            simp only [run_mk, List.map_cons, List.map_nil, List.length_cons, List.length_nil, List.cons_append, List.nil_append, List.replicate_succ, List.replicate_zero, Nat.reduceAdd, Nat.reduceSub, List.getElem?_cons_zero, List.getElem?_cons_succ, List.set_cons_zero, List.set_cons_succ, R.bind_ok, sCons, sNil, sIf, sRet, retL, dropL, sSet, setL, sDrop, sUnp, sPar, lNil, lCons, kF, putL, gN, gT, gAll, kC, kX, kD, kG, kS, scl, k1, k2, L.get, L.take, T.toD, aNil, aCons, kTup, kLst, bVal, bAnd, bOr, bNot, kAnd, kOr, kNot, kIf, boolOf, kCall, cNil, cV, cMv, cPass, lend, back, resL, outs, endOf, srcAt, kSGet, kSLen, kInt, SF.get, SF.put, bl, nm, if_true, if_false, Bool.false_eq_true, Bool.not_true, Bool.not_false, bOf, a0, q_go_tell, isTl]
        · cases x with
          | tell y =>
            have a1 : pIx (Ac.tell y).enc (.int 1) = .ok (.d y.enc) := ix1
            have ew := lworth_ok (v := v) w nd wa
            simp only [run_mk, List.map_cons, List.map_nil, List.length_cons, List.length_nil, List.cons_append, List.nil_append, List.replicate_succ, List.replicate_zero, Nat.reduceAdd, Nat.reduceSub, List.getElem?_cons_zero, List.getElem?_cons_succ, List.set_cons_zero, List.set_cons_succ, R.bind_ok, sCons, sNil, sIf, sRet, retL, dropL, sSet, setL, sDrop, sUnp, sPar, lNil, lCons, kF, putL, gN, gT, gAll, kC, kX, kD, kG, kS, scl, k1, k2, L.get, L.take, T.toD, aNil, aCons, kTup, kLst, bVal, bAnd, bOr, bNot, kAnd, kOr, kNot, kIf, boolOf, kCall, cNil, cV, cMv, cPass, lend, back, resL, outs, endOf, srcAt, kSGet, kSLen, kInt, SF.get, SF.put, bl, nm, if_true, if_false, Bool.false_eq_true, Bool.not_true, Bool.not_false, is1, a1, ew, wOf]
          | put y c => cases ht
          | drop c => cases ht
          | go y => cases ht)
    have hmm : (r.2.filter isTl).map (fun x => optE (wOf p.boxes vs v x)) = (tlF p.boxes vs v r.2).map optE := by unfold tlF; rw [List.map_map]; rfl
    rw [hmm] at hc2
    have htl : (tlF p.boxes vs v r.2).length ≤ 1000 := by
      unfold tlF
      rw [List.length_map]
      exact Nat.le_trans (List.length_filter_le _ _) wl
    have hz2 : szOk ((tlF p.boxes vs v r.2).map optE).length = true := szOk_of (by rw [List.length_map]; omega)
    have hfb := wp.fewB
    obtain ⟨a1, b1, c1, e6⟩ := sO_for (ws := ws) (p := p.enc) (nu := .int (j : Nat)) (v := v) (m := m) (m0 := m) (told := .lst ((tlF p.boxes vs v r.2).map optE)) w nd wacts (bt := p.boxes) (vt := vs) (late := []) (t10 := none) (t11 := none) (t12 := none) w.bok w.len (by rw [List.length_nil]; omega)
    obtain ⟨c2, e7⟩ := sG_for (ws := ws) (bs := p.boxes) (p := p.enc) (nu := .int (j : Nat)) (st := stE (m, vs)) (acD := actsE r.2) (v := v) (told := .lst ((tlF p.boxes vs v r.2).map optE)) (late := (List.zipWith (fun b w => r.2.foldl (latF p.boxes vs v b) w) p.boxes vs).map optE) (t10 := a1) (t11 := b1) (acts := r.2) (m := m) (t12 := c1)
    have hc3 := comp_map (g := gN 13) (c := some (bVal (k1 pNotN (kX 13)))) (f := kX 13) (own := [13]) (s := stS ws p.enc (stE (m, vs)) v (.int (j : Nat)) p.boxes (actsE r.2) (.val (.list ((tlF p.boxes vs v r.2).map optE))) ((List.zipWith (fun b w => r.2.foldl (latF p.boxes vs v b) w) p.boxes vs).map optE) (r.2.foldl goF m) a1 b1 c2) optE
      (fun o => (stS ws p.enc (stE (m, vs)) v (.int (j : Nat)) p.boxes (actsE r.2) (.val (.list ((tlF p.boxes vs v r.2).map optE))) ((List.zipWith (fun b w => r.2.foldl (latF p.boxes vs v b) w) p.boxes vs).map optE) (r.2.foldl goF m) a1 b1 c2).set 13 (some (.val (optE o)))) (·.isSome) optE rfl (xs := tlF p.boxes vs v r.2)
      (fun o _ => ⟨rfl, rfl, by cases o <;> rfl, fun _ => rfl⟩)
    rw [some_strs] at hc3
    have hz3 : szOk (((tlF p.boxes vs v r.2).filterMap id).map PyData.str).length = true := szOk_of (by rw [List.length_map]; exact Nat.le_trans (List.length_filterMap_le ..) (by omega))
    have hq : seqOf (actsE r.2) = .ok (r.2.map Ac.enc) := rfl
    have hzip : ∀ s : Sl, s[5]? = some (some (.val (strsE p.boxes))) → s[2]? = some (some (.val (stE (m, vs)))) → iZip (kX 5) (k2 pIx (kX 2) (kC (.int 1))) s = .ok (zipD (p.boxes.map PyData.str) (vs.map optE), s) := fun s x5 x2 => by
      have is1' : pIx (stE (m, vs)) (.int 1) = .ok (.d (.tuple (vs.map optE))) := ix1
      have x5' : s[5]? = some (some (.val (.tuple (p.boxes.map PyData.str)))) := x5
      simp only [iZip, kD, kX, k2, kC, x5', x2, R.bind_ok, L.take, L.get, is1']
    simp only [List.nil_append, stS, sO, sI] at e6
    simp only [stS, sG] at e7
    simp only [stS] at hc3
    simp only [run_mk, List.map_cons, List.map_nil, List.length_cons, List.length_nil, List.cons_append, List.nil_append, List.replicate_succ, List.replicate_zero, Nat.reduceAdd, Nat.reduceSub, List.getElem?_cons_zero, List.getElem?_cons_succ, List.set_cons_zero, List.set_cons_succ, R.bind_ok, sCons, sNil, sIf, sRet, retL, dropL, sSet, setL, sDrop, sUnp, sPar, lNil, lCons, kF, putL, gN, gT, gAll, kC, kX, kD, kG, kS, scl, k1, k2, L.get, L.take, T.toD, aNil, aCons, kTup, kLst, bVal, bAnd, bOr, bNot, kAnd, kOr, kNot, kIf, boolOf, kCall, cNil, cV, cMv, cPass, lend, back, resL, outs, endOf, srcAt, kSGet, kSLen, kInt, SF.get, SF.put, bl, nm, if_true, if_false, Bool.false_eq_true, Bool.not_true, Bool.not_false, D_u_law_step, hd, ixb, pIsN, isNone, kComp, iSeq, seq_t, seq_l, ixm, hc, hz, ixl0, ixr, ixa, hq, hc2, hz2, szOk0, szOk2, is0, sFor, hzip, e6, e7, hc3, hz3, pTuple]
    rfl
end K07

set_option Elab.async false
set_option linter.all false
set_option maxRecDepth 100000
set_option maxHeartbeats 4000000
set_option pp.maxSteps 600
namespace K07
open PySem KV
def stepsM (ws : List Str) (p : Pg) : St → List Str → List (List Str) × St
  | s, [] => ([], s)
  | s, v :: vs => ((stepM ws p s v).1 :: (stepsM ws p (stepM ws p s v).2 vs).1, (stepsM ws p (stepM ws p s v).2 vs).2)
theorem lots_singles {ws : List Str} {p : Pg} : ∀ {row : List Str} {s : St}, lotsM ws p s (row.map fun v => [v]) = stepsM ws p s row
  | [], s => rfl
  | v :: row, s => by
    have ih := lots_singles (ws := ws) (p := p) (row := row) (s := (stepM ws p s v).2)
    rw [List.map_cons]
    simp only [lotsM, lotM, stepsM, List.append_nil, ih]
theorem lot_steps {ws : List Str} {p : Pg} : ∀ {row : List Str} {s : St}, lotM ws p s row = ((stepsM ws p s row).1.flatten, (stepsM ws p s row).2)
  | [], s => rfl
  | v :: row, s => by simp only [lotM, stepsM, lot_steps (row := row), List.flatten_cons]
theorem steps_len {ws : List Str} {p : Pg} : ∀ {row : List Str} {s : St}, (stepsM ws p s row).1.length = row.length
  | [], s => rfl
  | v :: row, s => by simp only [stepsM, List.length_cons, steps_len (row := row)]
theorem steps_app {ws : List Str} {p : Pg} : ∀ {a b : List Str} {s : St}, stepsM ws p s (a ++ b) = ((stepsM ws p s a).1 ++ (stepsM ws p (stepsM ws p s a).2 b).1, (stepsM ws p (stepsM ws p s a).2 b).2)
  | [], b, s => rfl
  | v :: a, b, s => by simp only [List.cons_append, stepsM, steps_app (a := a)]
theorem steps_pres {ws : List Str} {p : Pg} (wp : WPG p) : ∀ {row : List Str} {s : St}, WS p s → (∀ v ∈ row, Sk v) → WS p (stepsM ws p s row).2 ∧ ∀ l ∈ (stepsM ws p s row).1, (∀ x ∈ l, Sk x) ∧ l.length ≤ 3
  | [], s, h, _ => ⟨h, fun l hl => nomatch hl⟩
  | v :: row, s, h, hv => by
    obtain ⟨k1, k2, k3⟩ := step_pres (ws := ws) wp h (hv v (List.mem_cons_self ..))
    obtain ⟨j1, j2⟩ := steps_pres (ws := ws) wp (row := row) k1 (fun x hx => hv x (List.mem_cons_of_mem _ hx))
    refine ⟨j1, fun l hl => ?_⟩
    rcases List.mem_cons.mp hl with z | z
    · subst z; exact ⟨k2, k3⟩
    · exact j2 l z
theorem lots_cut {ws : List Str} {p : Pg} {row : List Str} {s : St} {k : Nat} : lotsM ws p s [row.take k, [], row.drop k] = ([((stepsM ws p s row).1.take k).flatten, [], ((stepsM ws p s row).1.drop k).flatten], (stepsM ws p s row).2) := by
  have e := steps_app (ws := ws) (p := p) (a := row.take k) (b := row.drop k) (s := s)
  rw [List.take_append_drop] at e
  have hl := steps_len (ws := ws) (p := p) (row := row.take k) (s := s)
  rw [e]
  simp only [lotsM, lot_steps, stepsM, List.flatten_nil]
  by_cases hk : k ≤ row.length
  · have hk2 : (stepsM ws p s (row.take k)).1.length = k := by rw [hl, List.length_take]; omega
    rw [List.take_left' hk2, List.drop_left' hk2]
  · have h1 : row.drop k = [] := List.drop_eq_nil_of_le (by omega)
    have h2 : (stepsM ws p s (row.take k)).1.length ≤ k := by rw [hl, List.length_take]; omega
    rw [h1]
    simp only [stepsM, List.append_nil]
    generalize stepsM ws p s (row.take k) = A at h2
    rw [List.take_of_length_le h2, List.drop_eq_nil_of_le h2]
/-! ### the first stand -/
structure FF (p : Pg) (mT m0 : D) : Prop where
  f3 : pIx p.enc (.int 3) = .ok (.d mT)
  f30 : pIx mT (.int 0) = .ok (.d m0)
  f300 : pIx m0 (.int 0) = .ok (.d (.str (firstM p).1))
  f2 : pIx p.enc (.int 2) = .ok (.d (strsE p.boxes))
  ln : pLen (strsE p.boxes) = .ok (.d (.int (p.boxes.length : Nat)))
  ml : pMul (.tuple [.none]) (.int (p.boxes.length : Nat)) = .ok (.d (valsE (firstM p).2))
theorem ff {p : Pg} (wp : WPG p) : ∃ m0, FF p (.tuple (p.modes.map Md.enc)) m0 := by
  cases hm : p.modes with
  | nil => exact (wp.ne hm).elim
  | cons md r =>
    have h1 : (0 : Int) ≤ ((p.boxes.length : Nat) : Int) ∧ ((p.boxes.length : Nat) : Int) ≤ 1000 ∧ [PyData.none].length ≤ 1000 := ⟨Int.natCast_nonneg _, by have := wp.fewB; omega, by decide⟩
    refine ⟨md.enc, ?_, ix0, ?_, ix2, ?_, ?_⟩
    · rw [← hm]; exact ix3
    · have : (firstM p).1 = md.name := by unfold firstM; rw [hm]; rfl
      rw [this]
      exact ix0
    · show nm _ = _
      rw [List.length_map]
      rfl
    · unfold pMul
      simp only [h1, and_self, if_true, Int.toNat_natCast, rep_none]
      rfl
theorem stE_eq {s : St} : stE s = .tuple [.str s.1, valsE s.2] := rfl
/-! ### the law's run -/
def lrS (ws : List Str) (p row st : D) (found : List D) (v a : Option T) : Sl := [some (.val (strsE ws)), some (.val p), some (.val row), some (.val st), some (.lst found), v, a, none, none, none]
abbrev lrI : SV := (sCons (sUnp (gT [(gN 6), (gN 3)]) (kCall (D_u_law_step).run (cV (kX 0) (cV (kX 1) (cV (kX 3) (cV (kX 5) cNil))))))
    (sCons (sDrop (kApp 4 (kX 6)))
    sNil))
structure WQ (p : Pg) : Prop extends WPG p where
  low : ∀ x ∈ p.modes, ∀ r ∈ x.rules, r.1.hgt < 4
  nd : p.boxes.Nodup
theorem lr_for {ws : List Str} {p : Pg} {row : D} (wp : WQ p) (hw : ∀ x ∈ ws, Sk x) : ∀ {l : List Str} {s : St} {found : List D} {v a : Option T}, WS p s → (∀ x ∈ l, Sk x) → found.length + l.length ≤ 100000 →
    ∃ v' a', forD (gN 5) lrI (l.map PyData.str) (lrS ws p.enc row (stE s) found v a) = .ok (.nx, lrS ws p.enc row (stE (stepsM ws p s l).2) (found ++ (stepsM ws p s l).1.map strsE) v' a')
  | [], s, found, v, a, _, _, _ => ⟨v, a, by simp [forD, stepsM]⟩
  | x :: l, s, found, v, a, h, hl, hn => by
    have hx := hl x (List.mem_cons_self ..)
    obtain ⟨md, hf⟩ := h.md
    have e0 : D_u_law_step.run [.val (strsE ws), .val p.enc, .val (stE s), .val (.str x)] = .ok (.val (ansE (stepM ws p s x)), []) := lstep_ok (ws := ws) wp.toWPA wp.low wp.nd h.w hw hx h.k hf
    obtain ⟨k1, k2, k3⟩ := step_pres (ws := ws) wp.toWPG h hx
    simp only [List.length_cons] at hn
    obtain ⟨v', a', e2⟩ := lr_for wp hw (row := row) (l := l) (s := (stepM ws p s x).2) (found := found ++ [strsE (stepM ws p s x).1]) (v := some (.val (.str x))) (a := some (.val (strsE (stepM ws p s x).1))) k1 (fun y hy => hl y (List.mem_cons_of_mem _ hy)) (by rw [List.length_append, List.length_singleton]; omega)
    refine ⟨v', a', ?_⟩
    have hz : szOk (found.length + 1) = true := szOk_of (by omega)
    simp only [lrS, lrI] at e2
    rw [List.map_cons]
    unfold forD
    simp only [run_mk, List.map_cons, List.map_nil, List.length_cons, List.length_nil, List.cons_append, List.nil_append, List.replicate_succ, List.replicate_zero, Nat.reduceAdd, Nat.reduceSub, List.getElem?_cons_zero, List.getElem?_cons_succ, List.set_cons_zero, List.set_cons_succ, R.bind_ok, sCons, sNil, sIf, sRet, retL, dropL, sSet, setL, sDrop, sUnp, sPar, lNil, lCons, kF, putL, gN, gT, gAll, kC, kX, kD, kG, kS, scl, k1, k2, L.get, L.take, T.toD, aNil, aCons, kTup, kLst, bVal, bAnd, bOr, bNot, kAnd, kOr, kNot, kIf, boolOf, kCall, cNil, cV, cMv, cPass, lend, back, resL, outs, endOf, srcAt, kSGet, kSLen, kInt, SF.get, SF.put, bl, nm, if_true, if_false, Bool.false_eq_true, Bool.not_true, Bool.not_false, lrS, lrI, e0, ansE, kApp, hz, e2, stepsM, List.append_assoc, List.map_cons]
theorem lrun_ok {ws row : List Str} {p : Pg} (wp : WQ p) (hw : ∀ x ∈ ws, Sk x) (hr : ∀ x ∈ row, Sk x) (hm : row.length ≤ 1000) :
    ∃ md, p.modes.find? (fun x => decide (x.name = (stepsM ws p (firstM p) row).2.1)) = some md ∧ D_u_law_run.run [.val (strsE ws), .val p.enc, .val (strsE row)] = .ok (.val (.tuple [lotsE (stepsM ws p (firstM p) row).1, .bool md.yes, stE (stepsM ws p (firstM p) row).2]), []) := by
  have h0 := first_ws wp.toWPG
  obtain ⟨w1, w2⟩ := steps_pres (ws := ws) wp.toWPG h0 hr
  obtain ⟨md, hf⟩ := w1.md
  refine ⟨md, hf, ?_⟩
  obtain ⟨m0, F⟩ := ff wp.toWPG
  obtain ⟨v', a', e⟩ := lr_for (ws := ws) (row := strsE row) wp hw (found := []) (v := none) (a := none) h0 hr (by simp; omega)
  generalize hS : stepsM ws p (firstM p) row = S at e w1 w2 hf
  have hlen : S.1.length ≤ 1000 := by rw [← hS, steps_len]; exact hm
  have is0 : pIx (stE S.2) (.int 0) = .ok (.d (.str S.2.1)) := ix0
  have hc := comp_map (g := gT [gN 7, gN 8, gN 9]) (c := some (bVal (k2 pEq (kX 7) (k2 pIx (kX 3) (kC (.int 0)))))) (f := kX 8) (own := [7, 8, 9]) (s := lrS ws p.enc (strsE row) (stE S.2) (S.1.map strsE) v' a') Md.enc
    (fun x => [some (.val (strsE ws)), some (.val p.enc), some (.val (strsE row)), some (.val (stE S.2)), some (.lst (S.1.map strsE)), v', a', some (.val (.str x.name)), some (.val (.bool x.yes)), some (.val (rulesE x))]) (fun x => decide (x.name = S.2.1)) (fun x => PyData.bool x.yes) rfl (xs := p.modes) (fun x hx => by
      refine ⟨rfl, rfl, ?_, fun _ => ?_⟩
      · simp only [run_mk, List.map_cons, List.map_nil, List.length_cons, List.length_nil, List.cons_append, List.nil_append, List.replicate_succ, List.replicate_zero, Nat.reduceAdd, Nat.reduceSub, List.getElem?_cons_zero, List.getElem?_cons_succ, List.set_cons_zero, List.set_cons_succ, R.bind_ok, sCons, sNil, sIf, sRet, retL, dropL, sSet, setL, sDrop, sUnp, sPar, lNil, lCons, kF, putL, gN, gT, gAll, kC, kX, kD, kG, kS, scl, k1, k2, L.get, L.take, T.toD, aNil, aCons, kTup, kLst, bVal, bAnd, bOr, bNot, kAnd, kOr, kNot, kIf, boolOf, kCall, cNil, cV, cMv, cPass, lend, back, resL, outs, endOf, srcAt, kSGet, kSLen, kInt, SF.get, SF.put, bl, nm, if_true, if_false, Bool.false_eq_true, Bool.not_true, Bool.not_false, bOf, is0, pEq_sk (wp.mok x hx) w1.k]
      · simp only [run_mk, List.map_cons, List.map_nil, List.length_cons, List.length_nil, List.cons_append, List.nil_append, List.replicate_succ, List.replicate_zero, Nat.reduceAdd, Nat.reduceSub, List.getElem?_cons_zero, List.getElem?_cons_succ, List.set_cons_zero, List.set_cons_succ, R.bind_ok, sCons, sNil, sIf, sRet, retL, dropL, sSet, setL, sDrop, sUnp, sPar, lNil, lCons, kF, putL, gN, gT, gAll, kC, kX, kD, kG, kS, scl, k1, k2, L.get, L.take, T.toD, aNil, aCons, kTup, kLst, bVal, bAnd, bOr, bNot, kAnd, kOr, kNot, kIf, boolOf, kCall, cNil, cV, cMv, cPass, lend, back, resL, outs, endOf, srcAt, kSGet, kSLen, kInt, SF.get, SF.put, bl, nm, if_true, if_false, Bool.false_eq_true, Bool.not_true, Bool.not_false])
  have hz : szOk ((p.modes.filter fun x => decide (x.name = S.2.1)).map (fun x => PyData.bool x.yes)).length = true := szOk_of (by
    rw [List.length_map]
    exact Nat.le_trans (List.length_filter_le _ _) (by have := wp.few; omega))
  obtain ⟨rr, hr2⟩ := heads hf
  rw [hr2, List.map_cons] at hc hz
  rw [List.length_cons] at hz
  have hq : seqOf (strsE row) = .ok (row.map PyData.str) := rfl
  simp only [List.nil_append, lrS, lrI, stE_eq (s := firstM p)] at e
  simp only [lrS] at hc
  simp only [run_mk, List.map_cons, List.map_nil, List.length_cons, List.length_nil, List.cons_append, List.nil_append, List.replicate_succ, List.replicate_zero, Nat.reduceAdd, Nat.reduceSub, List.getElem?_cons_zero, List.getElem?_cons_succ, List.set_cons_zero, List.set_cons_succ, R.bind_ok, sCons, sNil, sIf, sRet, retL, dropL, sSet, setL, sDrop, sUnp, sPar, lNil, lCons, kF, putL, gN, gT, gAll, kC, kX, kD, kG, kS, scl, k1, k2, L.get, L.take, T.toD, aNil, aCons, kTup, kLst, bVal, bAnd, bOr, bNot, kAnd, kOr, kNot, kIf, boolOf, kCall, cNil, cV, cMv, cPass, lend, back, resL, outs, endOf, srcAt, kSGet, kSLen, kInt, SF.get, SF.put, bl, nm, if_true, if_false, Bool.false_eq_true, Bool.not_true, Bool.not_false, D_u_law_run, F.f3, F.f30, F.f300, F.f2, F.ln, F.ml, szOk0, szOk1, szOk2, szOk3, sFor, iSeq, hq, e, pTuple, kComp, seq_t, hc, hz, ixl0]
  rfl
end K07

set_option Elab.async false
set_option linter.all false
set_option maxRecDepth 100000
set_option maxHeartbeats 4000000
set_option pp.maxSteps 600
namespace K07
open PySem KV
theorem sk_go : Sk "go" := ⟨by kernel_rfl, Nat.le_of_ble_eq_true (by kernel_rfl)⟩
theorem sk_stop : Sk "stop" := ⟨by kernel_rfl, Nat.le_of_ble_eq_true (by kernel_rfl)⟩
theorem words_ok (S : Src) (hS : Sok S) : ∃ (ws : List Str) (S' : Src), D_u_law_words.run [.src S] = .ok (.val (strsE ws), [.src S']) ∧ (∀ x ∈ ws, Sk x) ∧ ws.length ≤ 2 ∧ Sok S' := by
  obtain ⟨d, S', h1, h2, h3⟩ := of_ok S [.tuple [], .tuple [], .tuple [.str "go"], .tuple [.str "go", .str "stop"]] hS (by decide) (by decide)
  have hr : D_u_law_words.run [.src S] = .ok (.val d, [.src S']) := by
    simp only [run_mk, List.map_cons, List.map_nil, List.length_cons, List.length_nil, List.cons_append, List.nil_append, List.replicate_succ, List.replicate_zero, Nat.reduceAdd, Nat.reduceSub, List.getElem?_cons_zero, List.getElem?_cons_succ, List.set_cons_zero, List.set_cons_succ, R.bind_ok, sCons, sNil, sIf, sRet, retL, dropL, sSet, setL, sDrop, sUnp, sPar, lNil, lCons, kF, putL, gN, gT, gAll, kC, kX, kD, kG, kS, scl, k1, k2, L.get, L.take, T.toD, aNil, aCons, kTup, kLst, bVal, bAnd, bOr, bNot, kAnd, kOr, kNot, kIf, boolOf, kCall, cNil, cV, cMv, cPass, lend, back, resL, outs, endOf, srcAt, kSGet, kSLen, kInt, SF.get, SF.put, bl, nm, if_true, if_false, Bool.false_eq_true, Bool.not_true, Bool.not_false, D_u_law_words, szOk0, szOk1, szOk2, szOk4, h1]
  have hd : ∃ ws : List Str, d = strsE ws ∧ (∀ x ∈ ws, Sk x) ∧ ws.length ≤ 2 := by
    simp only [List.mem_cons, List.not_mem_nil, or_false] at h2
    rcases h2 with rfl | rfl | rfl | rfl
    · exact ⟨[], rfl, by simp, by simp⟩
    · exact ⟨[], rfl, by simp, by simp⟩
    · exact ⟨["go"], rfl, by simp [sk_go], by simp⟩
    · exact ⟨["go", "stop"], rfl, by simp [sk_go, sk_stop], by simp⟩
  obtain ⟨ws, rfl, h4, h5⟩ := hd
  exact ⟨ws, S', hr, h4, h5, h3⟩
theorem lt_boxes {a b c d : Option T} {bs : List Str} : compD (gN 5) none (kTup (aCons (kC (.str "box")) (aCons (kX 5) aNil))) [5] (bs.map PyData.str) [a, b, c, d, none, none] = .ok (bs.map (fun x => (Th.box x).enc), [a, b, c, d, none, none]) := by
  have hc := comp_map (g := gN 5) (c := none) (f := kTup (aCons (kC (.str "box")) (aCons (kX 5) aNil))) (own := [5]) (s := [a, b, c, d, none, none]) PyData.str (fun x => [a, b, c, d, none, some (.val (.str x))]) (fun _ => true) (fun x => (Th.box x).enc) rfl (xs := bs)
    (fun x hx => ⟨rfl, rfl, rfl, fun _ => by simp only [run_mk, List.map_cons, List.map_nil, List.length_cons, List.length_nil, List.cons_append, List.nil_append, List.replicate_succ, List.replicate_zero, Nat.reduceAdd, Nat.reduceSub, List.getElem?_cons_zero, List.getElem?_cons_succ, List.set_cons_zero, List.set_cons_succ, R.bind_ok, sCons, sNil, sIf, sRet, retL, dropL, sSet, setL, sDrop, sUnp, sPar, lNil, lCons, kF, putL, gN, gT, gAll, kC, kX, kD, kG, kS, scl, k1, k2, L.get, L.take, T.toD, aNil, aCons, kTup, kLst, bVal, bAnd, bOr, bNot, kAnd, kOr, kNot, kIf, boolOf, kCall, cNil, cV, cMv, cPass, lend, back, resL, outs, endOf, srcAt, kSGet, kSLen, kInt, SF.get, SF.put, bl, nm, if_true, if_false, Bool.false_eq_true, Bool.not_true, Bool.not_false, szOk2, Th.enc]⟩)
  rw [hc, List.filter_eq_self.mpr (fun _ _ => rfl)]
theorem lt_words {a b c d : Option T} {bs : List Str} : compD (gN 4) none (kTup (aCons (kC (.str "word")) (aCons (kX 4) aNil))) [4] (bs.map PyData.str) [a, b, c, d, none, none] = .ok (bs.map (fun x => (Th.word x).enc), [a, b, c, d, none, none]) := by
  have hc := comp_map (g := gN 4) (c := none) (f := kTup (aCons (kC (.str "word")) (aCons (kX 4) aNil))) (own := [4]) (s := [a, b, c, d, none, none]) PyData.str (fun x => [a, b, c, d, some (.val (.str x)), none]) (fun _ => true) (fun x => (Th.word x).enc) rfl (xs := bs)
    (fun x hx => ⟨rfl, rfl, rfl, fun _ => by simp only [run_mk, List.map_cons, List.map_nil, List.length_cons, List.length_nil, List.cons_append, List.nil_append, List.replicate_succ, List.replicate_zero, Nat.reduceAdd, Nat.reduceSub, List.getElem?_cons_zero, List.getElem?_cons_succ, List.set_cons_zero, List.set_cons_succ, R.bind_ok, sCons, sNil, sIf, sRet, retL, dropL, sSet, setL, sDrop, sUnp, sPar, lNil, lCons, kF, putL, gN, gT, gAll, kC, kX, kD, kG, kS, scl, k1, k2, L.get, L.take, T.toD, aNil, aCons, kTup, kLst, bVal, bAnd, bOr, bNot, kAnd, kOr, kNot, kIf, boolOf, kCall, cNil, cV, cMv, cPass, lend, back, resL, outs, endOf, srcAt, kSGet, kSLen, kInt, SF.get, SF.put, bl, nm, if_true, if_false, Bool.false_eq_true, Bool.not_true, Bool.not_false, szOk2, Th.enc]⟩)
  rw [hc, List.filter_eq_self.mpr (fun _ _ => rfl)]
theorem lthing_ok (S : Src) (ws bs : List Str) (hS : Sok S) (hw : ∀ x ∈ ws, Sk x) (lw : ws.length ≤ 1000) (lb : bs.length ≤ 1000) : ∃ (t : Th) (S' : Src), D_u_law_thing.run [.src S, .val (strsE ws), .val (strsE bs)] = .ok (.val t.enc, [.src S']) ∧ WT bs t ∧ Sok S' := by
  obtain ⟨d, S', h1, h2, h3⟩ := of_ok S ((Th.it.enc :: bs.map (fun x => (Th.box x).enc)) ++ ws.map (fun x => (Th.word x).enc)) hS (by simp) (by simp only [List.length_append, List.length_cons, List.length_map]; omega)
  have z1 : szOk (bs.length) = true := szOk_of (by omega)
  have z2 : szOk (ws.length) = true := szOk_of (by omega)
  have z3 : szOk (1 + bs.length) = true := szOk_of (by omega)
  have z4 : szOk (bs.length + 1 + ws.length) = true := szOk_of (by omega)
  have hr : D_u_law_thing.run [.src S, .val (strsE ws), .val (strsE bs)] = .ok (.val d, [.src S']) := by
    simp only [List.cons_append, Th.enc] at h1
    simp only [run_mk, List.map_cons, List.map_nil, List.length_cons, List.length_nil, List.cons_append, List.nil_append, List.replicate_succ, List.replicate_zero, Nat.reduceAdd, Nat.reduceSub, List.getElem?_cons_zero, List.getElem?_cons_succ, List.set_cons_zero, List.set_cons_succ, R.bind_ok, sCons, sNil, sIf, sRet, retL, dropL, sSet, setL, sDrop, sUnp, sPar, lNil, lCons, kF, putL, gN, gT, gAll, kC, kX, kD, kG, kS, scl, k1, k2, L.get, L.take, T.toD, aNil, aCons, kTup, kLst, bVal, bAnd, bOr, bNot, kAnd, kOr, kNot, kIf, boolOf, kCall, cNil, cV, cMv, cPass, lend, back, resL, outs, endOf, srcAt, kSGet, kSLen, kInt, SF.get, SF.put, bl, nm, if_true, if_false, Bool.false_eq_true, Bool.not_true, Bool.not_false, D_u_law_thing, kComp, iSeq, seqOf, strsE, lt_boxes, lt_words, szOk1, List.length_map, z1, z2, pAdd, z3, z4, h1, Th.enc]
  simp only [List.cons_append, List.mem_cons, List.mem_append, List.mem_map] at h2
  rcases h2 with rfl | ⟨x, hx, rfl⟩ | ⟨x, hx, rfl⟩
  · exact ⟨.it, S', hr, trivial, h3⟩
  · exact ⟨.box x, S', hr, hx, h3⟩
  · exact ⟨.word x, S', hr, hw x hx, h3⟩
theorem pickI {n : Nat} (i : Int) (S : Src) (e : i = n) (hS : Sok S) (hn : 0 < n) (hm : n ≤ 1000000) : ∃ (r : Nat) (S' : Src), D_u_law_pick.run [.src S, .val (.int i)] = .ok (.val (.int r), [.src S']) ∧ r < n ∧ Sok S' := by
  subst e
  exact pick S n hS hn hm
theorem pEq_int {a b : Int} : pEq (.int a) (.int b) = bl (decide (a = b)) := rfl
theorem pEq_nilT {bs : List Str} (h : ∀ b ∈ bs, Sk b) : pEq (strsE bs) (.tuple []) = bl (decide (bs = [])) := by
  rw [pEq_of (eqOk_strs h) rfl]
  cases bs with
  | nil => rfl
  | cons b bs =>
    have : PyData.eqv (strsE (b :: bs)) (.tuple []) = false := rfl
    rw [this]
    simp
end K07

set_option Elab.async false
set_option linter.all false
set_option maxRecDepth 100000
set_option maxHeartbeats 4000000
set_option pp.maxSteps 600
namespace K07
open PySem KV
theorem way_ix0 : pIx (.list [.str "not", .str "and", .str "or"]) (.int ((0 : Nat) : Int)) = .ok (.d (.str "not")) := by kernel_rfl
theorem way_ix1 : pIx (.list [.str "not", .str "and", .str "or"]) (.int ((1 : Nat) : Int)) = .ok (.d (.str "and")) := by kernel_rfl
theorem way_ix2 : pIx (.list [.str "not", .str "and", .str "or"]) (.int ((2 : Nat) : Int)) = .ok (.d (.str "or")) := by kernel_rfl
theorem lcond_step {n deep M : Nat} {ws bs : List Str} (hw : ∀ x ∈ ws, Sk x) (hb : ∀ x ∈ bs, Sk x) (lw : ws.length ≤ 1000) (lb : bs.length ≤ 1000)
    (ih : 0 < deep → ∀ S, Sok S → ∃ (c : Cd) (S' : Src), (D_u_law_condition n).run [.src S, .val (strsE ws), .val (strsE bs), .val (.int ((deep : Int) - 1))] = .ok (.val c.enc, [.src S']) ∧ WC bs c ∧ c.hgt + 1 ≤ deep ∧ c.sz ≤ M ∧ Sok S') (S : Src) (hS : Sok S) :
    ∃ (c : Cd) (S' : Src), (D_u_law_condition (n + 1)).run [.src S, .val (strsE ws), .val (strsE bs), .val (.int (deep : Int))] = .ok (.val c.enc, [.src S']) ∧ WC bs c ∧ c.hgt ≤ deep ∧ c.sz ≤ 2 * M + 1 ∧ Sok S' := by
  obtain ⟨r, S1, p1, p2, hS1⟩ := pickI (n := 9) 9 S rfl hS (by decide) (by decide)
  by_cases h1 : 0 < deep ∧ r < 3
  · obtain ⟨h1, h2⟩ := h1
    have d1 : decide ((0 : Int) < (deep : Int)) = true := decide_eq_true (by omega)
    have d2 : decide ((r : Int) < 3) = true := decide_eq_true (by omega)
    obtain ⟨c, S2, e1, w1, g1, z1, hS2⟩ := ih h1 S1 hS1
    obtain ⟨c2, S5, e2, w2, g2, z2, hS5⟩ := ih h1 S2 hS2
    have t1 : ((1 : Int) + 0) ≤ 16000000 ∧ -16000000 ≤ ((1 : Int) + 0) := by decide
    have t2 : ((1 : Int) + 1) ≤ 16000000 ∧ -16000000 ≤ ((1 : Int) + 1) := by decide
    have i1 : intR 0 (Int.toNat ((1 : Int) + 0)) = [.int 0] := rfl
    have i2 : intR 0 (Int.toNat ((1 : Int) + 1)) = [.int 0, .int 1] := rfl
    have hcase : r = 0 ∨ r = 1 ∨ r = 2 := by omega
    rcases hcase with rfl | rfl | rfl
    · have d3 : decide ((0 : Int) < ((0 : Nat) : Int)) = false := rfl
      refine ⟨.not c, S2, ?_, w1, by simp only [Cd.hgt]; omega, by simp only [Cd.sz]; omega, hS2⟩
      simp only [run_mk, List.map_cons, List.map_nil, List.length_cons, List.length_nil, List.cons_append, List.nil_append, List.replicate_succ, List.replicate_zero, Nat.reduceAdd, Nat.reduceSub, List.getElem?_cons_zero, List.getElem?_cons_succ, List.set_cons_zero, List.set_cons_succ, R.bind_ok, sCons, sNil, sIf, sRet, retL, dropL, sSet, setL, sDrop, sUnp, sPar, lNil, lCons, kF, putL, gN, gT, gAll, kC, kX, kD, kG, kS, scl, k1, k2, L.get, L.take, T.toD, aNil, aCons, kTup, kLst, bVal, bAnd, bOr, bNot, kAnd, kOr, kNot, kIf, boolOf, kCall, cNil, cV, cMv, cPass, lend, back, resL, outs, endOf, srcAt, kSGet, kSLen, kInt, SF.get, SF.put, bl, nm, if_true, if_false, Bool.false_eq_true, Bool.not_true, Bool.not_false, D_u_law_condition, p1, pGt, pLt, pSub, d1, d2, kComp, iRg1, pInt, d3, pAdd, t1, and_self, i1, compD, wipeD, e1, szOk1, szOk2, szOk3, pTuple, way_ix0, Cd.enc]
    · have d3 : decide ((0 : Int) < ((1 : Nat) : Int)) = true := rfl
      refine ⟨.and c c2, S5, ?_, ⟨w1, w2⟩, by simp only [Cd.hgt]; omega, by simp only [Cd.sz]; omega, hS5⟩
      simp only [run_mk, List.map_cons, List.map_nil, List.length_cons, List.length_nil, List.cons_append, List.nil_append, List.replicate_succ, List.replicate_zero, Nat.reduceAdd, Nat.reduceSub, List.getElem?_cons_zero, List.getElem?_cons_succ, List.set_cons_zero, List.set_cons_succ, R.bind_ok, sCons, sNil, sIf, sRet, retL, dropL, sSet, setL, sDrop, sUnp, sPar, lNil, lCons, kF, putL, gN, gT, gAll, kC, kX, kD, kG, kS, scl, k1, k2, L.get, L.take, T.toD, aNil, aCons, kTup, kLst, bVal, bAnd, bOr, bNot, kAnd, kOr, kNot, kIf, boolOf, kCall, cNil, cV, cMv, cPass, lend, back, resL, outs, endOf, srcAt, kSGet, kSLen, kInt, SF.get, SF.put, bl, nm, if_true, if_false, Bool.false_eq_true, Bool.not_true, Bool.not_false, D_u_law_condition, p1, pGt, pLt, pSub, d1, d2, kComp, iRg1, pInt, d3, pAdd, t2, and_self, i2, compD, wipeD, e1, e2, szOk1, szOk2, szOk3, pTuple, way_ix1, Cd.enc]
    · have d3 : decide ((0 : Int) < ((2 : Nat) : Int)) = true := rfl
      refine ⟨.or c c2, S5, ?_, ⟨w1, w2⟩, by simp only [Cd.hgt]; omega, by simp only [Cd.sz]; omega, hS5⟩
      simp only [run_mk, List.map_cons, List.map_nil, List.length_cons, List.length_nil, List.cons_append, List.nil_append, List.replicate_succ, List.replicate_zero, Nat.reduceAdd, Nat.reduceSub, List.getElem?_cons_zero, List.getElem?_cons_succ, List.set_cons_zero, List.set_cons_succ, R.bind_ok, sCons, sNil, sIf, sRet, retL, dropL, sSet, setL, sDrop, sUnp, sPar, lNil, lCons, kF, putL, gN, gT, gAll, kC, kX, kD, kG, kS, scl, k1, k2, L.get, L.take, T.toD, aNil, aCons, kTup, kLst, bVal, bAnd, bOr, bNot, kAnd, kOr, kNot, kIf, boolOf, kCall, cNil, cV, cMv, cPass, lend, back, resL, outs, endOf, srcAt, kSGet, kSLen, kInt, SF.get, SF.put, bl, nm, if_true, if_false, Bool.false_eq_true, Bool.not_true, Bool.not_false, D_u_law_condition, p1, pGt, pLt, pSub, d1, d2, kComp, iRg1, pInt, d3, pAdd, t2, and_self, i2, compD, wipeD, e1, e2, szOk1, szOk2, szOk3, pTuple, way_ix2, Cd.enc]
  · have hA : decide ((0 : Int) < (deep : Int)) = false ∨ (decide ((0 : Int) < (deep : Int)) = true ∧ decide ((r : Int) < 3) = false) := by
      by_cases h : 0 < deep
      · exact .inr ⟨decide_eq_true (by omega), decide_eq_false (by omega)⟩
      · exact .inl (decide_eq_false (by omega))
    by_cases h4 : bs = [] ∨ r = 3
    · have hB : decide (bs = []) = true ∨ (decide (bs = []) = false ∧ decide ((r : Int) = 3) = true) := by
        by_cases h5 : bs = []
        · exact .inl (decide_eq_true h5)
        · exact .inr ⟨decide_eq_false h5, decide_eq_true (by have := h4.resolve_left h5; omega)⟩
      obtain ⟨t, S2, t1, t2, hS2⟩ := lthing_ok S1 ws bs hS1 hw lw lb
      obtain ⟨d, S3, o1, o2, hS3⟩ := of_ok S2 [Cd.any.enc, Cd.new.enc, (Cd.it t).enc] hS2 (by simp) (by simp)
      have hr : (D_u_law_condition (n + 1)).run [.src S, .val (strsE ws), .val (strsE bs), .val (.int (deep : Int))] = .ok (.val d, [.src S3]) := by
        simp only [Cd.enc] at o1
        rcases hA with a1 | ⟨a1, a2⟩
        · rcases hB with b1 | ⟨b1, b2⟩
          · simp only [run_mk, List.map_cons, List.map_nil, List.length_cons, List.length_nil, List.cons_append, List.nil_append, List.replicate_succ, List.replicate_zero, Nat.reduceAdd, Nat.reduceSub, List.getElem?_cons_zero, List.getElem?_cons_succ, List.set_cons_zero, List.set_cons_succ, R.bind_ok, sCons, sNil, sIf, sRet, retL, dropL, sSet, setL, sDrop, sUnp, sPar, lNil, lCons, kF, putL, gN, gT, gAll, kC, kX, kD, kG, kS, scl, k1, k2, L.get, L.take, T.toD, aNil, aCons, kTup, kLst, bVal, bAnd, bOr, bNot, kAnd, kOr, kNot, kIf, boolOf, kCall, cNil, cV, cMv, cPass, lend, back, resL, outs, endOf, srcAt, kSGet, kSLen, kInt, SF.get, SF.put, bl, nm, if_true, if_false, Bool.false_eq_true, Bool.not_true, Bool.not_false, D_u_law_condition, p1, pGt, pLt, pEq_nilT hb, pEq_int, a1, b1, szOk0, szOk1, szOk2, szOk3, t1, o1]
          · simp only [run_mk, List.map_cons, List.map_nil, List.length_cons, List.length_nil, List.cons_append, List.nil_append, List.replicate_succ, List.replicate_zero, Nat.reduceAdd, Nat.reduceSub, List.getElem?_cons_zero, List.getElem?_cons_succ, List.set_cons_zero, List.set_cons_succ, R.bind_ok, sCons, sNil, sIf, sRet, retL, dropL, sSet, setL, sDrop, sUnp, sPar, lNil, lCons, kF, putL, gN, gT, gAll, kC, kX, kD, kG, kS, scl, k1, k2, L.get, L.take, T.toD, aNil, aCons, kTup, kLst, bVal, bAnd, bOr, bNot, kAnd, kOr, kNot, kIf, boolOf, kCall, cNil, cV, cMv, cPass, lend, back, resL, outs, endOf, srcAt, kSGet, kSLen, kInt, SF.get, SF.put, bl, nm, if_true, if_false, Bool.false_eq_true, Bool.not_true, Bool.not_false, D_u_law_condition, p1, pGt, pLt, pEq_nilT hb, pEq_int, a1, b1, b2, szOk0, szOk1, szOk2, szOk3, t1, o1]
        · rcases hB with b1 | ⟨b1, b2⟩
          · simp only [run_mk, List.map_cons, List.map_nil, List.length_cons, List.length_nil, List.cons_append, List.nil_append, List.replicate_succ, List.replicate_zero, Nat.reduceAdd, Nat.reduceSub, List.getElem?_cons_zero, List.getElem?_cons_succ, List.set_cons_zero, List.set_cons_succ, R.bind_ok, sCons, sNil, sIf, sRet, retL, dropL, sSet, setL, sDrop, sUnp, sPar, lNil, lCons, kF, putL, gN, gT, gAll, kC, kX, kD, kG, kS, scl, k1, k2, L.get, L.take, T.toD, aNil, aCons, kTup, kLst, bVal, bAnd, bOr, bNot, kAnd, kOr, kNot, kIf, boolOf, kCall, cNil, cV, cMv, cPass, lend, back, resL, outs, endOf, srcAt, kSGet, kSLen, kInt, SF.get, SF.put, bl, nm, if_true, if_false, Bool.false_eq_true, Bool.not_true, Bool.not_false, D_u_law_condition, p1, pGt, pLt, pEq_nilT hb, pEq_int, a1, a2, b1, szOk0, szOk1, szOk2, szOk3, t1, o1]
          · simp only [run_mk, List.map_cons, List.map_nil, List.length_cons, List.length_nil, List.cons_append, List.nil_append, List.replicate_succ, List.replicate_zero, Nat.reduceAdd, Nat.reduceSub, List.getElem?_cons_zero, List.getElem?_cons_succ, List.set_cons_zero, List.set_cons_succ, R.bind_ok, sCons, sNil, sIf, sRet, retL, dropL, sSet, setL, sDrop, sUnp, sPar, lNil, lCons, kF, putL, gN, gT, gAll, kC, kX, kD, kG, kS, scl, k1, k2, L.get, L.take, T.toD, aNil, aCons, kTup, kLst, bVal, bAnd, bOr, bNot, kAnd, kOr, kNot, kIf, boolOf, kCall, cNil, cV, cMv, cPass, lend, back, resL, outs, endOf, srcAt, kSGet, kSLen, kInt, SF.get, SF.put, bl, nm, if_true, if_false, Bool.false_eq_true, Bool.not_true, Bool.not_false, D_u_law_condition, p1, pGt, pLt, pEq_nilT hb, pEq_int, a1, a2, b1, b2, szOk0, szOk1, szOk2, szOk3, t1, o1]
      simp only [List.mem_cons, List.not_mem_nil, or_false] at o2
      rcases o2 with rfl | rfl | rfl
      · exact ⟨.any, S3, hr, trivial, by simp [Cd.hgt], by simp only [Cd.sz]; omega, hS3⟩
      · exact ⟨.new, S3, hr, trivial, by simp [Cd.hgt], by simp only [Cd.sz]; omega, hS3⟩
      · exact ⟨.it t, S3, hr, t2, by simp [Cd.hgt], by simp only [Cd.sz]; omega, hS3⟩
    · have h5 : bs ≠ [] := fun h => h4 (.inl h)
      have h6 : r ≠ 3 := fun h => h4 (.inr h)
      have b1 : decide (bs = []) = false := decide_eq_false h5
      have b2 : decide ((r : Int) = 3) = false := decide_eq_false (by omega)
      by_cases k6 : r < 6
      · have b3 : decide ((r : Int) < 6) = true := decide_eq_true (by omega)
        obtain ⟨t, S2, t1, t2, hS2⟩ := lthing_ok S1 ws bs hS1 hw lw lb
        refine ⟨.it t, S2, ?_, t2, by simp [Cd.hgt], by simp only [Cd.sz]; omega, hS2⟩
        rcases hA with a1 | ⟨a1, a2⟩
        · simp only [run_mk, List.map_cons, List.map_nil, List.length_cons, List.length_nil, List.cons_append, List.nil_append, List.replicate_succ, List.replicate_zero, Nat.reduceAdd, Nat.reduceSub, List.getElem?_cons_zero, List.getElem?_cons_succ, List.set_cons_zero, List.set_cons_succ, R.bind_ok, sCons, sNil, sIf, sRet, retL, dropL, sSet, setL, sDrop, sUnp, sPar, lNil, lCons, kF, putL, gN, gT, gAll, kC, kX, kD, kG, kS, scl, k1, k2, L.get, L.take, T.toD, aNil, aCons, kTup, kLst, bVal, bAnd, bOr, bNot, kAnd, kOr, kNot, kIf, boolOf, kCall, cNil, cV, cMv, cPass, lend, back, resL, outs, endOf, srcAt, kSGet, kSLen, kInt, SF.get, SF.put, bl, nm, if_true, if_false, Bool.false_eq_true, Bool.not_true, Bool.not_false, D_u_law_condition, p1, pGt, pLt, pEq_nilT hb, pEq_int, a1, b1, b2, b3, szOk0, szOk1, szOk2, t1, Cd.enc]
        · simp only [run_mk, List.map_cons, List.map_nil, List.length_cons, List.length_nil, List.cons_append, List.nil_append, List.replicate_succ, List.replicate_zero, Nat.reduceAdd, Nat.reduceSub, List.getElem?_cons_zero, List.getElem?_cons_succ, List.set_cons_zero, List.set_cons_succ, R.bind_ok, sCons, sNil, sIf, sRet, retL, dropL, sSet, setL, sDrop, sUnp, sPar, lNil, lCons, kF, putL, gN, gT, gAll, kC, kX, kD, kG, kS, scl, k1, k2, L.get, L.take, T.toD, aNil, aCons, kTup, kLst, bVal, bAnd, bOr, bNot, kAnd, kOr, kNot, kIf, boolOf, kCall, cNil, cV, cMv, cPass, lend, back, resL, outs, endOf, srcAt, kSGet, kSLen, kInt, SF.get, SF.put, bl, nm, if_true, if_false, Bool.false_eq_true, Bool.not_true, Bool.not_false, D_u_law_condition, p1, pGt, pLt, pEq_nilT hb, pEq_int, a1, a2, b1, b2, b3, szOk0, szOk1, szOk2, t1, Cd.enc]
      · have b3 : decide ((r : Int) < 6) = false := decide_eq_false (by omega)
        by_cases k7 : r = 6
        · have b4 : decide ((r : Int) = 6) = true := decide_eq_true (by omega)
          refine ⟨.new, S1, ?_, trivial, by simp [Cd.hgt], by simp only [Cd.sz]; omega, hS1⟩
          rcases hA with a1 | ⟨a1, a2⟩
          · simp only [run_mk, List.map_cons, List.map_nil, List.length_cons, List.length_nil, List.cons_append, List.nil_append, List.replicate_succ, List.replicate_zero, Nat.reduceAdd, Nat.reduceSub, List.getElem?_cons_zero, List.getElem?_cons_succ, List.set_cons_zero, List.set_cons_succ, R.bind_ok, sCons, sNil, sIf, sRet, retL, dropL, sSet, setL, sDrop, sUnp, sPar, lNil, lCons, kF, putL, gN, gT, gAll, kC, kX, kD, kG, kS, scl, k1, k2, L.get, L.take, T.toD, aNil, aCons, kTup, kLst, bVal, bAnd, bOr, bNot, kAnd, kOr, kNot, kIf, boolOf, kCall, cNil, cV, cMv, cPass, lend, back, resL, outs, endOf, srcAt, kSGet, kSLen, kInt, SF.get, SF.put, bl, nm, if_true, if_false, Bool.false_eq_true, Bool.not_true, Bool.not_false, D_u_law_condition, p1, pGt, pLt, pEq_nilT hb, pEq_int, a1, b1, b2, b3, b4, szOk0, szOk1, szOk2, Cd.enc]
          · simp only [run_mk, List.map_cons, List.map_nil, List.length_cons, List.length_nil, List.cons_append, List.nil_append, List.replicate_succ, List.replicate_zero, Nat.reduceAdd, Nat.reduceSub, List.getElem?_cons_zero, List.getElem?_cons_succ, List.set_cons_zero, List.set_cons_succ, R.bind_ok, sCons, sNil, sIf, sRet, retL, dropL, sSet, setL, sDrop, sUnp, sPar, lNil, lCons, kF, putL, gN, gT, gAll, kC, kX, kD, kG, kS, scl, k1, k2, L.get, L.take, T.toD, aNil, aCons, kTup, kLst, bVal, bAnd, bOr, bNot, kAnd, kOr, kNot, kIf, boolOf, kCall, cNil, cV, cMv, cPass, lend, back, resL, outs, endOf, srcAt, kSGet, kSLen, kInt, SF.get, SF.put, bl, nm, if_true, if_false, Bool.false_eq_true, Bool.not_true, Bool.not_false, D_u_law_condition, p1, pGt, pLt, pEq_nilT hb, pEq_int, a1, a2, b1, b2, b3, b4, szOk0, szOk1, szOk2, Cd.enc]
        · have b4 : decide ((r : Int) = 6) = false := decide_eq_false (by omega)
          obtain ⟨db, S2, o1, o2, hS2⟩ := of_ok S1 (bs.map PyData.str) hS1 (by rw [List.length_map]; exact List.length_pos_iff.mpr h5) (by rw [List.length_map]; omega)
          obtain ⟨b, hbm, rfl⟩ := List.mem_map.mp o2
          have hx : pList (strsE bs) = .ok (.t (.lst (bs.map PyData.str))) := rfl
          by_cases k8 : r = 7
          · have b5 : decide ((r : Int) = 7) = true := decide_eq_true (by omega)
            refine ⟨.empty b, S2, ?_, hbm, by simp [Cd.hgt], by simp only [Cd.sz]; omega, hS2⟩
            rcases hA with a1 | ⟨a1, a2⟩
            · simp only [run_mk, List.map_cons, List.map_nil, List.length_cons, List.length_nil, List.cons_append, List.nil_append, List.replicate_succ, List.replicate_zero, Nat.reduceAdd, Nat.reduceSub, List.getElem?_cons_zero, List.getElem?_cons_succ, List.set_cons_zero, List.set_cons_succ, R.bind_ok, sCons, sNil, sIf, sRet, retL, dropL, sSet, setL, sDrop, sUnp, sPar, lNil, lCons, kF, putL, gN, gT, gAll, kC, kX, kD, kG, kS, scl, k1, k2, L.get, L.take, T.toD, aNil, aCons, kTup, kLst, bVal, bAnd, bOr, bNot, kAnd, kOr, kNot, kIf, boolOf, kCall, cNil, cV, cMv, cPass, lend, back, resL, outs, endOf, srcAt, kSGet, kSLen, kInt, SF.get, SF.put, bl, nm, if_true, if_false, Bool.false_eq_true, Bool.not_true, Bool.not_false, D_u_law_condition, p1, pGt, pLt, pEq_nilT hb, pEq_int, a1, b1, b2, b3, b4, b5, hx, o1, szOk0, szOk1, szOk2, Cd.enc]
            · simp only [run_mk, List.map_cons, List.map_nil, List.length_cons, List.length_nil, List.cons_append, List.nil_append, List.replicate_succ, List.replicate_zero, Nat.reduceAdd, Nat.reduceSub, List.getElem?_cons_zero, List.getElem?_cons_succ, List.set_cons_zero, List.set_cons_succ, R.bind_ok, sCons, sNil, sIf, sRet, retL, dropL, sSet, setL, sDrop, sUnp, sPar, lNil, lCons, kF, putL, gN, gT, gAll, kC, kX, kD, kG, kS, scl, k1, k2, L.get, L.take, T.toD, aNil, aCons, kTup, kLst, bVal, bAnd, bOr, bNot, kAnd, kOr, kNot, kIf, boolOf, kCall, cNil, cV, cMv, cPass, lend, back, resL, outs, endOf, srcAt, kSGet, kSLen, kInt, SF.get, SF.put, bl, nm, if_true, if_false, Bool.false_eq_true, Bool.not_true, Bool.not_false, D_u_law_condition, p1, pGt, pLt, pEq_nilT hb, pEq_int, a1, a2, b1, b2, b3, b4, b5, hx, o1, szOk0, szOk1, szOk2, Cd.enc]
          · have b5 : decide ((r : Int) = 7) = false := decide_eq_false (by omega)
            obtain ⟨t, S3, t1, t2, hS3⟩ := lthing_ok S2 ws bs hS2 hw lw lb
            refine ⟨.same b t, S3, ?_, ⟨hbm, t2⟩, by simp [Cd.hgt], by simp only [Cd.sz]; omega, hS3⟩
            rcases hA with a1 | ⟨a1, a2⟩
            · simp only [run_mk, List.map_cons, List.map_nil, List.length_cons, List.length_nil, List.cons_append, List.nil_append, List.replicate_succ, List.replicate_zero, Nat.reduceAdd, Nat.reduceSub, List.getElem?_cons_zero, List.getElem?_cons_succ, List.set_cons_zero, List.set_cons_succ, R.bind_ok, sCons, sNil, sIf, sRet, retL, dropL, sSet, setL, sDrop, sUnp, sPar, lNil, lCons, kF, putL, gN, gT, gAll, kC, kX, kD, kG, kS, scl, k1, k2, L.get, L.take, T.toD, aNil, aCons, kTup, kLst, bVal, bAnd, bOr, bNot, kAnd, kOr, kNot, kIf, boolOf, kCall, cNil, cV, cMv, cPass, lend, back, resL, outs, endOf, srcAt, kSGet, kSLen, kInt, SF.get, SF.put, bl, nm, if_true, if_false, Bool.false_eq_true, Bool.not_true, Bool.not_false, D_u_law_condition, p1, pGt, pLt, pEq_nilT hb, pEq_int, a1, b1, b2, b3, b4, b5, hx, o1, t1, szOk0, szOk1, szOk2, szOk3, Cd.enc]
            · simp only [run_mk, List.map_cons, List.map_nil, List.length_cons, List.length_nil, List.cons_append, List.nil_append, List.replicate_succ, List.replicate_zero, Nat.reduceAdd, Nat.reduceSub, List.getElem?_cons_zero, List.getElem?_cons_succ, List.set_cons_zero, List.set_cons_succ, R.bind_ok, sCons, sNil, sIf, sRet, retL, dropL, sSet, setL, sDrop, sUnp, sPar, lNil, lCons, kF, putL, gN, gT, gAll, kC, kX, kD, kG, kS, scl, k1, k2, L.get, L.take, T.toD, aNil, aCons, kTup, kLst, bVal, bAnd, bOr, bNot, kAnd, kOr, kNot, kIf, boolOf, kCall, cNil, cV, cMv, cPass, lend, back, resL, outs, endOf, srcAt, kSGet, kSLen, kInt, SF.get, SF.put, bl, nm, if_true, if_false, Bool.false_eq_true, Bool.not_true, Bool.not_false, D_u_law_condition, p1, pGt, pLt, pEq_nilT hb, pEq_int, a1, a2, b1, b2, b3, b4, b5, hx, o1, t1, szOk0, szOk1, szOk2, szOk3, Cd.enc]
theorem lcond_ok {ws bs : List Str} (hw : ∀ x ∈ ws, Sk x) (hb : ∀ x ∈ bs, Sk x) (lw : ws.length ≤ 1000) (lb : bs.length ≤ 1000) (S : Src) (hS : Sok S) :
    ∃ (c : Cd) (S' : Src), (D_u_law_condition 3).run [.src S, .val (strsE ws), .val (strsE bs), .val (.int 2)] = .ok (.val c.enc, [.src S']) ∧ WC bs c ∧ c.hgt ≤ 2 ∧ c.sz ≤ 7 ∧ Sok S' :=
  lcond_step (n := 2) (deep := 2) (M := 3) hw hb lw lb (fun _ S hS => by
    obtain ⟨c, S', h1, h2, h3, h4, h5⟩ := lcond_step (n := 1) (deep := 1) (M := 1) hw hb lw lb (fun _ S hS => by
      obtain ⟨c, S', h1, h2, h3, h4, h5⟩ := lcond_step (n := 0) (deep := 0) (M := 0) hw hb lw lb (fun h => absurd h (Nat.lt_irrefl 0)) S hS
      exact ⟨c, S', h1, h2, by omega, by omega, h5⟩) S hS
    exact ⟨c, S', h1, h2, by omega, by omega, h5⟩) S hS
end K07

set_option Elab.async false
set_option linter.all false
set_option maxRecDepth 100000
set_option maxHeartbeats 4000000
set_option pp.maxSteps 600
namespace K07
open PySem KV
/-- acts, as they are drawn -/
structure GA (bs ms : List Str) (l : List Ac) : Prop where
  wa : ∀ a ∈ l, WA bs a
  tl : l.countP isTell ≤ 3
  ln : l.length ≤ 4 + bs.length
  go : ∀ m, Ac.go m ∈ l → m ∈ ms
theorem la_tells {S : Src} {ws bs ms : List Str} {n : Nat} (hS : Sok S) (hw : ∀ x ∈ ws, Sk x) (lw : ws.length ≤ 1000) (lb : bs.length ≤ 1000) :
    (compD (gN 7) none (kTup (aCons (kC (.str "tell")) (aCons (kCall (D_u_law_thing).run (cMv 0 (cV (kX 1) (cV (kX 2) cNil)))) aNil))) [7] (intR 0 n) [some (.src S), some (.val (strsE ws)), some (.val (strsE bs)), some (.val (strsE ms)), none, none, none, none]).W fun r =>
      ∃ (ts : List Th) (S' : Src), r.1 = ts.map (fun t => (Ac.tell t).enc) ∧ r.2 = [some (.src S'), some (.val (strsE ws)), some (.val (strsE bs)), some (.val (strsE ms)), none, none, none, none] ∧ ts.length = n ∧ (∀ t ∈ ts, WT bs t) ∧ Sok S' := by
  have hl : (intR 0 n).length = n := by simp [intR]
  have h := comp_inv0 (g := gN 7) (f := kTup (aCons (kC (.str "tell")) (aCons (kCall (D_u_law_thing).run (cMv 0 (cV (kX 1) (cV (kX 2) cNil)))) aNil))) (own := [7]) (ds := intR 0 n) (s := [some (.src S), some (.val (strsE ws)), some (.val (strsE bs)), some (.val (strsE ms)), none, none, none, none])
    (fun i acc s => ∃ (ts : List Th) (S' : Src), acc = ts.map (fun t => (Ac.tell t).enc) ∧ s = [some (.src S'), some (.val (strsE ws)), some (.val (strsE bs)), some (.val (strsE ms)), none, none, none, none] ∧ ts.length = i ∧ (∀ t ∈ ts, WT bs t) ∧ Sok S')
    ⟨[], S, rfl, rfl, rfl, by simp, hS⟩ (fun i x acc s hx ⟨ts, S1, a1, a2, a3, a4, a5⟩ => by
      obtain ⟨t, S2, t1, t2, t3⟩ := lthing_ok S1 ws bs a5 hw lw lb
      subst a1 a2
      simp only [run_mk, List.map_cons, List.map_nil, List.length_cons, List.length_nil, List.cons_append, List.nil_append, List.replicate_succ, List.replicate_zero, Nat.reduceAdd, Nat.reduceSub, List.getElem?_cons_zero, List.getElem?_cons_succ, List.set_cons_zero, List.set_cons_succ, R.bind_ok, sCons, sNil, sIf, sRet, retL, dropL, sSet, setL, sDrop, sUnp, sPar, lNil, lCons, kF, putL, gN, gT, gAll, kC, kX, kD, kG, kS, scl, k1, k2, L.get, L.take, T.toD, aNil, aCons, kTup, kLst, bVal, bAnd, bOr, bNot, kAnd, kOr, kNot, kIf, boolOf, kCall, cNil, cV, cMv, cPass, lend, back, resL, outs, endOf, srcAt, kSGet, kSLen, kInt, SF.get, SF.put, bl, nm, if_true, if_false, Bool.false_eq_true, Bool.not_true, Bool.not_false, wipeD, szOk2, t1, R.W_ok]
      refine ⟨ts ++ [t], S2, by simp [Ac.enc], rfl, by simp [a3], fun u hu => ?_, t3⟩
      rcases List.mem_append.mp hu with h | h
      · exact a4 u h
      · simp at h; exact h ▸ t2)
  rw [hl] at h
  exact h
theorem la_boxes {S : Src} {ws bs ms : List Str} {ts : List Th} (hS : Sok S) (hw : ∀ x ∈ ws, Sk x) (lw : ws.length ≤ 1000) (lb : bs.length ≤ 1000) (hn : ts.length ≤ 3) (ht : ∀ t ∈ ts, WT bs t) {b : SV}
    (hb : b = (sCons (sSet 6 (kCall (D_u_law_pick).run (cMv 0 (cV (kC (.int 4)) cNil))))
    (sCons (sIf (bVal (k2 pLt (kX 6) (kC (.int 2)))) (sCons (sDrop (kApp 4 (kTup (aCons (kC (.str "put")) (aCons (kIf (bVal (k2 pEq (kX 6) (kC (.int 0)))) (kCall (D_u_law_thing).run (cMv 0 (cV (kX 1) (cV (kX 2) cNil)))) (kTup (aCons (kC (.str "it")) aNil))) (aCons (kX 5) aNil))))))
    sNil) (sCons (sIf (bVal (k2 pEq (kX 6) (kC (.int 2)))) (sCons (sDrop (kApp 4 (kTup (aCons (kC (.str "drop")) (aCons (kX 5) aNil)))))
    sNil) sNil)
    sNil))
    sNil))) :
    (forD (gN 5) b (bs.map PyData.str) [some (.src S), some (.val (strsE ws)), some (.val (strsE bs)), some (.val (strsE ms)), some (.lst (ts.map (fun t => (Ac.tell t).enc))), none, none, none]).W fun r => r.1 = .nx ∧
      ∃ (fs : List Ac) (S' : Src) (t5 t6 : Option T), r.2 = [some (.src S'), some (.val (strsE ws)), some (.val (strsE bs)), some (.val (strsE ms)), some (.lst (fs.map Ac.enc)), t5, t6, none] ∧ (∀ a ∈ fs, WA bs a) ∧ fs.countP isTell ≤ 3 ∧ fs.length ≤ 3 + bs.length ∧ (∀ m, Ac.go m ∉ fs) ∧ Sok S' := by
  have h := for_inv (g := gN 5) (b := b) (ds := bs.map PyData.str) (s := [some (.src S), some (.val (strsE ws)), some (.val (strsE bs)), some (.val (strsE ms)), some (.lst (ts.map (fun t => (Ac.tell t).enc))), none, none, none])
    (fun i s => ∃ (fs : List Ac) (S' : Src) (t5 t6 : Option T), s = [some (.src S'), some (.val (strsE ws)), some (.val (strsE bs)), some (.val (strsE ms)), some (.lst (fs.map Ac.enc)), t5, t6, none] ∧ (∀ a ∈ fs, WA bs a) ∧ fs.countP isTell ≤ 3 ∧ fs.length ≤ 3 + i ∧ (∀ m, Ac.go m ∉ fs) ∧ Sok S')
    ⟨ts.map Ac.tell, S, none, none, by rw [List.map_map]; rfl, fun a ha => by
      obtain ⟨t, h1, rfl⟩ := List.mem_map.mp ha
      exact ht t h1, Nat.le_trans (List.countP_le_length ..) (by rw [List.length_map]; exact hn), by rw [List.length_map]; exact hn, (fun m hm => by
      obtain ⟨t, _, h2⟩ := List.mem_map.mp hm
      cases h2), hS⟩ (fun i x s hx ⟨fs, S1, t5, t6, a1, a2, a3, a4, a5, a6⟩ => by
      obtain ⟨c, hc, rfl⟩ : ∃ c, c ∈ bs ∧ x = .str c := by
        have := List.mem_of_getElem? hx
        simpa [eq_comm] using this
      have hi : i < bs.length := by
        have := (List.getElem?_eq_some_iff.mp hx).1
        simpa using this
      subst a1 hb
      obtain ⟨r, S2, p1, p2, hS2⟩ := pickI (n := 4) 4 S1 rfl a6 (by decide) (by decide)
      have hz : szOk ((fs.map Ac.enc).length + 1) = true := szOk_of (by rw [List.length_map]; omega)
      have grow : ∀ (a : Ac), WA bs a → isTell a = false → (∀ m, a ≠ .go m) → (∀ z ∈ fs ++ [a], WA bs z) ∧ (fs ++ [a]).countP isTell ≤ 3 ∧ (fs ++ [a]).length ≤ 3 + (i + 1) ∧ (∀ m, Ac.go m ∉ fs ++ [a]) := fun a w1 w2 w3 => by
        refine ⟨fun z hz => ?_, ?_, by rw [List.length_append, List.length_singleton]; omega, fun m hm => ?_⟩
        · rcases List.mem_append.mp hz with h | h
          · exact a2 z h
          · simp at h; exact h ▸ w1
        · rw [List.countP_append, List.countP_cons, List.countP_nil, w2]
          simpa using a3
        · rcases List.mem_append.mp hm with h | h
          · exact a5 m h
          · simp at h; exact w3 m h.symm
      by_cases h1 : r < 2
      · have d1 : decide ((r : Int) < 2) = true := decide_eq_true (by omega)
        by_cases h2 : 0 < r
        · have d2 : decide ((r : Int) = 0) = false := decide_eq_false (by omega)
          obtain ⟨g1, g2, g3, g4⟩ := grow (.put .it c) ⟨trivial, hc⟩ rfl (fun m h => nomatch h)
          simp only [run_mk, List.map_cons, List.map_nil, List.length_cons, List.length_nil, List.cons_append, List.nil_append, List.replicate_succ, List.replicate_zero, Nat.reduceAdd, Nat.reduceSub, List.getElem?_cons_zero, List.getElem?_cons_succ, List.set_cons_zero, List.set_cons_succ, R.bind_ok, sCons, sNil, sIf, sRet, retL, dropL, sSet, setL, sDrop, sUnp, sPar, lNil, lCons, kF, putL, gN, gT, gAll, kC, kX, kD, kG, kS, scl, k1, k2, L.get, L.take, T.toD, aNil, aCons, kTup, kLst, bVal, bAnd, bOr, bNot, kAnd, kOr, kNot, kIf, boolOf, kCall, cNil, cV, cMv, cPass, lend, back, resL, outs, endOf, srcAt, kSGet, kSLen, kInt, SF.get, SF.put, bl, nm, if_true, if_false, Bool.false_eq_true, Bool.not_true, Bool.not_false, p1, pLt, pEq_int, d1, d2, kApp, szOk1, szOk3, hz, R.W_ok]
          exact ⟨.inl trivial, fs ++ [.put .it c], S2, _, _, by rw [List.map_append]; rfl, g1, g2, g3, g4, hS2⟩
        · have d2 : decide ((r : Int) = 0) = true := decide_eq_true (by omega)
          obtain ⟨t, S3, e1, e2, e3⟩ := lthing_ok S2 ws bs hS2 hw lw lb
          obtain ⟨g1, g2, g3, g4⟩ := grow (.put t c) ⟨e2, hc⟩ rfl (fun m h => nomatch h)
          simp only [run_mk, List.map_cons, List.map_nil, List.length_cons, List.length_nil, List.cons_append, List.nil_append, List.replicate_succ, List.replicate_zero, Nat.reduceAdd, Nat.reduceSub, List.getElem?_cons_zero, List.getElem?_cons_succ, List.set_cons_zero, List.set_cons_succ, R.bind_ok, sCons, sNil, sIf, sRet, retL, dropL, sSet, setL, sDrop, sUnp, sPar, lNil, lCons, kF, putL, gN, gT, gAll, kC, kX, kD, kG, kS, scl, k1, k2, L.get, L.take, T.toD, aNil, aCons, kTup, kLst, bVal, bAnd, bOr, bNot, kAnd, kOr, kNot, kIf, boolOf, kCall, cNil, cV, cMv, cPass, lend, back, resL, outs, endOf, srcAt, kSGet, kSLen, kInt, SF.get, SF.put, bl, nm, if_true, if_false, Bool.false_eq_true, Bool.not_true, Bool.not_false, p1, pLt, pEq_int, d1, d2, kApp, szOk1, szOk3, e1, hz, R.W_ok]
          exact ⟨.inl trivial, fs ++ [.put t c], S3, _, _, by rw [List.map_append]; rfl, g1, g2, g3, g4, e3⟩
      · have d1 : decide ((r : Int) < 2) = false := decide_eq_false (by omega)
        by_cases h2 : r = 2
        · have d2 : decide ((r : Int) = 2) = true := decide_eq_true (by omega)
          obtain ⟨g1, g2, g3, g4⟩ := grow (.drop c) hc rfl (fun m h => nomatch h)
          simp only [run_mk, List.map_cons, List.map_nil, List.length_cons, List.length_nil, List.cons_append, List.nil_append, List.replicate_succ, List.replicate_zero, Nat.reduceAdd, Nat.reduceSub, List.getElem?_cons_zero, List.getElem?_cons_succ, List.set_cons_zero, List.set_cons_succ, R.bind_ok, sCons, sNil, sIf, sRet, retL, dropL, sSet, setL, sDrop, sUnp, sPar, lNil, lCons, kF, putL, gN, gT, gAll, kC, kX, kD, kG, kS, scl, k1, k2, L.get, L.take, T.toD, aNil, aCons, kTup, kLst, bVal, bAnd, bOr, bNot, kAnd, kOr, kNot, kIf, boolOf, kCall, cNil, cV, cMv, cPass, lend, back, resL, outs, endOf, srcAt, kSGet, kSLen, kInt, SF.get, SF.put, bl, nm, if_true, if_false, Bool.false_eq_true, Bool.not_true, Bool.not_false, p1, pLt, pEq_int, d1, d2, kApp, szOk2, hz, R.W_ok]
          exact ⟨.inl trivial, fs ++ [.drop c], S2, _, _, by rw [List.map_append]; rfl, g1, g2, g3, g4, hS2⟩
        · have d2 : decide ((r : Int) = 2) = false := decide_eq_false (by omega)
          simp only [run_mk, List.map_cons, List.map_nil, List.length_cons, List.length_nil, List.cons_append, List.nil_append, List.replicate_succ, List.replicate_zero, Nat.reduceAdd, Nat.reduceSub, List.getElem?_cons_zero, List.getElem?_cons_succ, List.set_cons_zero, List.set_cons_succ, R.bind_ok, sCons, sNil, sIf, sRet, retL, dropL, sSet, setL, sDrop, sUnp, sPar, lNil, lCons, kF, putL, gN, gT, gAll, kC, kX, kD, kG, kS, scl, k1, k2, L.get, L.take, T.toD, aNil, aCons, kTup, kLst, bVal, bAnd, bOr, bNot, kAnd, kOr, kNot, kIf, boolOf, kCall, cNil, cV, cMv, cPass, lend, back, resL, outs, endOf, srcAt, kSGet, kSLen, kInt, SF.get, SF.put, bl, nm, if_true, if_false, Bool.false_eq_true, Bool.not_true, Bool.not_false, p1, pLt, pEq_int, d1, d2, R.W_ok]
          exact ⟨.inl trivial, fs, S2, _, _, rfl, a2, a3, by omega, a5, hS2⟩)
  rw [List.length_map] at h
  exact h
theorem pop_perm {l : List Ac} {j : Nat} {x : Ac} (h : l[j]? = some x) : (x :: l.eraseIdx j).Perm l := by
  induction l generalizing j with
  | nil => simp at h
  | cons y l ih =>
    cases j with
    | zero => simp at h; subst h; exact List.Perm.refl _
    | succ j =>
      have := ih (j := j) (by simpa using h)
      rw [List.eraseIdx_cons_succ]
      exact (List.Perm.swap y x _).trans (this.cons y)
theorem map_eraseIdx {l : List Ac} {j : Nat} : (l.map Ac.enc).eraseIdx j = (l.eraseIdx j).map Ac.enc := by
  induction l generalizing j with
  | nil => rfl
  | cons y l ih =>
    cases j with
    | zero => rfl
    | succ j => rw [List.map_cons, List.eraseIdx_cons_succ, List.eraseIdx_cons_succ, List.map_cons, ih]
theorem lmixed_ok {l : List Ac} (hl : l.length ≤ 1000) (S : Src) (hS : Sok S) : ∃ (l' : List Ac) (S' : Src), D_u_law_mixed.run [.src S, .val (.list (l.map Ac.enc))] = .ok (.lst (l'.map Ac.enc), [.src S']) ∧ l'.Perm l ∧ Sok S' := by
  have hlen : (intR 0 l.length).length = l.length := by simp [intR]
  have h := comp_inv0 (g := gN 3) (f := kPopJ 2 (kCall (D_u_law_pick).run (cMv 0 (cV (k1 pLen (kX 2)) cNil)))) (own := [3]) (ds := intR 0 l.length) (s := [some (.src S), some (.val (.list (l.map Ac.enc))), some (.lst (l.map Ac.enc)), none])
    (fun i acc s => ∃ (la lr : List Ac) (S' : Src), acc = la.map Ac.enc ∧ s = [some (.src S'), some (.val (.list (l.map Ac.enc))), some (.lst (lr.map Ac.enc)), none] ∧ (la ++ lr).Perm l ∧ lr.length + i = l.length ∧ Sok S')
    ⟨[], l, S, rfl, rfl, List.Perm.refl _, rfl, hS⟩ (fun i x acc s hx ⟨la, lr, S1, a1, a2, a3, a4, a5⟩ => by
      have hi : i < l.length := by
        have := (List.getElem?_eq_some_iff.mp hx).1
        omega
      obtain ⟨j, S2, p1, p2, hS2⟩ := pickI (n := lr.length) (((lr.map Ac.enc).length : Nat) : Int) S1 (by rw [List.length_map]) a5 (by omega) (by omega)
      obtain ⟨y, hy⟩ : ∃ y, lr[j]? = some y := ⟨lr[j], List.getElem?_eq_getElem p2⟩
      have hy2 : (lr.map Ac.enc)[j]? = some y.enc := by rw [List.getElem?_map, hy]; rfl
      have hz : szOk (lr.map Ac.enc).length = true := szOk_of (by rw [List.length_map]; omega)
      have hj : (0 : Int) ≤ (j : Int) := Int.natCast_nonneg _
      have pl : pLen (.list (lr.map Ac.enc)) = .ok (.d (.int (((lr.map Ac.enc).length : Nat) : Int))) := rfl
      subst a1 a2
      simp only [run_mk, List.map_cons, List.map_nil, List.length_cons, List.length_nil, List.cons_append, List.nil_append, List.replicate_succ, List.replicate_zero, Nat.reduceAdd, Nat.reduceSub, List.getElem?_cons_zero, List.getElem?_cons_succ, List.set_cons_zero, List.set_cons_succ, R.bind_ok, sCons, sNil, sIf, sRet, retL, dropL, sSet, setL, sDrop, sUnp, sPar, lNil, lCons, kF, putL, gN, gT, gAll, kC, kX, kD, kG, kS, scl, k1, k2, L.get, L.take, T.toD, aNil, aCons, kTup, kLst, bVal, bAnd, bOr, bNot, kAnd, kOr, kNot, kIf, boolOf, kCall, cNil, cV, cMv, cPass, lend, back, resL, outs, endOf, srcAt, kSGet, kSLen, kInt, SF.get, SF.put, bl, nm, if_true, if_false, Bool.false_eq_true, Bool.not_true, Bool.not_false, wipeD, kPopJ, pl, p1, hj, hz, and_self, Int.toNat_natCast, hy2, map_eraseIdx, R.W_ok]
      refine ⟨la ++ [y], lr.eraseIdx j, S2, by rw [List.map_append]; rfl, rfl, ?_, ?_, hS2⟩
      · rw [List.append_assoc]
        exact (List.Perm.append_left la (pop_perm hy)).trans a3
      · rw [List.length_eraseIdx, if_pos p2]
        omega)
  rw [hlen] at h
  obtain ⟨⟨acc, s2⟩, e1, la, lr, S2, e2, e3, e4, e5, hS2⟩ := R.W_get h
  simp only at e2 e3
  subst e2 e3
  have hnil : lr = [] := List.eq_nil_of_length_eq_zero (by omega)
  subst hnil
  rw [List.append_nil] at e4
  refine ⟨la, S2, ?_, e4, hS2⟩
  have pl : pLen (.list (l.map Ac.enc)) = .ok (.d (.int (((l.map Ac.enc).length : Nat) : Int))) := rfl
  have px : pList (.list (l.map Ac.enc)) = .ok (.t (.lst (l.map Ac.enc))) := rfl
  have zn : (((l.map Ac.enc).length : Int) ≤ 16000000 ∧ -16000000 ≤ ((l.map Ac.enc).length : Int)) := by rw [List.length_map]; omega
  have hI : intR 0 (Int.toNat ((l.map Ac.enc).length : Int)) = intR 0 l.length := by rw [Int.toNat_natCast, List.length_map]
  have hz : szOk (la.map Ac.enc).length = true := szOk_of (by rw [List.length_map, e4.length_eq]; omega)
  simp only [run_mk, List.map_cons, List.map_nil, List.length_cons, List.length_nil, List.cons_append, List.nil_append, List.replicate_succ, List.replicate_zero, Nat.reduceAdd, Nat.reduceSub, List.getElem?_cons_zero, List.getElem?_cons_succ, List.set_cons_zero, List.set_cons_succ, R.bind_ok, sCons, sNil, sIf, sRet, retL, dropL, sSet, setL, sDrop, sUnp, sPar, lNil, lCons, kF, putL, gN, gT, gAll, kC, kX, kD, kG, kS, scl, k1, k2, L.get, L.take, T.toD, aNil, aCons, kTup, kLst, bVal, bAnd, bOr, bNot, kAnd, kOr, kNot, kIf, boolOf, kCall, cNil, cV, cMv, cPass, lend, back, resL, outs, endOf, srcAt, kSGet, kSLen, kInt, SF.get, SF.put, bl, nm, if_true, if_false, Bool.false_eq_true, Bool.not_true, Bool.not_false, D_u_law_mixed, px, kComp, iRg1, pl, zn, and_self, hI, e1, hz]
theorem GA.perm {bs ms : List Str} {l l' : List Ac} (h : GA bs ms l) (p : l'.Perm l) : GA bs ms l' :=
  ⟨fun a ha => h.wa a (p.mem_iff.mp ha), by rw [p.countP_eq]; exact h.tl, by rw [p.length_eq]; exact h.ln, fun m hm => h.go m (p.mem_iff.mp hm)⟩
theorem lacts_ok {ws bs ms : List Str} (hw : ∀ x ∈ ws, Sk x) (lw : ws.length ≤ 1000) (lb : bs.length ≤ 100) (hm : ∀ x ∈ ms, Sk x) (lm : ms.length ≤ 1000) (nm0 : ms ≠ []) (S : Src) (hS : Sok S) :
    ∃ (l : List Ac) (S' : Src), D_u_law_acts.run [.src S, .val (strsE ws), .val (strsE bs), .val (strsE ms)] = .ok (.val (.tuple (l.map Ac.enc)), [.src S']) ∧ GA bs ms l ∧ Sok S' := by
  obtain ⟨d, S1, o1, o2, hS1⟩ := of_ok S [.int 0, .int 0, .int 1, .int 1, .int 2, .int 3] hS (by simp) (by simp)
  obtain ⟨n, hn, rfl⟩ : ∃ n : Nat, n ≤ 3 ∧ d = .int n := by
    simp only [List.mem_cons, List.not_mem_nil, or_false] at o2
    rcases o2 with rfl | rfl | rfl | rfl | rfl | rfl
    · exact ⟨0, by omega, rfl⟩
    · exact ⟨0, by omega, rfl⟩
    · exact ⟨1, by omega, rfl⟩
    · exact ⟨1, by omega, rfl⟩
    · exact ⟨2, by omega, rfl⟩
    · exact ⟨3, by omega, rfl⟩
  obtain ⟨q1, c1, ts, S2, c2, c3, c4, c5, hS2⟩ := R.W_get (la_tells (n := n) (bs := bs) (ms := ms) hS1 hw lw (by omega))
  obtain ⟨l1, s1⟩ := q1
  simp only at c2 c3
  subst c2 c3
  obtain ⟨q2, f1, f2, fs, S3, t5, t6, f3, f4, f5, f6, f7, hS3⟩ := R.W_get (la_boxes (bs := bs) (ms := ms) hS2 hw lw (by omega) (by omega) c5 rfl)
  obtain ⟨l2, s2⟩ := q2
  simp only at f2 f3
  subst f2 f3
  obtain ⟨r, S4, p1, p2, hS4⟩ := pickI (n := 2) 2 S3 rfl hS3 (by decide) (by decide)
  have z6 : szOk 6 = true := by decide
  have zn : ((n : Int) ≤ 16000000 ∧ -16000000 ≤ (n : Int)) := ⟨by omega, by omega⟩
  have zt : szOk (ts.map (fun t => (Ac.tell t).enc)).length = true := szOk_of (by rw [List.length_map]; omega)
  have hx : pList (strsE ms) = .ok (.t (.lst (ms.map PyData.str))) := rfl
  have hq : seqOf (strsE bs) = .ok (bs.map PyData.str) := rfl
  have pt : ∀ x : List Ac, pTuple (.list (x.map Ac.enc)) = .ok (.d (.tuple (x.map Ac.enc))) := fun _ => rfl
  by_cases hr0 : r = 0
  · have d0 : decide ((r : Int) = 0) = true := decide_eq_true (by omega)
    obtain ⟨dm, S5, m1, m2, hS5⟩ := of_ok S4 (ms.map PyData.str) hS4 (by rw [List.length_map]; exact List.length_pos_iff.mpr nm0) (by rw [List.length_map]; omega)
    obtain ⟨m, hmm, rfl⟩ := List.mem_map.mp m2
    have g : GA bs ms (fs ++ [.go m]) := by
      refine ⟨fun a ha => ?_, ?_, by rw [List.length_append, List.length_singleton]; omega, fun z hz => ?_⟩
      · rcases List.mem_append.mp ha with h | h
        · exact f4 a h
        · simp at h; subst h; exact hm m hmm
      · rw [List.countP_append, List.countP_cons, List.countP_nil]
        simpa [isTell] using f5
      · rcases List.mem_append.mp hz with h | h
        · exact absurd h (f7 z)
        · simp at h; exact h ▸ hmm
    obtain ⟨l', S6, x1, x2, hS6⟩ := lmixed_ok (l := fs ++ [.go m]) (by have := g.ln; omega) S5 hS5
    have hz : szOk ((fs.map Ac.enc).length + 1) = true := szOk_of (by rw [List.length_map]; omega)
    have xx : D_u_law_mixed.run [.src S5, .val (.list (fs.map Ac.enc ++ [.tuple [.str "go", .str m]]))] = .ok (.lst (l'.map Ac.enc), [.src S6]) := by
      rw [List.map_append] at x1
      exact x1
    refine ⟨l', S6, ?_, g.perm x2, hS6⟩
    simp only [run_mk, List.map_cons, List.map_nil, List.length_cons, List.length_nil, List.cons_append, List.nil_append, List.replicate_succ, List.replicate_zero, Nat.reduceAdd, Nat.reduceSub, List.getElem?_cons_zero, List.getElem?_cons_succ, List.set_cons_zero, List.set_cons_succ, R.bind_ok, sCons, sNil, sIf, sRet, retL, dropL, sSet, setL, sDrop, sUnp, sPar, lNil, lCons, kF, putL, gN, gT, gAll, kC, kX, kD, kG, kS, scl, k1, k2, L.get, L.take, T.toD, aNil, aCons, kTup, kLst, bVal, bAnd, bOr, bNot, kAnd, kOr, kNot, kIf, boolOf, kCall, cNil, cV, cMv, cPass, lend, back, resL, outs, endOf, srcAt, kSGet, kSLen, kInt, SF.get, SF.put, bl, nm, if_true, if_false, Bool.false_eq_true, Bool.not_true, Bool.not_false, D_u_law_acts, kComp, iRg1, z6, o1, zn, and_self, Int.toNat_natCast, c1, zt, sFor, iSeq, hq, f1, p1, pEq_int, d0, kApp, hx, m1, szOk2, hz, xx, pt]
  · have d0 : decide ((r : Int) = 0) = false := decide_eq_false (by omega)
    have g : GA bs ms fs := ⟨f4, f5, by omega, fun m h => absurd h (f7 m)⟩
    obtain ⟨l', S6, x1, x2, hS6⟩ := lmixed_ok (l := fs) (by have := g.ln; omega) S4 hS4
    refine ⟨l', S6, ?_, g.perm x2, hS6⟩
    simp only [run_mk, List.map_cons, List.map_nil, List.length_cons, List.length_nil, List.cons_append, List.nil_append, List.replicate_succ, List.replicate_zero, Nat.reduceAdd, Nat.reduceSub, List.getElem?_cons_zero, List.getElem?_cons_succ, List.set_cons_zero, List.set_cons_succ, R.bind_ok, sCons, sNil, sIf, sRet, retL, dropL, sSet, setL, sDrop, sUnp, sPar, lNil, lCons, kF, putL, gN, gT, gAll, kC, kX, kD, kG, kS, scl, k1, k2, L.get, L.take, T.toD, aNil, aCons, kTup, kLst, bVal, bAnd, bOr, bNot, kAnd, kOr, kNot, kIf, boolOf, kCall, cNil, cV, cMv, cPass, lend, back, resL, outs, endOf, srcAt, kSGet, kSLen, kInt, SF.get, SF.put, bl, nm, if_true, if_false, Bool.false_eq_true, Bool.not_true, Bool.not_false, D_u_law_acts, kComp, iRg1, z6, o1, zn, and_self, Int.toNat_natCast, c1, zt, sFor, iSeq, hq, f1, p1, pEq_int, d0, x1, pt]
end K07

set_option Elab.async false
set_option linter.all false
set_option maxRecDepth 100000
set_option maxHeartbeats 4000000
set_option pp.maxSteps 600
namespace K07
open PySem KV
structure GR (bs ms : List Str) (r : Cd × List Ac) : Prop where
  wc : WC bs r.1
  hg : r.1.hgt ≤ 2
  sz : r.1.sz ≤ 7
  ac : GA bs ms r.2
structure GP (p : Pg) : Prop where
  bok : ∀ b ∈ p.boxes, Sk b
  mok : ∀ x ∈ p.modes, Sk x.name
  lb : p.boxes.length ≤ 3
  nd : p.boxes.Nodup
  mn : (p.modes.map Md.name).Nodup
  lm : p.modes.length ≤ 3
  ne : p.modes ≠ []
  rls : ∀ x ∈ p.modes, x.rules.length ≤ 3 ∧ ∀ r ∈ x.rules, GR p.boxes (p.modes.map Md.name) r
abbrev lpB : SV := (sCons (sDrop (kApp 9 (kTup (aCons (kCall (D_u_law_condition 3).run (cMv 0 (cV (kX 1) (cV (kX 5) (cV (kC (.int 2)) cNil))))) (aCons (kCall (D_u_law_acts).run (cMv 0 (cV (kX 1) (cV (kX 5) (cV (kX 6) cNil))))) aNil)))))
    sNil)
def lpS (S : Src) (ws bs ms : List Str) (v2 v3 v4 : Option T) (found : List D) (v8 v9 v10 : Option T) : Sl :=
  [some (.src S), some (.val (strsE ws)), v2, v3, v4, some (.val (strsE bs)), some (.val (strsE ms)), some (.lst found), v8, v9, v10]
theorem lp_rules {S : Src} {ws bs ms : List Str} {v2 v3 v4 v8 v10 : Option T} {found : List D} {n : Nat} (hn : n ≤ 3) (hS : Sok S) (hw : ∀ x ∈ ws, Sk x) (hb : ∀ x ∈ bs, Sk x) (lw : ws.length ≤ 1000) (lb : bs.length ≤ 100) (hm : ∀ x ∈ ms, Sk x) (lm : ms.length ≤ 1000) (nm0 : ms ≠ []) :
    (forD (gN 10) lpB (intR 0 n) (lpS S ws bs ms v2 v3 v4 found v8 (some (.lst [])) v10)).W fun r => r.1 = .nx ∧ ∃ (rs : List (Cd × List Ac)) (S' : Src) (t : Option T), r.2 = lpS S' ws bs ms v2 v3 v4 found v8 (some (.lst (rs.map ruleE))) t ∧ rs.length = n ∧ (∀ r ∈ rs, GR bs ms r) ∧ Sok S' := by
  have hl : (intR 0 n).length = n := by simp [intR]
  have h := for_inv (g := gN 10) (b := lpB) (ds := intR 0 n) (s := lpS S ws bs ms v2 v3 v4 found v8 (some (.lst [])) v10)
    (fun i s => ∃ (rs : List (Cd × List Ac)) (S' : Src) (t : Option T), s = lpS S' ws bs ms v2 v3 v4 found v8 (some (.lst (rs.map ruleE))) t ∧ rs.length = i ∧ (∀ r ∈ rs, GR bs ms r) ∧ Sok S')
    ⟨[], S, v10, rfl, rfl, by simp, hS⟩ (fun i x s hx ⟨rs, S1, t, a1, a2, a3, a4⟩ => by
      have hi : i < n := by
        have := (List.getElem?_eq_some_iff.mp hx).1
        omega
      subst a1
      obtain ⟨c, S2, c1, c2, c3, c4, hS2⟩ := lcond_ok hw hb lw (by omega) S1 a4
      obtain ⟨l, S3, l1, l2, hS3⟩ := lacts_ok hw lw lb hm lm nm0 S2 hS2
      have hz : szOk ((rs.map ruleE).length + 1) = true := szOk_of (by rw [List.length_map]; omega)
      simp only [run_mk, List.map_cons, List.map_nil, List.length_cons, List.length_nil, List.cons_append, List.nil_append, List.replicate_succ, List.replicate_zero, Nat.reduceAdd, Nat.reduceSub, List.getElem?_cons_zero, List.getElem?_cons_succ, List.set_cons_zero, List.set_cons_succ, R.bind_ok, sCons, sNil, sIf, sRet, retL, dropL, sSet, setL, sDrop, sUnp, sPar, lNil, lCons, kF, putL, gN, gT, gAll, kC, kX, kD, kG, kS, scl, k1, k2, L.get, L.take, T.toD, aNil, aCons, kTup, kLst, bVal, bAnd, bOr, bNot, kAnd, kOr, kNot, kIf, boolOf, kCall, cNil, cV, cMv, cPass, lend, back, resL, outs, endOf, srcAt, kSGet, kSLen, kInt, SF.get, SF.put, bl, nm, if_true, if_false, Bool.false_eq_true, Bool.not_true, Bool.not_false, lpS, lpB, c1, l1, kApp, szOk2, hz, R.W_ok]
      refine ⟨.inl trivial, rs ++ [(c, l)], S3, _, by rw [List.map_append]; rfl, by simp [a2], fun u hu => ?_, hS3⟩
      rcases List.mem_append.mp hu with h | h
      · exact a3 u h
      · simp at h; subst h; exact ⟨c2, c3, c4, l2⟩)
  rw [hl] at h
  exact h
abbrev lpB2 : SV := (sCons (sSet 9 (kLst aNil))
    (sCons (sFor (iRg1 (kCall (D_u_law_pick).run (cMv 0 (cV (kC (.int 4)) cNil)))) (gN 10) lpB)
    (sCons (sDrop (kApp 7 (kTup (aCons (kX 8) (aCons (k2 pEq (kCall (D_u_law_pick).run (cMv 0 (cV (kC (.int 2)) cNil))) (kC (.int 0))) (aCons (k1 pTuple (kX 9)) aNil))))))
    sNil)))
theorem lp_modes {S : Src} {ws bs ms : List Str} {v2 v3 v4 v8 v9 v10 : Option T} (hS : Sok S) (hw : ∀ x ∈ ws, Sk x) (hb : ∀ x ∈ bs, Sk x) (lw : ws.length ≤ 1000) (lb : bs.length ≤ 100) (hm : ∀ x ∈ ms, Sk x) (lm : ms.length ≤ 1000) (nm0 : ms ≠ []) :
    (forD (gN 8) lpB2 (ms.map PyData.str) (lpS S ws bs ms v2 v3 v4 [] v8 v9 v10)).W fun r => r.1 = .nx ∧ ∃ (mds : List Md) (S' : Src) (t8 t9 t10 : Option T), r.2 = lpS S' ws bs ms v2 v3 v4 (mds.map Md.enc) t8 t9 t10 ∧ mds.map Md.name = ms ∧ (∀ x ∈ mds, x.rules.length ≤ 3 ∧ ∀ r ∈ x.rules, GR bs ms r) ∧ Sok S' := by
  have h := for_inv (g := gN 8) (b := lpB2) (ds := ms.map PyData.str) (s := lpS S ws bs ms v2 v3 v4 [] v8 v9 v10)
    (fun i s => ∃ (mds : List Md) (S' : Src) (t8 t9 t10 : Option T), s = lpS S' ws bs ms v2 v3 v4 (mds.map Md.enc) t8 t9 t10 ∧ mds.map Md.name = ms.take i ∧ (∀ x ∈ mds, x.rules.length ≤ 3 ∧ ∀ r ∈ x.rules, GR bs ms r) ∧ Sok S')
    ⟨[], S, v8, v9, v10, rfl, rfl, by simp, hS⟩ (fun i x s hx ⟨mds, S1, t8, t9, t10, a1, a2, a3, a4⟩ => by
      rw [List.getElem?_map] at hx
      obtain ⟨m, hm1, rfl⟩ := Option.map_eq_some_iff.mp hx
      subst a1
      have hi : i < ms.length := (List.getElem?_eq_some_iff.mp hm1).1
      obtain ⟨n, S2, o1, hn', hS2⟩ := pickI (n := 4) 4 S1 rfl a4 (by decide) (by decide)
      have hn : n ≤ 3 := by omega
      obtain ⟨⟨fl, s2⟩, e1, e2, rs, S3, t, e3, e4, e5, hS3⟩ := R.W_get (lp_rules (v2 := v2) (v3 := v3) (v4 := v4) (v8 := some (.val (.str m))) (v10 := t10) (found := mds.map Md.enc) hn hS2 hw hb lw lb hm lm nm0)
      simp only at e2 e3
      subst e2 e3
      obtain ⟨r, S4, p1, p2, hS4⟩ := pickI (n := 2) 2 S3 rfl hS3 (by decide) (by decide)
      have hz : szOk ((mds.map Md.enc).length + 1) = true := szOk_of (by
        have : mds.length = (ms.take i).length := by rw [← a2, List.length_map]
        rw [List.length_map, this, List.length_take]; omega)
      have zn : ((n : Int) ≤ 16000000 ∧ -16000000 ≤ (n : Int)) := ⟨by omega, by omega⟩
      simp only [lpS] at e1
      simp only [run_mk, List.map_cons, List.map_nil, List.length_cons, List.length_nil, List.cons_append, List.nil_append, List.replicate_succ, List.replicate_zero, Nat.reduceAdd, Nat.reduceSub, List.getElem?_cons_zero, List.getElem?_cons_succ, List.set_cons_zero, List.set_cons_succ, R.bind_ok, sCons, sNil, sIf, sRet, retL, dropL, sSet, setL, sDrop, sUnp, sPar, lNil, lCons, kF, putL, gN, gT, gAll, kC, kX, kD, kG, kS, scl, k1, k2, L.get, L.take, T.toD, aNil, aCons, kTup, kLst, bVal, bAnd, bOr, bNot, kAnd, kOr, kNot, kIf, boolOf, kCall, cNil, cV, cMv, cPass, lend, back, resL, outs, endOf, srcAt, kSGet, kSLen, kInt, SF.get, SF.put, bl, nm, if_true, if_false, Bool.false_eq_true, Bool.not_true, Bool.not_false, lpS, lpB2, sFor, iRg1, szOk0, o1, zn, and_self, Int.toNat_natCast, e1, p1, pEq_int, pTuple, kApp, szOk3, hz, R.W_ok]
      refine ⟨.inl trivial, mds ++ [⟨m, decide ((r : Int) = 0), rs⟩], S4, _, _, _, by rw [List.map_append]; rfl, ?_, fun u hu => ?_, hS4⟩
      · rw [List.map_append, a2, List.take_succ, hm1]
        rfl
      · rcases List.mem_append.mp hu with h | h
        · exact a3 u h
        · simp at h; subst h; exact ⟨by simp only; omega, e5⟩)
  rw [List.length_map, List.take_length] at h
  exact h
theorem sk_x : Sk "x" := ⟨by kernel_rfl, Nat.le_of_ble_eq_true (by kernel_rfl)⟩
theorem sk_y : Sk "y" := ⟨by kernel_rfl, Nat.le_of_ble_eq_true (by kernel_rfl)⟩
theorem sk_m : Sk "m" := ⟨by kernel_rfl, Nat.le_of_ble_eq_true (by kernel_rfl)⟩
theorem sk_n : Sk "n" := ⟨by kernel_rfl, Nat.le_of_ble_eq_true (by kernel_rfl)⟩
theorem sk_z : Sk "z" := ⟨by kernel_rfl, Nat.le_of_ble_eq_true (by kernel_rfl)⟩
theorem sk_o : Sk "o" := ⟨by kernel_rfl, Nat.le_of_ble_eq_true (by kernel_rfl)⟩
theorem boxes_cut {r : Nat} (h : r < 4) : ∃ bs : List Str, pSl none (some (r : Int)) (.tuple [.str "x", .str "y", .str "z"]) = .ok (.d (strsE bs)) ∧ (∀ b ∈ bs, Sk b) ∧ bs.length ≤ 3 ∧ bs.Nodup := by
  have : r = 0 ∨ r = 1 ∨ r = 2 ∨ r = 3 := by omega
  rcases this with rfl | rfl | rfl | rfl
  · exact ⟨[], rfl, by simp, by simp, by simp⟩
  · exact ⟨["x"], rfl, by simp [sk_x], by simp, by simp⟩
  · exact ⟨["x", "y"], rfl, by simp [sk_x, sk_y], by simp, by decide⟩
  · exact ⟨["x", "y", "z"], rfl, by simp [sk_x, sk_y, sk_z], by simp, by decide⟩
theorem modes_cut {r : Nat} (h : r < 3) : ∃ bs : List Str, pSl none (some (1 + (r : Int))) (.tuple [.str "m", .str "n", .str "o", .str "p"]) = .ok (.d (strsE bs)) ∧ (∀ b ∈ bs, Sk b) ∧ bs.length ≤ 3 ∧ bs ≠ [] ∧ bs.Nodup := by
  have : r = 0 ∨ r = 1 ∨ r = 2 := by omega
  rcases this with rfl | rfl | rfl
  · exact ⟨["m"], rfl, by simp [sk_m], by simp, by simp, by simp⟩
  · exact ⟨["m", "n"], rfl, by simp [sk_m, sk_n], by simp, by simp, by decide⟩
  · exact ⟨["m", "n", "o"], rfl, by simp [sk_m, sk_n, sk_o], by simp, by simp, by decide⟩
theorem lprog_draw {ws : List Str} {na : Str} (hw : ∀ x ∈ ws, Sk x) (lw : ws.length ≤ 1000) (S : Src) (hS : Sok S) :
    ∃ (p : Pg) (S' : Src), D_u_law_program.run [.src S, .val (strsE ws), .val (.str na), .val (.int 3), .val (.int 3)] = .ok (.val p.enc, [.src S']) ∧ p.name = na ∧ GP p ∧ Sok S' := by
  obtain ⟨r, S1, p1, p2, hS1⟩ := pickI (n := 4) (3 + 1) S rfl hS (by decide) (by decide)
  obtain ⟨q, S2, q1, q2, hS2⟩ := pickI (n := 3) 3 S1 rfl hS1 (by decide) (by decide)
  obtain ⟨bs, b1, b2, b3, b4⟩ := boxes_cut p2
  obtain ⟨ms, m1, m2, m3, m4, m5⟩ := modes_cut q2
  obtain ⟨⟨fl, s2⟩, e1, e2, mds, S3, t8, t9, t10, e3, e4, e5, hS3⟩ := R.W_get (lp_modes (v2 := some (.val (.str na))) (v3 := some (.val (.int 3))) (v4 := some (.val (.int 3))) (v8 := none) (v9 := none) (v10 := none) hS2 hw b2 lw (by omega) m2 (by omega) m4)
  simp only at e2 e3
  subst e2 e3
  refine ⟨⟨na, bs, mds⟩, S3, ?_, rfl, ⟨b2, fun x hx => m2 _ (e4 ▸ List.mem_map_of_mem hx), b3, b4, e4.symm ▸ m5, ?_, fun h => ?_, fun x hx => ?_⟩, hS3⟩
  · simp only [lpS, lpB2, lpB] at e1
    have hq : seqOf (strsE ms) = .ok (ms.map PyData.str) := rfl
    simp only [run_mk, List.map_cons, List.map_nil, List.length_cons, List.length_nil, List.cons_append, List.nil_append, List.replicate_succ, List.replicate_zero, Nat.reduceAdd, Nat.reduceSub, List.getElem?_cons_zero, List.getElem?_cons_succ, List.set_cons_zero, List.set_cons_succ, R.bind_ok, sCons, sNil, sIf, sRet, retL, dropL, sSet, setL, sDrop, sUnp, sPar, lNil, lCons, kF, putL, gN, gT, gAll, kC, kX, kD, kG, kS, scl, k1, k2, L.get, L.take, T.toD, aNil, aCons, kTup, kLst, bVal, bAnd, bOr, bNot, kAnd, kOr, kNot, kIf, boolOf, kCall, cNil, cV, cMv, cPass, lend, back, resL, outs, endOf, srcAt, kSGet, kSLen, kInt, SF.get, SF.put, bl, nm, if_true, if_false, Bool.false_eq_true, Bool.not_true, Bool.not_false, D_u_law_program, kSl, partOf, pAdd, p1, q1, b1, m1, szOk0, szOk3, szOk4, sFor, iSeq, hq, e1, pTuple, Pg.enc]
  · have : mds.length = ms.length := by rw [← e4, List.length_map]
    simp only
    omega
  · simp only at h
    rw [h] at e4
    exact m4 e4.symm
  · simp only at hx ⊢
    rw [e4]
    exact e5 x hx
end K07

set_option Elab.async false
set_option linter.all false
set_option maxRecDepth 100000
set_option maxHeartbeats 4000000
set_option pp.maxSteps 600
namespace K07
open PySem KV
theorem sk_of (x : String) (h : PyData.strOk (Str.ofString x) = true) (h2 : Nat.ble (Str.ofString x).cps.size 20 = true) : Sk (Str.ofString x) := ⟨h, Nat.le_of_ble_eq_true h2⟩
theorem sk_a : Sk "a" := ⟨by kernel_rfl, Nat.le_of_ble_eq_true (by kernel_rfl)⟩
theorem sk_b : Sk "b" := ⟨by kernel_rfl, Nat.le_of_ble_eq_true (by kernel_rfl)⟩
theorem sk_c : Sk "c" := ⟨by kernel_rfl, Nat.le_of_ble_eq_true (by kernel_rfl)⟩
theorem sk_itS : Sk "it" := ⟨by kernel_rfl, Nat.le_of_ble_eq_true (by kernel_rfl)⟩
theorem sk_7 : Sk "7" := ⟨by kernel_rfl, Nat.le_of_ble_eq_true (by kernel_rfl)⟩
def rowXs (ws : List Str) : List Str := "a" :: "a" :: "b" :: "b" :: "c" :: "it" :: "7" :: ws
theorem rowXs_sk {ws : List Str} (hw : ∀ x ∈ ws, Sk x) : ∀ x ∈ rowXs ws, Sk x := fun x hx => by
  simp only [rowXs, List.mem_cons] at hx
  rcases hx with rfl | rfl | rfl | rfl | rfl | rfl | rfl | h
  · exact sk_a
  · exact sk_a
  · exact sk_b
  · exact sk_b
  · exact sk_c
  · exact sk_itS
  · exact sk_7
  · exact hw x h
theorem lrow_for {ws : List Str} {v2 t3 : Option T} {S : Src} {n : Nat} (hw : ∀ x ∈ ws, Sk x) (lw : ws.length ≤ 1000) (hS : Sok S) (h3 : t3 = some (.lst ((rowXs ws).map PyData.str)) ∨ t3 = some (.val (.list ((rowXs ws).map PyData.str)))) :
    (compD (gN 4) none (kCall (D_u_law_of).run (cMv 0 (cV (kX 3) cNil))) [4] (intR 0 n) [some (.src S), some (.val (strsE ws)), v2, t3, none]).W fun r =>
      ∃ (row : List Str) (S' : Src) (t : Option T), r.1 = row.map PyData.str ∧ r.2 = [some (.src S'), some (.val (strsE ws)), v2, t, none] ∧ row.length = n ∧ (∀ x ∈ row, Sk x) ∧ Sok S' := by
  have hl : (intR 0 n).length = n := by simp [intR]
  have h := comp_inv0 (g := gN 4) (f := kCall (D_u_law_of).run (cMv 0 (cV (kX 3) cNil))) (own := [4]) (ds := intR 0 n) (s := [some (.src S), some (.val (strsE ws)), v2, t3, none])
    (fun i acc s => ∃ (row : List Str) (S' : Src) (t : Option T), acc = row.map PyData.str ∧ s = [some (.src S'), some (.val (strsE ws)), v2, t, none] ∧ (t = some (.lst ((rowXs ws).map PyData.str)) ∨ t = some (.val (.list ((rowXs ws).map PyData.str)))) ∧ row.length = i ∧ (∀ x ∈ row, Sk x) ∧ Sok S')
    ⟨[], S, t3, rfl, rfl, h3, rfl, by simp, hS⟩ (fun i x acc s hx ⟨row, S1, t, a1, a2, a3, a4, a5, a6⟩ => by
      obtain ⟨d, S2, o1, o2, hS2⟩ := of_ok S1 ((rowXs ws).map PyData.str) a6 (by simp [rowXs]) (by simp [rowXs]; omega)
      obtain ⟨y, hy, rfl⟩ := List.mem_map.mp o2
      subst a1 a2
      have grow : (∀ x ∈ row ++ [y], Sk x) := fun z hz => by
        rcases List.mem_append.mp hz with h | h
        · exact a5 z h
        · simp at h; exact h ▸ rowXs_sk hw y hy
      rcases a3 with rfl | rfl
      · simp only [run_mk, List.map_cons, List.map_nil, List.length_cons, List.length_nil, List.cons_append, List.nil_append, List.replicate_succ, List.replicate_zero, Nat.reduceAdd, Nat.reduceSub, List.getElem?_cons_zero, List.getElem?_cons_succ, List.set_cons_zero, List.set_cons_succ, R.bind_ok, sCons, sNil, sIf, sRet, retL, dropL, sSet, setL, sDrop, sUnp, sPar, lNil, lCons, kF, putL, gN, gT, gAll, kC, kX, kD, kG, kS, scl, k1, k2, L.get, L.take, T.toD, aNil, aCons, kTup, kLst, bVal, bAnd, bOr, bNot, kAnd, kOr, kNot, kIf, boolOf, kCall, cNil, cV, cMv, cPass, lend, back, resL, outs, endOf, srcAt, kSGet, kSLen, kInt, SF.get, SF.put, bl, nm, if_true, if_false, Bool.false_eq_true, Bool.not_true, Bool.not_false, wipeD, o1, R.W_ok]
        exact ⟨row ++ [y], S2, _, by simp, rfl, .inr rfl, by simp [a4], grow, hS2⟩
      · simp only [run_mk, List.map_cons, List.map_nil, List.length_cons, List.length_nil, List.cons_append, List.nil_append, List.replicate_succ, List.replicate_zero, Nat.reduceAdd, Nat.reduceSub, List.getElem?_cons_zero, List.getElem?_cons_succ, List.set_cons_zero, List.set_cons_succ, R.bind_ok, sCons, sNil, sIf, sRet, retL, dropL, sSet, setL, sDrop, sUnp, sPar, lNil, lCons, kF, putL, gN, gT, gAll, kC, kX, kD, kG, kS, scl, k1, k2, L.get, L.take, T.toD, aNil, aCons, kTup, kLst, bVal, bAnd, bOr, bNot, kAnd, kOr, kNot, kIf, boolOf, kCall, cNil, cV, cMv, cPass, lend, back, resL, outs, endOf, srcAt, kSGet, kSLen, kInt, SF.get, SF.put, bl, nm, if_true, if_false, Bool.false_eq_true, Bool.not_true, Bool.not_false, wipeD, o1, R.W_ok]
        exact ⟨row ++ [y], S2, _, by simp, rfl, .inr rfl, by simp [a4], grow, hS2⟩)
  rw [hl] at h
  exact R.W_mono h fun r ⟨row, S', t, a1, a2, a3, a4, a5, a6⟩ => ⟨row, S', t, a1, a2, a4, a5, a6⟩
theorem lrow_draw {ws : List Str} (hw : ∀ x ∈ ws, Sk x) (lw : ws.length ≤ 1000) {n : Nat} {i : Int} (hi : i = n) (hn : n ≤ 1000) (S : Src) (hS : Sok S) :
    ∃ (row : List Str) (S' : Src), D_u_law_row.run [.src S, .val (strsE ws), .val (.int i)] = .ok (.val (strsE row), [.src S']) ∧ (∀ x ∈ row, Sk x) ∧ row.length = n ∧ Sok S' := by
  subst hi
  obtain ⟨⟨l, s2⟩, e1, row, S2, t, e2, e3, e4, e5, hS2⟩ := R.W_get (lrow_for (v2 := some (.val (.int (n : Int)))) (S := S) (n := n) hw lw hS (.inl rfl))
  simp only at e2 e3
  subst e2 e3
  have hx : pList (strsE ws) = .ok (.t (.lst (ws.map PyData.str))) := rfl
  have z5 : szOk 7 = true := by decide
  have z6 : szOk (7 + (ws.map PyData.str).length) = true := szOk_of (by rw [List.length_map]; omega)
  have zn : ((n : Int) ≤ 16000000 ∧ -16000000 ≤ (n : Int)) := ⟨by omega, by omega⟩
  have z7 : szOk (row.map PyData.str).length = true := szOk_of (by rw [List.length_map]; omega)
  refine ⟨row, S2, ?_, e5, e4, hS2⟩
  simp only [rowXs, List.cons_append, List.nil_append, List.map_cons] at e1
  simp only [run_mk, List.map_cons, List.map_nil, List.length_cons, List.length_nil, List.cons_append, List.nil_append, List.replicate_succ, List.replicate_zero, Nat.reduceAdd, Nat.reduceSub, List.getElem?_cons_zero, List.getElem?_cons_succ, List.set_cons_zero, List.set_cons_succ, R.bind_ok, sCons, sNil, sIf, sRet, retL, dropL, sSet, setL, sDrop, sUnp, sPar, lNil, lCons, kF, putL, gN, gT, gAll, kC, kX, kD, kG, kS, scl, k1, k2, L.get, L.take, T.toD, aNil, aCons, kTup, kLst, bVal, bAnd, bOr, bNot, kAnd, kOr, kNot, kIf, boolOf, kCall, cNil, cV, cMv, cPass, lend, back, resL, outs, endOf, srcAt, kSGet, kSLen, kInt, SF.get, SF.put, bl, nm, if_true, if_false, Bool.false_eq_true, Bool.not_true, Bool.not_false, D_u_law_row, kComp, iRg1, z5, hx, pAdd, z6, zn, and_self, Int.toNat_natCast, e1, z7, pTuple]
  rfl
theorem GP.wq {p : Pg} (h : GP p) : WQ p where
  bok := h.bok
  mok := h.mok
  few := Nat.le_trans h.lm (by omega)
  fewB := Nat.le_trans h.lb (by omega)
  rls := fun x hx => ⟨Nat.le_trans (h.rls x hx).1 (by omega), fun r hr => ⟨((h.rls x hx).2 r hr).wc, Nat.le_trans ((h.rls x hx).2 r hr).hg (by omega), Nat.le_trans ((h.rls x hx).2 r hr).sz (by omega)⟩⟩
  acts := fun x hx r hr => ⟨Nat.le_trans ((h.rls x hx).2 r hr).ac.ln (by have := h.lb; omega), ((h.rls x hx).2 r hr).ac.wa⟩
  gos := fun x hx r hr m hm => by
    obtain ⟨md, h1, h2⟩ := List.mem_map.mp (((h.rls x hx).2 r hr).ac.go m hm)
    cases e : p.modes.find? (fun y => decide (y.name = m)) with
    | some z => exact ⟨z, rfl⟩
    | none =>
      have := List.find?_eq_none.mp e md h1
      simp [h2] at this
  tells := fun x hx r hr => ((h.rls x hx).2 r hr).ac.tl
  ne := h.ne
  low := fun x hx r hr => Nat.lt_of_le_of_lt ((h.rls x hx).2 r hr).hg (by omega)
  nd := h.nd
theorem GP.fit {p : Pg} (h : GP p) (hk : Sk p.name) : fit 9 294568 p.enc := by
  have str : ∀ {x : Str} {n m : Nat}, Sk x → 20 ≤ m → KV.fit n m (.str x) := fun hx hm => fit_str hx.1 (Nat.le_trans hx.2 hm)
  have hr : ∀ x ∈ p.modes, ∀ r ∈ x.rules, KV.fit 5 2726 (ruleE r) := fun x hx r hr => by
    have g := (h.rls x hx).2 r hr
    have f1 : KV.fit 4 1362 r.1.enc := (fit_cd h.bok g.wc).mono (by have := g.hg; omega) (Nat.le_trans (Wt_mono g.hg) (by decide))
    have f2 : KV.fit 4 1362 (.tuple (r.2.map Ac.enc)) := (fit_tup (n := 2) (m := 129) (k := 7) (fun d hd => by
      obtain ⟨a, ha, rfl⟩ := List.mem_map.mp hd
      exact fit_ac h.bok (g.ac.wa a ha)) (by have := g.ac.ln; have := h.lb; rw [List.length_map]; omega)).mono (by omega) (by omega)
    exact (fit_tup (n := 4) (m := 1362) (k := 2) (fun d hd => by
      simp only [List.mem_cons, List.not_mem_nil, or_false] at hd
      rcases hd with rfl | rfl
      · exact f1
      · exact f2) (by simp)).mono (Nat.le_refl _) (by omega)
  have hm : ∀ x ∈ p.modes, KV.fit 7 24546 x.enc := fun x hx => by
    have f1 : KV.fit 6 8181 (.tuple (x.rules.map ruleE)) := (fit_tup (n := 5) (m := 2726) (k := 3) (fun d hd => by
      obtain ⟨r, hr1, rfl⟩ := List.mem_map.mp hd
      exact hr x hx r hr1) (by rw [List.length_map]; exact (h.rls x hx).1)).mono (Nat.le_refl _) (by omega)
    exact (fit_tup (n := 6) (m := 8181) (k := 3) (fun d hd => by
      simp only [List.mem_cons, List.not_mem_nil, or_false] at hd
      rcases hd with rfl | rfl | rfl
      · exact str (h.mok x hx) (by omega)
      · exact fit_bool
      · exact f1) (by simp)).mono (Nat.le_refl _) (by omega)
  have f1 : KV.fit 8 73641 (.tuple (p.modes.map Md.enc)) := (fit_tup (n := 7) (m := 24546) (k := 3) (fun d hd => by
    obtain ⟨r, hr1, rfl⟩ := List.mem_map.mp hd
    exact hm r hr1) (by rw [List.length_map]; exact h.lm)).mono (Nat.le_refl _) (by omega)
  have f2 : KV.fit 8 73641 (strsE p.boxes) := (fit_tup (n := 0) (m := 20) (k := 3) (fit_strs h.bok) (by rw [List.length_map]; exact h.lb)).mono (by omega) (by omega)
  exact (fit_tup (n := 8) (m := 73641) (k := 4) (fun d hd => by
    simp only [List.mem_cons, List.not_mem_nil, or_false] at hd
    rcases hd with rfl | rfl | rfl | rfl
    · exact fit_lit "program" (by simp) (by omega)
    · exact str hk (by omega)
    · exact f2
    · exact f1) (by simp)).mono (Nat.le_refl _) (by omega)
end K07

set_option Elab.async false
set_option linter.all false
set_option maxRecDepth 100000
set_option maxHeartbeats 4000000
set_option pp.maxSteps 600
namespace K07
open PySem KV
abbrev lc1 : SV := (sSet 9 (kCall (D_u_law_holds 4).run (cV (kX 2) (cV (k2 pIx (kX 5) (kC (.int 2))) (cV (k2 pIx (kX 11) (kC (.int 1))) (cV (kX 24) (cV (kX 12) cNil)))))))
abbrev lc2 : SV := (sIf (bVal (k2 pNeS (k1 pRepr (kCall (D_does_hold).run (cV (kX 2) (cV (k2 pIx (kX 5) (kC (.int 2))) (cV (k2 pIx (kX 11) (kC (.int 1))) (cV (kX 24) (cV (kX 12) cNil))))))) (k1 pRepr (kX 9)))) (sCons (sRet (kC (.bool false))) sNil) sNil)
abbrev lC : SV := (sCons lc1 (sCons lc2 sNil))
abbrev ly1 : SV := (sFor (iSeq (kSl (kX 7) none (some (kC (.int 2))))) (gT [(gN 24), (gN 25)]) lC)
abbrev ly2 : SV := (sIf (bVal (k2 pNeS (k1 pRepr (kCall (D_program_yes).run (cV (kX 5) (cV (kX 11) cNil)))) (k1 pRepr (kX 14)))) (sCons (sRet (kC (.bool false))) sNil) sNil)
abbrev lY : SV := (sCons ly1 (sCons ly2 sNil))
abbrev lM : SV := (sCons (sIf (bVal (k2 pEq (kX 20) (k2 pIx (kX 11) (kC (.int 0))))) lY sNil) sNil)
abbrev lb1 : SV := (sSet 19 (kCall (D_u_law_first_rule).run (cV (kX 2) (cV (kX 5) (cV (kX 11) (cV (kX 12) cNil))))))
abbrev lb2 : SV := (sIf (bVal (k2 pNeS (k1 pRepr (kCall (D_rule_done).run (cV (kX 2) (cV (kX 5) (cV (kX 11) (cV (kX 12) cNil)))))) (k1 pRepr (kX 19)))) (sCons (sRet (kC (.bool false))) sNil) sNil)
abbrev lb3 : SV := (sFor (iSeq (k2 pIx (kX 5) (kC (.int 3)))) (gT [(gN 20), (gN 14), (gN 7)]) lM)
abbrev lb4 : SV := (sSet 21 (kCall (D_u_law_thing).run (cMv 1 (cV (kX 2) (cV (k2 pIx (kX 5) (kC (.int 2))) cNil)))))
abbrev lb5 : SV := (sSet 9 (kCall (D_u_law_worth).run (cV (k2 pIx (kX 5) (kC (.int 2))) (cV (k2 pIx (kX 11) (kC (.int 1))) (cV (kX 21) (cV (kX 12) cNil))))))
abbrev lb6 : SV := (sIf (bVal (k2 pNeS (k1 pRepr (kCall (D_thing_value).run (cV (k2 pIx (kX 5) (kC (.int 2))) (cV (k2 pIx (kX 11) (kC (.int 1))) (cV (kX 21) (cV (kX 12) cNil)))))) (k1 pRepr (kX 9)))) (sCons (sRet (kC (.bool false))) sNil) sNil)
abbrev lb7 : SV := (sSet 22 (kCall (D_program_step).run (cV (kX 2) (cV (kX 5) (cV (kX 11) (cV (kX 12) cNil))))))
abbrev lb8 : SV := (sIf (bVal (k2 pNeS (k1 pRepr (kX 22)) (k1 pRepr (kCall (D_u_law_step).run (cV (kX 2) (cV (kX 5) (cV (kX 11) (cV (kX 12) cNil)))))))) (sCons (sRet (kC (.bool false))) sNil) sNil)
abbrev lb9 : SV := (sSet 11 (k2 pIx (kX 22) (kC (.int 1))))
abbrev lB : SV := (sCons lb1 (sCons lb2 (sCons lb3 (sCons lb4 (sCons lb5 (sCons lb6 (sCons lb7 (sCons lb8 (sCons lb9 sNil)))))))))
abbrev la1 : SV := (sSet 5 (kCall (D_u_law_program).run (cMv 1 (cV (kX 2) (cV (kC (.str "p")) (cV (kC (.int 3)) (cV (kC (.int 3)) cNil)))))))
abbrev la2 : SV := (sSet 6 (kCall (D_u_law_row).run (cMv 1 (cV (kX 2) (cV (kCall (D_u_law_of).run (cMv 1 (cV (kLst (aCons (kC (.int 3)) (aCons (kC (.int 6)) (aCons (kC (.int 9)) (aCons (kC (.int 40)) aNil))))) cNil))) cNil)))))
abbrev la3 : SV := (sDrop (kApp 3 (kTup (aCons (kX 5) (aCons (kX 6) aNil)))))
abbrev la4 : SV := (sPar [10, 11] (lCons (k1 pRepr (kX 5)) (lCons (kTup (aCons (k2 pIx (k2 pIx (k2 pIx (kX 5) (kC (.int 3))) (kC (.int 0))) (kC (.int 0))) (aCons (k2 pMul (kTup (aCons (kC .none) aNil)) (k1 pLen (k2 pIx (kX 5) (kC (.int 2))))) aNil))) lNil)))
abbrev la5 : SV := (sIf (bVal (k2 pNeS (k1 pRepr (kCall (D_first_stand).run (cV (kX 5) cNil))) (k1 pRepr (kX 11)))) (sCons (sRet (kC (.bool false))) sNil) sNil)
abbrev la6 : SV := (sFor (iSeq (kSl (kX 6) none (some (kC (.int 12))))) (gN 12) lB)
abbrev la7 : SV := (sIf (bVal (k2 pNeS (k1 pRepr (kX 5)) (kX 10))) (sCons (sRet (kC (.bool false))) sNil) sNil)
abbrev lA : SV := (sCons la1 (sCons la2 (sCons la3 (sCons la4 (sCons la5 (sCons la6 (sCons la7 sNil)))))))
abbrev lq1 : SV := (sSet 22 (kTup aNil))
abbrev lq2 : SV := (sFor (iSeq (kX 18)) (gN 23) (sCons (sSet 22 (k2 pAdd (kX 22) (kX 23))) sNil))
abbrev lq3 : SV := (sDrop (kApp 17 (kX 22)))
abbrev lP : SV := (sCons lq1 (sCons lq2 (sCons lq3 sNil)))
abbrev le1 : SV := (sUnp (gT [(gN 13), (gN 14), (gN 11)]) (kCall (D_u_law_run).run (cV (kX 2) (cV (kX 5) (cV (kX 6) cNil)))))
abbrev le2 : SV := (sIf (bVal (k2 pNeS (k1 pRepr (kCall (D_program_run).run (cV (kX 2) (cV (kX 5) (cV (k1 pTuple (kComp (iSeq (kX 6)) (gN 12) none (kTup (aCons (kX 12) aNil)) [12])) cNil))))) (k1 pRepr (kTup (aCons (kX 13) (aCons (kX 14) (aCons (kX 11) aNil))))))) (sCons (sRet (kC (.bool false))) sNil) sNil)
abbrev le3 : SV := (sSet 15 (kCall (D_u_law_pick).run (cMv 1 (cV (k2 pAdd (k1 pLen (kX 6)) (kC (.int 1))) cNil))))
abbrev le4 : SV := (sSet 16 (kTup (aCons (kSl (kX 6) none (some (kX 15))) (aCons (kTup aNil) (aCons (kSl (kX 6) (some (kX 15)) none) aNil)))))
abbrev le5 : SV := (sSet 17 (kLst aNil))
abbrev le6 : SV := (sFor (iSeq (kTup (aCons (kSl (kX 13) none (some (kX 15))) (aCons (kTup aNil) (aCons (kSl (kX 13) (some (kX 15)) none) aNil))))) (gN 18) lP)
abbrev le7 : SV := (sIf (bVal (k2 pNeS (k1 pRepr (kCall (D_program_run).run (cV (kX 2) (cV (kX 5) (cV (kX 16) cNil))))) (k1 pRepr (kTup (aCons (k1 pTuple (kX 17)) (aCons (kX 14) (aCons (kX 11) aNil))))))) (sCons (sRet (kC (.bool false))) sNil) sNil)
abbrev lE : SV := (sCons le1 (sCons le2 (sCons le3 (sCons le4 (sCons le5 (sCons le6 (sCons le7 sNil)))))))
abbrev lz5 : SV := (sSet 7 (kTup (aCons (kTup (aCons (kTup (aCons (kC (.str "empty")) (aCons (kC (.str "x")) aNil))) (aCons (kTup (aCons (kTup (aCons (kC (.str "put")) (aCons (kTup (aCons (kC (.str "it")) aNil)) (aCons (kC (.str "x")) aNil)))) aNil)) aNil))) aNil)))
abbrev lz6 : SV := (sSet 7 (k2 pAdd (kX 7) (kTup (aCons (kTup (aCons (kTup (aCons (kC (.str "it")) (aCons (kTup (aCons (kC (.str "box")) (aCons (kC (.str "x")) aNil))) aNil))) (aCons (kTup (aCons (kTup (aCons (kC (.str "tell")) (aCons (kTup (aCons (kC (.str "box")) (aCons (kC (.str "x")) aNil))) aNil))) (aCons (kTup (aCons (kC (.str "drop")) (aCons (kC (.str "x")) aNil))) aNil))) aNil))) aNil))))
abbrev lz7 : SV := (sSet 8 (kTup (aCons (kC (.str "program")) (aCons (kC (.str "p")) (aCons (kTup (aCons (kC (.str "x")) aNil)) (aCons (kTup (aCons (kTup (aCons (kC (.str "m")) (aCons (kC (.bool false)) (aCons (kX 7) aNil)))) aNil)) aNil))))))
abbrev lz8 : SV := (sSet 9 (kTup (aCons (kTup (aCons (kTup aNil) (aCons (kTup aNil) (aCons (kTup (aCons (kC (.str "a")) aNil)) (aCons (kTup aNil) aNil))))) (aCons (kC (.bool false)) (aCons (kTup (aCons (kC (.str "m")) (aCons (kTup (aCons (kC (.str "a")) aNil)) aNil))) aNil)))))
abbrev lz9 : SV := (sRet (k2 pEq (kCall (D_program_run).run (cV (kTup aNil) (cV (kX 8) (cV (kTup (aCons (kTup (aCons (kC (.str "a")) aNil)) (aCons (kTup (aCons (kC (.str "b")) aNil)) (aCons (kTup (aCons (kC (.str "a")) aNil)) (aCons (kTup (aCons (kC (.str "a")) aNil)) aNil))))) cNil)))) (kX 9)))
theorem law_eq : D_law = ⟨26, [], (sCons (sSet 1 (kCall (D_u_law_source).run (cPass 0 cNil))) (sCons (sSet 2 (kCall (D_u_law_words).run (cMv 1 cNil))) (sCons (sSet 3 (kLst aNil)) (sCons (sFor (iRg1 (kC (.int 3))) (gN 4) lA) (sCons (sFor (iSeq (k2 pAdd (kX 3) (k1 pRev (kX 3)))) (gT [(gN 5), (gN 6)]) lE) (sCons lz5 (sCons lz6 (sCons lz7 (sCons lz8 (sCons lz9 sNil))))))))))⟩ := rfl
theorem sCons_W {f g : SV} {s : Sl} {P : Sl → Prop} {Q : Fl × Sl → Prop} (h : (f s).W fun r => r.1 = .nx ∧ P r.2) (k : ∀ s1, P s1 → (g s1).W Q) : (sCons f g s).W Q := by
  obtain ⟨⟨fl, s1⟩, e, h1, h2⟩ := R.W_get h
  simp only at h1
  subst h1
  rw [sCons_nx e]
  exact k s1 h2
theorem sNil_W {s : Sl} {P : Sl → Prop} (h : P s) : (sNil s).W fun r => r.1 = .nx ∧ P r.2 := ⟨rfl, h⟩
theorem forD_W {g : GV} {b : SV} {x : D} {xs : List D} {s : Sl} {P : Sl → Prop} {Q : Fl × Sl → Prop} (h : (g x s).W fun s1 => (b s1).W fun r => r.1 = .nx ∧ P r.2) (k : ∀ s1, P s1 → (forD g b xs s1).W Q) : (forD g b (x :: xs) s).W Q := by
  obtain ⟨s1, e, h0⟩ := R.W_get h
  obtain ⟨⟨fl, s2⟩, e2, h1, h2⟩ := R.W_get h0
  simp only at h1
  subst h1
  unfold forD
  rw [e, R.bind_ok, e2, R.bind_ok]
  exact k s2 h2
theorem open26 {s : Sl} (h : s.length = 26) : ∃ v0 v1 v2 v3 v4 v5 v6 v7 v8 v9 v10 v11 v12 v13 v14 v15 v16 v17 v18 v19 v20 v21 v22 v23 v24 v25, s = [v0, v1, v2, v3, v4, v5, v6, v7, v8, v9, v10, v11, v12, v13, v14, v15, v16, v17, v18, v19, v20, v21, v22, v23, v24, v25] := by
  match s, h with
  | [v0, v1, v2, v3, v4, v5, v6, v7, v8, v9, v10, v11, v12, v13, v14, v15, v16, v17, v18, v19, v20, v21, v22, v23, v24, v25], _ => exact ⟨_, _, _, _, _, _, _, _, _, _, _, _, _, _, _, _, _, _, _, _, _, _, _, _, _, _, rfl⟩
def pairE (x : Pg × List Str) : D := .tuple [x.1.enc, strsE x.2]
structure La (ns : List Int) (S : Src) (ws : List Str) (sm : List (Pg × List Str)) (s : Sl) : Prop where
  len : s.length = 26
  a0 : s[0]? = some (some (.scr ns))
  a1 : s[1]? = some (some (.src S))
  a2 : s[2]? = some (some (.val (strsE ws)))
  a3 : s[3]? = some (some (.lst (sm.map pairE)))
theorem La.ex {ns : List Int} {S : Src} {ws : List Str} {sm : List (Pg × List Str)} {s : Sl} (h : La ns S ws sm s) : ∃ v4 v5 v6 v7 v8 v9 v10 v11 v12 v13 v14 v15 v16 v17 v18 v19 v20 v21 v22 v23 v24 v25, s = [some (.scr ns), some (.src S), some (.val (strsE ws)), some (.lst (sm.map pairE)), v4, v5, v6, v7, v8, v9, v10, v11, v12, v13, v14, v15, v16, v17, v18, v19, v20, v21, v22, v23, v24, v25] := by
  obtain ⟨v0, v1, v2, v3, v4, v5, v6, v7, v8, v9, v10, v11, v12, v13, v14, v15, v16, v17, v18, v19, v20, v21, v22, v23, v24, v25, rfl⟩ := open26 h.len
  cases (show some v0 = some (some _) from h.a0)
  cases (show some v1 = some (some _) from h.a1)
  cases (show some v2 = some (some _) from h.a2)
  cases (show some v3 = some (some _) from h.a3)
  exact ⟨_, _, _, _, _, _, _, _, _, _, _, _, _, _, _, _, _, _, _, _, _, _, rfl⟩
structure Lp (ns : List Int) (S : Src) (ws : List Str) (sm : List (Pg × List Str)) (p : Pg) (s : Sl) : Prop where
  len : s.length = 26
  a0 : s[0]? = some (some (.scr ns))
  a1 : s[1]? = some (some (.src S))
  a2 : s[2]? = some (some (.val (strsE ws)))
  a3 : s[3]? = some (some (.lst (sm.map pairE)))
  a5 : s[5]? = some (some (.val p.enc))
theorem Lp.ex {ns : List Int} {S : Src} {ws : List Str} {sm : List (Pg × List Str)} {p : Pg} {s : Sl} (h : Lp ns S ws sm p s) : ∃ v4 v6 v7 v8 v9 v10 v11 v12 v13 v14 v15 v16 v17 v18 v19 v20 v21 v22 v23 v24 v25, s = [some (.scr ns), some (.src S), some (.val (strsE ws)), some (.lst (sm.map pairE)), v4, some (.val p.enc), v6, v7, v8, v9, v10, v11, v12, v13, v14, v15, v16, v17, v18, v19, v20, v21, v22, v23, v24, v25] := by
  obtain ⟨v0, v1, v2, v3, v4, v5, v6, v7, v8, v9, v10, v11, v12, v13, v14, v15, v16, v17, v18, v19, v20, v21, v22, v23, v24, v25, rfl⟩ := open26 h.len
  cases (show some v0 = some (some _) from h.a0)
  cases (show some v1 = some (some _) from h.a1)
  cases (show some v2 = some (some _) from h.a2)
  cases (show some v3 = some (some _) from h.a3)
  cases (show some v5 = some (some _) from h.a5)
  exact ⟨_, _, _, _, _, _, _, _, _, _, _, _, _, _, _, _, _, _, _, _, _, rfl⟩
structure Lr (ns : List Int) (S : Src) (ws : List Str) (sm : List (Pg × List Str)) (p : Pg) (row : List Str) (s : Sl) : Prop where
  len : s.length = 26
  a0 : s[0]? = some (some (.scr ns))
  a1 : s[1]? = some (some (.src S))
  a2 : s[2]? = some (some (.val (strsE ws)))
  a3 : s[3]? = some (some (.lst (sm.map pairE)))
  a5 : s[5]? = some (some (.val p.enc))
  a6 : s[6]? = some (some (.val (strsE row)))
theorem Lr.ex {ns : List Int} {S : Src} {ws : List Str} {sm : List (Pg × List Str)} {p : Pg} {row : List Str} {s : Sl} (h : Lr ns S ws sm p row s) : ∃ v4 v7 v8 v9 v10 v11 v12 v13 v14 v15 v16 v17 v18 v19 v20 v21 v22 v23 v24 v25, s = [some (.scr ns), some (.src S), some (.val (strsE ws)), some (.lst (sm.map pairE)), v4, some (.val p.enc), some (.val (strsE row)), v7, v8, v9, v10, v11, v12, v13, v14, v15, v16, v17, v18, v19, v20, v21, v22, v23, v24, v25] := by
  obtain ⟨v0, v1, v2, v3, v4, v5, v6, v7, v8, v9, v10, v11, v12, v13, v14, v15, v16, v17, v18, v19, v20, v21, v22, v23, v24, v25, rfl⟩ := open26 h.len
  cases (show some v0 = some (some _) from h.a0)
  cases (show some v1 = some (some _) from h.a1)
  cases (show some v2 = some (some _) from h.a2)
  cases (show some v3 = some (some _) from h.a3)
  cases (show some v5 = some (some _) from h.a5)
  cases (show some v6 = some (some _) from h.a6)
  exact ⟨_, _, _, _, _, _, _, _, _, _, _, _, _, _, _, _, _, _, _, _, rfl⟩
structure Ls (ns : List Int) (S : Src) (ws : List Str) (sm : List (Pg × List Str)) (p : Pg) (row : List Str) (kept : Str) (d : St) (s : Sl) : Prop where
  len : s.length = 26
  a0 : s[0]? = some (some (.scr ns))
  a1 : s[1]? = some (some (.src S))
  a2 : s[2]? = some (some (.val (strsE ws)))
  a3 : s[3]? = some (some (.lst (sm.map pairE)))
  a5 : s[5]? = some (some (.val p.enc))
  a6 : s[6]? = some (some (.val (strsE row)))
  a10 : s[10]? = some (some (.val (.str kept)))
  a11 : s[11]? = some (some (.val (stE d)))
theorem Ls.ex {ns : List Int} {S : Src} {ws : List Str} {sm : List (Pg × List Str)} {p : Pg} {row : List Str} {kept : Str} {d : St} {s : Sl} (h : Ls ns S ws sm p row kept d s) : ∃ v4 v7 v8 v9 v12 v13 v14 v15 v16 v17 v18 v19 v20 v21 v22 v23 v24 v25, s = [some (.scr ns), some (.src S), some (.val (strsE ws)), some (.lst (sm.map pairE)), v4, some (.val p.enc), some (.val (strsE row)), v7, v8, v9, some (.val (.str kept)), some (.val (stE d)), v12, v13, v14, v15, v16, v17, v18, v19, v20, v21, v22, v23, v24, v25] := by
  obtain ⟨v0, v1, v2, v3, v4, v5, v6, v7, v8, v9, v10, v11, v12, v13, v14, v15, v16, v17, v18, v19, v20, v21, v22, v23, v24, v25, rfl⟩ := open26 h.len
  cases (show some v0 = some (some _) from h.a0)
  cases (show some v1 = some (some _) from h.a1)
  cases (show some v2 = some (some _) from h.a2)
  cases (show some v3 = some (some _) from h.a3)
  cases (show some v5 = some (some _) from h.a5)
  cases (show some v6 = some (some _) from h.a6)
  cases (show some v10 = some (some _) from h.a10)
  cases (show some v11 = some (some _) from h.a11)
  exact ⟨_, _, _, _, _, _, _, _, _, _, _, _, _, _, _, _, _, _, rfl⟩
structure Lt (ns : List Int) (S : Src) (ws : List Str) (sm : List (Pg × List Str)) (p : Pg) (row : List Str) (kept : Str) (d : St) (v : Str) (s : Sl) : Prop where
  len : s.length = 26
  a0 : s[0]? = some (some (.scr ns))
  a1 : s[1]? = some (some (.src S))
  a2 : s[2]? = some (some (.val (strsE ws)))
  a3 : s[3]? = some (some (.lst (sm.map pairE)))
  a5 : s[5]? = some (some (.val p.enc))
  a6 : s[6]? = some (some (.val (strsE row)))
  a10 : s[10]? = some (some (.val (.str kept)))
  a11 : s[11]? = some (some (.val (stE d)))
  a12 : s[12]? = some (some (.val (.str v)))
theorem Lt.ex {ns : List Int} {S : Src} {ws : List Str} {sm : List (Pg × List Str)} {p : Pg} {row : List Str} {kept : Str} {d : St} {v : Str} {s : Sl} (h : Lt ns S ws sm p row kept d v s) : ∃ v4 v7 v8 v9 v13 v14 v15 v16 v17 v18 v19 v20 v21 v22 v23 v24 v25, s = [some (.scr ns), some (.src S), some (.val (strsE ws)), some (.lst (sm.map pairE)), v4, some (.val p.enc), some (.val (strsE row)), v7, v8, v9, some (.val (.str kept)), some (.val (stE d)), some (.val (.str v)), v13, v14, v15, v16, v17, v18, v19, v20, v21, v22, v23, v24, v25] := by
  obtain ⟨v0, v1, v2, v3, v4, v5, v6, v7, v8, v9, v10, v11, v12, v13, v14, v15, v16, v17, v18, v19, v20, v21, v22, v23, v24, v25, rfl⟩ := open26 h.len
  cases (show some v0 = some (some _) from h.a0)
  cases (show some v1 = some (some _) from h.a1)
  cases (show some v2 = some (some _) from h.a2)
  cases (show some v3 = some (some _) from h.a3)
  cases (show some v5 = some (some _) from h.a5)
  cases (show some v6 = some (some _) from h.a6)
  cases (show some v10 = some (some _) from h.a10)
  cases (show some v11 = some (some _) from h.a11)
  cases (show some v12 = some (some _) from h.a12)
  exact ⟨_, _, _, _, _, _, _, _, _, _, _, _, _, _, _, _, _, rfl⟩
structure Lu (ns : List Int) (S : Src) (ws : List Str) (sm : List (Pg × List Str)) (p : Pg) (row : List Str) (kept : Str) (d : St) (v : Str) (u : D) (s : Sl) : Prop where
  len : s.length = 26
  a0 : s[0]? = some (some (.scr ns))
  a1 : s[1]? = some (some (.src S))
  a2 : s[2]? = some (some (.val (strsE ws)))
  a3 : s[3]? = some (some (.lst (sm.map pairE)))
  a5 : s[5]? = some (some (.val p.enc))
  a6 : s[6]? = some (some (.val (strsE row)))
  a10 : s[10]? = some (some (.val (.str kept)))
  a11 : s[11]? = some (some (.val (stE d)))
  a12 : s[12]? = some (some (.val (.str v)))
  a19 : s[19]? = some (some (.val u))
theorem Lu.ex {ns : List Int} {S : Src} {ws : List Str} {sm : List (Pg × List Str)} {p : Pg} {row : List Str} {kept : Str} {d : St} {v : Str} {u : D} {s : Sl} (h : Lu ns S ws sm p row kept d v u s) : ∃ v4 v7 v8 v9 v13 v14 v15 v16 v17 v18 v20 v21 v22 v23 v24 v25, s = [some (.scr ns), some (.src S), some (.val (strsE ws)), some (.lst (sm.map pairE)), v4, some (.val p.enc), some (.val (strsE row)), v7, v8, v9, some (.val (.str kept)), some (.val (stE d)), some (.val (.str v)), v13, v14, v15, v16, v17, v18, some (.val u), v20, v21, v22, v23, v24, v25] := by
  obtain ⟨v0, v1, v2, v3, v4, v5, v6, v7, v8, v9, v10, v11, v12, v13, v14, v15, v16, v17, v18, v19, v20, v21, v22, v23, v24, v25, rfl⟩ := open26 h.len
  cases (show some v0 = some (some _) from h.a0)
  cases (show some v1 = some (some _) from h.a1)
  cases (show some v2 = some (some _) from h.a2)
  cases (show some v3 = some (some _) from h.a3)
  cases (show some v5 = some (some _) from h.a5)
  cases (show some v6 = some (some _) from h.a6)
  cases (show some v10 = some (some _) from h.a10)
  cases (show some v11 = some (some _) from h.a11)
  cases (show some v12 = some (some _) from h.a12)
  cases (show some v19 = some (some _) from h.a19)
  exact ⟨_, _, _, _, _, _, _, _, _, _, _, _, _, _, _, _, rfl⟩
structure Lm (ns : List Int) (S : Src) (ws : List Str) (sm : List (Pg × List Str)) (p : Pg) (row : List Str) (kept : Str) (d : St) (v : Str) (na : Str) (b : Bool) (rl : D) (s : Sl) : Prop where
  len : s.length = 26
  a0 : s[0]? = some (some (.scr ns))
  a1 : s[1]? = some (some (.src S))
  a2 : s[2]? = some (some (.val (strsE ws)))
  a3 : s[3]? = some (some (.lst (sm.map pairE)))
  a5 : s[5]? = some (some (.val p.enc))
  a6 : s[6]? = some (some (.val (strsE row)))
  a10 : s[10]? = some (some (.val (.str kept)))
  a11 : s[11]? = some (some (.val (stE d)))
  a12 : s[12]? = some (some (.val (.str v)))
  a7 : s[7]? = some (some (.val rl))
  a14 : s[14]? = some (some (.val (.bool b)))
  a20 : s[20]? = some (some (.val (.str na)))
theorem Lm.ex {ns : List Int} {S : Src} {ws : List Str} {sm : List (Pg × List Str)} {p : Pg} {row : List Str} {kept : Str} {d : St} {v : Str} {na : Str} {b : Bool} {rl : D} {s : Sl} (h : Lm ns S ws sm p row kept d v na b rl s) : ∃ v4 v8 v9 v13 v15 v16 v17 v18 v19 v21 v22 v23 v24 v25, s = [some (.scr ns), some (.src S), some (.val (strsE ws)), some (.lst (sm.map pairE)), v4, some (.val p.enc), some (.val (strsE row)), some (.val rl), v8, v9, some (.val (.str kept)), some (.val (stE d)), some (.val (.str v)), v13, some (.val (.bool b)), v15, v16, v17, v18, v19, some (.val (.str na)), v21, v22, v23, v24, v25] := by
  obtain ⟨v0, v1, v2, v3, v4, v5, v6, v7, v8, v9, v10, v11, v12, v13, v14, v15, v16, v17, v18, v19, v20, v21, v22, v23, v24, v25, rfl⟩ := open26 h.len
  cases (show some v0 = some (some _) from h.a0)
  cases (show some v1 = some (some _) from h.a1)
  cases (show some v2 = some (some _) from h.a2)
  cases (show some v3 = some (some _) from h.a3)
  cases (show some v5 = some (some _) from h.a5)
  cases (show some v6 = some (some _) from h.a6)
  cases (show some v10 = some (some _) from h.a10)
  cases (show some v11 = some (some _) from h.a11)
  cases (show some v12 = some (some _) from h.a12)
  cases (show some v7 = some (some _) from h.a7)
  cases (show some v14 = some (some _) from h.a14)
  cases (show some v20 = some (some _) from h.a20)
  exact ⟨_, _, _, _, _, _, _, _, _, _, _, _, _, _, rfl⟩
structure Lk (ns : List Int) (S : Src) (ws : List Str) (sm : List (Pg × List Str)) (p : Pg) (row : List Str) (kept : Str) (d : St) (v : Str) (b : Bool) (c : D) (s : Sl) : Prop where
  len : s.length = 26
  a0 : s[0]? = some (some (.scr ns))
  a1 : s[1]? = some (some (.src S))
  a2 : s[2]? = some (some (.val (strsE ws)))
  a3 : s[3]? = some (some (.lst (sm.map pairE)))
  a5 : s[5]? = some (some (.val p.enc))
  a6 : s[6]? = some (some (.val (strsE row)))
  a10 : s[10]? = some (some (.val (.str kept)))
  a11 : s[11]? = some (some (.val (stE d)))
  a12 : s[12]? = some (some (.val (.str v)))
  a14 : s[14]? = some (some (.val (.bool b)))
  a24 : s[24]? = some (some (.val c))
theorem Lk.ex {ns : List Int} {S : Src} {ws : List Str} {sm : List (Pg × List Str)} {p : Pg} {row : List Str} {kept : Str} {d : St} {v : Str} {b : Bool} {c : D} {s : Sl} (h : Lk ns S ws sm p row kept d v b c s) : ∃ v4 v7 v8 v9 v13 v15 v16 v17 v18 v19 v20 v21 v22 v23 v25, s = [some (.scr ns), some (.src S), some (.val (strsE ws)), some (.lst (sm.map pairE)), v4, some (.val p.enc), some (.val (strsE row)), v7, v8, v9, some (.val (.str kept)), some (.val (stE d)), some (.val (.str v)), v13, some (.val (.bool b)), v15, v16, v17, v18, v19, v20, v21, v22, v23, some (.val c), v25] := by
  obtain ⟨v0, v1, v2, v3, v4, v5, v6, v7, v8, v9, v10, v11, v12, v13, v14, v15, v16, v17, v18, v19, v20, v21, v22, v23, v24, v25, rfl⟩ := open26 h.len
  cases (show some v0 = some (some _) from h.a0)
  cases (show some v1 = some (some _) from h.a1)
  cases (show some v2 = some (some _) from h.a2)
  cases (show some v3 = some (some _) from h.a3)
  cases (show some v5 = some (some _) from h.a5)
  cases (show some v6 = some (some _) from h.a6)
  cases (show some v10 = some (some _) from h.a10)
  cases (show some v11 = some (some _) from h.a11)
  cases (show some v12 = some (some _) from h.a12)
  cases (show some v14 = some (some _) from h.a14)
  cases (show some v24 = some (some _) from h.a24)
  exact ⟨_, _, _, _, _, _, _, _, _, _, _, _, _, _, _, rfl⟩
structure Ln (ns : List Int) (S : Src) (ws : List Str) (sm : List (Pg × List Str)) (p : Pg) (row : List Str) (kept : Str) (d : St) (v : Str) (b : Bool) (s : Sl) : Prop where
  len : s.length = 26
  a0 : s[0]? = some (some (.scr ns))
  a1 : s[1]? = some (some (.src S))
  a2 : s[2]? = some (some (.val (strsE ws)))
  a3 : s[3]? = some (some (.lst (sm.map pairE)))
  a5 : s[5]? = some (some (.val p.enc))
  a6 : s[6]? = some (some (.val (strsE row)))
  a10 : s[10]? = some (some (.val (.str kept)))
  a11 : s[11]? = some (some (.val (stE d)))
  a12 : s[12]? = some (some (.val (.str v)))
  a14 : s[14]? = some (some (.val (.bool b)))
theorem Ln.ex {ns : List Int} {S : Src} {ws : List Str} {sm : List (Pg × List Str)} {p : Pg} {row : List Str} {kept : Str} {d : St} {v : Str} {b : Bool} {s : Sl} (h : Ln ns S ws sm p row kept d v b s) : ∃ v4 v7 v8 v9 v13 v15 v16 v17 v18 v19 v20 v21 v22 v23 v24 v25, s = [some (.scr ns), some (.src S), some (.val (strsE ws)), some (.lst (sm.map pairE)), v4, some (.val p.enc), some (.val (strsE row)), v7, v8, v9, some (.val (.str kept)), some (.val (stE d)), some (.val (.str v)), v13, some (.val (.bool b)), v15, v16, v17, v18, v19, v20, v21, v22, v23, v24, v25] := by
  obtain ⟨v0, v1, v2, v3, v4, v5, v6, v7, v8, v9, v10, v11, v12, v13, v14, v15, v16, v17, v18, v19, v20, v21, v22, v23, v24, v25, rfl⟩ := open26 h.len
  cases (show some v0 = some (some _) from h.a0)
  cases (show some v1 = some (some _) from h.a1)
  cases (show some v2 = some (some _) from h.a2)
  cases (show some v3 = some (some _) from h.a3)
  cases (show some v5 = some (some _) from h.a5)
  cases (show some v6 = some (some _) from h.a6)
  cases (show some v10 = some (some _) from h.a10)
  cases (show some v11 = some (some _) from h.a11)
  cases (show some v12 = some (some _) from h.a12)
  cases (show some v14 = some (some _) from h.a14)
  exact ⟨_, _, _, _, _, _, _, _, _, _, _, _, _, _, _, _, rfl⟩
structure Lj (ns : List Int) (S : Src) (ws : List Str) (sm : List (Pg × List Str)) (p : Pg) (row : List Str) (kept : Str) (d : St) (v : Str) (b : Bool) (c u : D) (s : Sl) : Prop where
  len : s.length = 26
  a0 : s[0]? = some (some (.scr ns))
  a1 : s[1]? = some (some (.src S))
  a2 : s[2]? = some (some (.val (strsE ws)))
  a3 : s[3]? = some (some (.lst (sm.map pairE)))
  a5 : s[5]? = some (some (.val p.enc))
  a6 : s[6]? = some (some (.val (strsE row)))
  a10 : s[10]? = some (some (.val (.str kept)))
  a11 : s[11]? = some (some (.val (stE d)))
  a12 : s[12]? = some (some (.val (.str v)))
  a9 : s[9]? = some (some (.val u))
  a14 : s[14]? = some (some (.val (.bool b)))
  a24 : s[24]? = some (some (.val c))
theorem Lj.ex {ns : List Int} {S : Src} {ws : List Str} {sm : List (Pg × List Str)} {p : Pg} {row : List Str} {kept : Str} {d : St} {v : Str} {b : Bool} {c u : D} {s : Sl} (h : Lj ns S ws sm p row kept d v b c u s) : ∃ v4 v7 v8 v13 v15 v16 v17 v18 v19 v20 v21 v22 v23 v25, s = [some (.scr ns), some (.src S), some (.val (strsE ws)), some (.lst (sm.map pairE)), v4, some (.val p.enc), some (.val (strsE row)), v7, v8, some (.val u), some (.val (.str kept)), some (.val (stE d)), some (.val (.str v)), v13, some (.val (.bool b)), v15, v16, v17, v18, v19, v20, v21, v22, v23, some (.val c), v25] := by
  obtain ⟨v0, v1, v2, v3, v4, v5, v6, v7, v8, v9, v10, v11, v12, v13, v14, v15, v16, v17, v18, v19, v20, v21, v22, v23, v24, v25, rfl⟩ := open26 h.len
  cases (show some v0 = some (some _) from h.a0)
  cases (show some v1 = some (some _) from h.a1)
  cases (show some v2 = some (some _) from h.a2)
  cases (show some v3 = some (some _) from h.a3)
  cases (show some v5 = some (some _) from h.a5)
  cases (show some v6 = some (some _) from h.a6)
  cases (show some v10 = some (some _) from h.a10)
  cases (show some v11 = some (some _) from h.a11)
  cases (show some v12 = some (some _) from h.a12)
  cases (show some v9 = some (some _) from h.a9)
  cases (show some v14 = some (some _) from h.a14)
  cases (show some v24 = some (some _) from h.a24)
  exact ⟨_, _, _, _, _, _, _, _, _, _, _, _, _, _, rfl⟩
structure Lw (ns : List Int) (S : Src) (ws : List Str) (sm : List (Pg × List Str)) (p : Pg) (row : List Str) (kept : Str) (d : St) (v : Str) (t : D) (s : Sl) : Prop where
  len : s.length = 26
  a0 : s[0]? = some (some (.scr ns))
  a1 : s[1]? = some (some (.src S))
  a2 : s[2]? = some (some (.val (strsE ws)))
  a3 : s[3]? = some (some (.lst (sm.map pairE)))
  a5 : s[5]? = some (some (.val p.enc))
  a6 : s[6]? = some (some (.val (strsE row)))
  a10 : s[10]? = some (some (.val (.str kept)))
  a11 : s[11]? = some (some (.val (stE d)))
  a12 : s[12]? = some (some (.val (.str v)))
  a21 : s[21]? = some (some (.val t))
theorem Lw.ex {ns : List Int} {S : Src} {ws : List Str} {sm : List (Pg × List Str)} {p : Pg} {row : List Str} {kept : Str} {d : St} {v : Str} {t : D} {s : Sl} (h : Lw ns S ws sm p row kept d v t s) : ∃ v4 v7 v8 v9 v13 v14 v15 v16 v17 v18 v19 v20 v22 v23 v24 v25, s = [some (.scr ns), some (.src S), some (.val (strsE ws)), some (.lst (sm.map pairE)), v4, some (.val p.enc), some (.val (strsE row)), v7, v8, v9, some (.val (.str kept)), some (.val (stE d)), some (.val (.str v)), v13, v14, v15, v16, v17, v18, v19, v20, some (.val t), v22, v23, v24, v25] := by
  obtain ⟨v0, v1, v2, v3, v4, v5, v6, v7, v8, v9, v10, v11, v12, v13, v14, v15, v16, v17, v18, v19, v20, v21, v22, v23, v24, v25, rfl⟩ := open26 h.len
  cases (show some v0 = some (some _) from h.a0)
  cases (show some v1 = some (some _) from h.a1)
  cases (show some v2 = some (some _) from h.a2)
  cases (show some v3 = some (some _) from h.a3)
  cases (show some v5 = some (some _) from h.a5)
  cases (show some v6 = some (some _) from h.a6)
  cases (show some v10 = some (some _) from h.a10)
  cases (show some v11 = some (some _) from h.a11)
  cases (show some v12 = some (some _) from h.a12)
  cases (show some v21 = some (some _) from h.a21)
  exact ⟨_, _, _, _, _, _, _, _, _, _, _, _, _, _, _, _, rfl⟩
structure Lx (ns : List Int) (S : Src) (ws : List Str) (sm : List (Pg × List Str)) (p : Pg) (row : List Str) (kept : Str) (d : St) (v : Str) (t u : D) (s : Sl) : Prop where
  len : s.length = 26
  a0 : s[0]? = some (some (.scr ns))
  a1 : s[1]? = some (some (.src S))
  a2 : s[2]? = some (some (.val (strsE ws)))
  a3 : s[3]? = some (some (.lst (sm.map pairE)))
  a5 : s[5]? = some (some (.val p.enc))
  a6 : s[6]? = some (some (.val (strsE row)))
  a10 : s[10]? = some (some (.val (.str kept)))
  a11 : s[11]? = some (some (.val (stE d)))
  a12 : s[12]? = some (some (.val (.str v)))
  a9 : s[9]? = some (some (.val u))
  a21 : s[21]? = some (some (.val t))
theorem Lx.ex {ns : List Int} {S : Src} {ws : List Str} {sm : List (Pg × List Str)} {p : Pg} {row : List Str} {kept : Str} {d : St} {v : Str} {t u : D} {s : Sl} (h : Lx ns S ws sm p row kept d v t u s) : ∃ v4 v7 v8 v13 v14 v15 v16 v17 v18 v19 v20 v22 v23 v24 v25, s = [some (.scr ns), some (.src S), some (.val (strsE ws)), some (.lst (sm.map pairE)), v4, some (.val p.enc), some (.val (strsE row)), v7, v8, some (.val u), some (.val (.str kept)), some (.val (stE d)), some (.val (.str v)), v13, v14, v15, v16, v17, v18, v19, v20, some (.val t), v22, v23, v24, v25] := by
  obtain ⟨v0, v1, v2, v3, v4, v5, v6, v7, v8, v9, v10, v11, v12, v13, v14, v15, v16, v17, v18, v19, v20, v21, v22, v23, v24, v25, rfl⟩ := open26 h.len
  cases (show some v0 = some (some _) from h.a0)
  cases (show some v1 = some (some _) from h.a1)
  cases (show some v2 = some (some _) from h.a2)
  cases (show some v3 = some (some _) from h.a3)
  cases (show some v5 = some (some _) from h.a5)
  cases (show some v6 = some (some _) from h.a6)
  cases (show some v10 = some (some _) from h.a10)
  cases (show some v11 = some (some _) from h.a11)
  cases (show some v12 = some (some _) from h.a12)
  cases (show some v9 = some (some _) from h.a9)
  cases (show some v21 = some (some _) from h.a21)
  exact ⟨_, _, _, _, _, _, _, _, _, _, _, _, _, _, _, rfl⟩
structure Lz (ns : List Int) (S : Src) (ws : List Str) (sm : List (Pg × List Str)) (p : Pg) (row : List Str) (kept : Str) (d : St) (v : Str) (u : D) (s : Sl) : Prop where
  len : s.length = 26
  a0 : s[0]? = some (some (.scr ns))
  a1 : s[1]? = some (some (.src S))
  a2 : s[2]? = some (some (.val (strsE ws)))
  a3 : s[3]? = some (some (.lst (sm.map pairE)))
  a5 : s[5]? = some (some (.val p.enc))
  a6 : s[6]? = some (some (.val (strsE row)))
  a10 : s[10]? = some (some (.val (.str kept)))
  a11 : s[11]? = some (some (.val (stE d)))
  a12 : s[12]? = some (some (.val (.str v)))
  a22 : s[22]? = some (some (.val u))
theorem Lz.ex {ns : List Int} {S : Src} {ws : List Str} {sm : List (Pg × List Str)} {p : Pg} {row : List Str} {kept : Str} {d : St} {v : Str} {u : D} {s : Sl} (h : Lz ns S ws sm p row kept d v u s) : ∃ v4 v7 v8 v9 v13 v14 v15 v16 v17 v18 v19 v20 v21 v23 v24 v25, s = [some (.scr ns), some (.src S), some (.val (strsE ws)), some (.lst (sm.map pairE)), v4, some (.val p.enc), some (.val (strsE row)), v7, v8, v9, some (.val (.str kept)), some (.val (stE d)), some (.val (.str v)), v13, v14, v15, v16, v17, v18, v19, v20, v21, some (.val u), v23, v24, v25] := by
  obtain ⟨v0, v1, v2, v3, v4, v5, v6, v7, v8, v9, v10, v11, v12, v13, v14, v15, v16, v17, v18, v19, v20, v21, v22, v23, v24, v25, rfl⟩ := open26 h.len
  cases (show some v0 = some (some _) from h.a0)
  cases (show some v1 = some (some _) from h.a1)
  cases (show some v2 = some (some _) from h.a2)
  cases (show some v3 = some (some _) from h.a3)
  cases (show some v5 = some (some _) from h.a5)
  cases (show some v6 = some (some _) from h.a6)
  cases (show some v10 = some (some _) from h.a10)
  cases (show some v11 = some (some _) from h.a11)
  cases (show some v12 = some (some _) from h.a12)
  cases (show some v22 = some (some _) from h.a22)
  exact ⟨_, _, _, _, _, _, _, _, _, _, _, _, _, _, _, _, rfl⟩
end K07

set_option Elab.async false
set_option linter.all false
set_option maxRecDepth 100000
set_option maxHeartbeats 4000000
set_option pp.maxSteps 600
namespace K07
open PySem KV

theorem neS_self {x : Str} : pNeS (.str x) (.str x) = bl false := by
  show bl (!decide (x = x)) = _
  rw [decide_eq_true rfl]
  rfl
theorem show_bool (b : Bool) : showOk (.bool b) = true := (fit_bool (n := 1) (m := 1)).show (by omega) (by omega)
theorem show_nat {o : Option Nat} (h : ∀ j, o = some j → j < 3) : showOk (natO o) = true := by
  cases o with
  | none => kernel_rfl
  | some j =>
    have := h j rfl
    have hc : j = 0 ∨ j = 1 ∨ j = 2 := by omega
    rcases hc with rfl | rfl | rfl <;> kernel_rfl
theorem first_lt {h : Cd → Bool} : ∀ {rs : List (Cd × List Ac)} {j : Nat}, firstIx h rs = some j → j < rs.length := fun {rs j} e => by
  rcases firstIx_find (h := h) (rs := rs) with ⟨h1, _⟩ | ⟨i, r, h1, h2, _⟩
  · rw [h1] at e; cases e
  · rw [h1] at e; cases e
    exact (List.getElem?_eq_some_iff.mp h2).1
theorem fit_opt {o : Option Str} (h : ∀ x, o = some x → Sk x) : fit 0 20 (optE o) := by
  cases o with
  | none => exact fit_none
  | some x => exact fit_str (h x rfl).1 (h x rfl).2
theorem fit_st {p : Pg} {d : St} (gp : GP p) (w : WS p d) : fit 2 128 (stE d) := (fit_tup (n := 1) (m := 63) (k := 2) (fun x hx => by
  simp only [List.mem_cons, List.not_mem_nil, or_false] at hx
  rcases hx with rfl | rfl
  · exact (fit_str (n := 0) (m := 20) w.k.1 w.k.2).mono (by omega) (by omega)
  · exact (fit_tup (n := 0) (m := 20) (k := 3) (fit_opts w.w.ok) (by rw [List.length_map, w.w.len]; exact gp.lb)).mono (Nat.le_refl _) (by omega)) (by simp)).mono (Nat.le_refl _) (by omega)
theorem show_ansE {p : Pg} {r : List Str × St} (gp : GP p) (w : WS p r.2) (h1 : ∀ x ∈ r.1, Sk x) (h2 : r.1.length ≤ 3) : showOk (ansE r) = true := (fit_tup (n := 2) (m := 128) (k := 2) (fun x hx => by
  simp only [List.mem_cons, List.not_mem_nil, or_false] at hx
  rcases hx with rfl | rfl
  · exact (fit_tup (n := 0) (m := 20) (k := 3) (fit_strs h1) (by rw [List.length_map]; exact h2)).mono (by omega) (by omega)
  · exact fit_st gp w) (by simp)).show (by omega) (by omega)
theorem cut_map {α : Type} (f : α → D) (l : List α) (hi : Option Int) : ∃ l' : List α, cutD (l.map f) none hi = l'.map f ∧ ∀ x ∈ l', x ∈ l := by
  refine ⟨(l.drop (HT.sIx (l.map f).length 0 none)).take (HT.sIx (l.map f).length (l.map f).length hi - HT.sIx (l.map f).length 0 none), ?_, fun x hx => List.mem_of_mem_drop (List.mem_of_mem_take hx)⟩
  unfold cutD
  rw [← List.map_drop, ← List.map_take]
theorem md_of {p : Pg} {m : Str} {md x : Md} (gp : GP p) (hf : p.modes.find? (fun x => decide (x.name = m)) = some md) (hx : x ∈ p.modes) (e : x.name = m) : x = md := by
  have h1 : md ∈ p.modes := List.mem_of_find?_eq_some hf
  have h2 : md.name = m := by simpa using List.find?_some hf
  have key : ∀ {l : List Md}, (l.map Md.name).Nodup → x ∈ l → md ∈ l → x.name = md.name → x = md := fun {l} => by
    induction l with
    | nil => intro _ h; cases h
    | cons y l ih =>
      intro hn hx hm he
      rw [List.map_cons, List.nodup_cons] at hn
      rcases List.mem_cons.mp hx with e1 | hx'
      · rcases List.mem_cons.mp hm with e2 | hm'
        · exact e1.trans e2.symm
        · exact (hn.1 (by rw [← e1, he]; exact List.mem_map_of_mem hm')).elim
      · rcases List.mem_cons.mp hm with e2 | hm'
        · exact (hn.1 (by rw [← e2, ← he]; exact List.mem_map_of_mem hx')).elim
        · exact ih hn.2 hx' hm' he
  exact key gp.mn hx h1 (e.trans h2.symm)
/-- what is known where a value is read -/
structure Kno (ws : List Str) (p : Pg) (d : St) (v : Str) (md : Md) : Prop where
  hw : ∀ x ∈ ws, Sk x
  lw : ws.length ≤ 2
  gp : GP p
  w : WS p d
  hv : Sk v
  hf : p.modes.find? (fun x => decide (x.name = d.1)) = some md
theorem Kno.lv {ws : List Str} {p : Pg} {d : St} {v : Str} {md : Md} (K : Kno ws p d v md) : d.2.length ≤ 1000 := by rw [K.w.w.len]; exact Nat.le_trans K.gp.lb (by omega)
theorem ixb (p : Pg) : pIx p.enc (.int 2) = .ok (.d (strsE p.boxes)) := ix2
theorem ixm (p : Pg) : pIx p.enc (.int 3) = .ok (.d (.tuple (p.modes.map Md.enc))) := ix3
theorem ixs0 (d : St) : pIx (stE d) (.int 0) = .ok (.d (.str d.1)) := ix0
theorem ixs1 (d : St) : pIx (stE d) (.int 1) = .ok (.d (valsE d.2)) := ix1
theorem lb12_ok {ns : List Int} {S : Src} {ws : List Str} {sm : List (Pg × List Str)} {p : Pg} {row : List Str} {kept : Str} {d : St} {v : Str} {s : Sl} {md : Md} (K : Kno ws p d v md) (h : Lt ns S ws sm p row kept d v s) : ((sCons lb1 (sCons lb2 sNil)) s).W fun q => q.1 = .nx ∧ Lt ns S ws sm p row kept d v q.2 := by
  obtain ⟨v4, v7, v8, v9, v13, v14, v15, v16, v17, v18, v19, v20, v21, v22, v23, v24, v25, rfl⟩ := h.ex
  have wq := K.gp.wq
  have e1 : D_u_law_first_rule.run [.val (strsE ws), .val p.enc, .val (stE d), .val (.str v)] = _ := lfirst_ok (m := d.1) (vs := d.2) wq.toWP wq.low wq.nd K.w.w K.hw K.hv K.w.k K.hf
  have e2 : D_rule_done.run [.val (strsE ws), .val p.enc, .val (stE d), .val (.str v)] = _ := done_ok (m := d.1) (vs := d.2) wq.toWP K.w.w K.hw K.hv K.w.k K.hf
  have hm : md ∈ p.modes := List.mem_of_find?_eq_some K.hf
  have so := pRepr_of (show_nat (o := firstIx (holds ws p.boxes d.2 v) md.rules) (fun j hj => Nat.lt_of_lt_of_le (first_lt hj) (K.gp.rls md hm).1))
  simp only [run_mk, List.map_cons, List.map_nil, List.length_cons, List.length_nil, List.cons_append, List.nil_append, List.replicate_succ, List.replicate_zero, Nat.reduceAdd, Nat.reduceSub, List.getElem?_cons_zero, List.getElem?_cons_succ, List.set_cons_zero, List.set_cons_succ, R.bind_ok, sCons, sNil, sIf, sRet, retL, dropL, sSet, setL, sDrop, sUnp, sPar, lNil, lCons, kF, putL, gN, gT, gAll, kC, kX, kD, kG, kS, scl, k1, k2, L.get, L.take, T.toD, aNil, aCons, kTup, kLst, bVal, bAnd, bOr, bNot, kAnd, kOr, kNot, kIf, boolOf, kCall, cNil, cV, cMv, cPass, lend, back, resL, outs, endOf, srcAt, kSGet, kSLen, kInt, SF.get, SF.put, bl, nm, if_true, if_false, Bool.false_eq_true, Bool.not_true, Bool.not_false, lb1, lb2, e1, e2, so, neS_self, R.W_ok]
  exact ⟨trivial, rfl, rfl, rfl, rfl, rfl, rfl, rfl, rfl, rfl, rfl⟩
theorem lC_ok {ns : List Int} {S : Src} {ws : List Str} {sm : List (Pg × List Str)} {p : Pg} {row : List Str} {kept : Str} {d : St} {v : Str} {s : Sl} {md : Md} {b : Bool} {r : Cd × List Ac} (K : Kno ws p d v md) (hr : r ∈ md.rules) (h : Lk ns S ws sm p row kept d v b r.1.enc s) : (lC s).W fun q => q.1 = .nx ∧ Ln ns S ws sm p row kept d v b q.2 := by
  obtain ⟨v4, v7, v8, v9, v13, v15, v16, v17, v18, v19, v20, v21, v22, v23, v25, rfl⟩ := h.ex
  have hm : md ∈ p.modes := List.mem_of_find?_eq_some K.hf
  have g := (K.gp.rls md hm).2 r hr
  have e1 := lholds_ok (ws := ws) K.w.w K.gp.nd K.lv K.hw K.hv (n := 4) (c := r.1) g.wc (Nat.lt_of_le_of_lt g.hg (by omega))
  have e2 := hold_ok (ws := ws) K.w.w K.hw K.hv g.wc (Nat.le_trans g.hg (by omega)) (Nat.le_trans g.sz (by omega))
  have so := pRepr_of (show_bool (holds ws p.boxes d.2 v r.1))
  simp only [run_mk, List.map_cons, List.map_nil, List.length_cons, List.length_nil, List.cons_append, List.nil_append, List.replicate_succ, List.replicate_zero, Nat.reduceAdd, Nat.reduceSub, List.getElem?_cons_zero, List.getElem?_cons_succ, List.set_cons_zero, List.set_cons_succ, R.bind_ok, sCons, sNil, sIf, sRet, retL, dropL, sSet, setL, sDrop, sUnp, sPar, lNil, lCons, kF, putL, gN, gT, gAll, kC, kX, kD, kG, kS, scl, k1, k2, L.get, L.take, T.toD, aNil, aCons, kTup, kLst, bVal, bAnd, bOr, bNot, kAnd, kOr, kNot, kIf, boolOf, kCall, cNil, cV, cMv, cPass, lend, back, resL, outs, endOf, srcAt, kSGet, kSLen, kInt, SF.get, SF.put, bl, nm, if_true, if_false, Bool.false_eq_true, Bool.not_true, Bool.not_false, lC, lc1, lc2, ixb p, ixs1 d, e1, e2, so, neS_self, R.W_ok]
  exact ⟨trivial, rfl, rfl, rfl, rfl, rfl, rfl, rfl, rfl, rfl, rfl, rfl⟩
theorem lY_ok {ns : List Int} {S : Src} {ws : List Str} {sm : List (Pg × List Str)} {p : Pg} {row : List Str} {kept : Str} {d : St} {v : Str} {s : Sl} {md : Md} {b : Bool} {na : Str} (K : Kno ws p d v md) (hb : b = md.yes) (h : Lm ns S ws sm p row kept d v na b (rulesE md) s) : (lY s).W fun q => q.1 = .nx ∧ Lt ns S ws sm p row kept d v q.2 := by
  obtain ⟨l, c1, c2⟩ := cut_map ruleE md.rules (some 2)
  have hn : Ln ns S ws sm p row kept d v b s := by
    obtain ⟨v4, v8, v9, v13, v15, v16, v17, v18, v19, v21, v22, v23, v24, v25, rfl⟩ := h.ex
    exact ⟨rfl, rfl, rfl, rfl, rfl, rfl, rfl, rfl, rfl, rfl, rfl⟩
  have e : ly1 s = forD (gT [gN 24, gN 25]) lC (l.map ruleE) s := by
    obtain ⟨v4, v8, v9, v13, v15, v16, v17, v18, v19, v21, v22, v23, v24, v25, rfl⟩ := h.ex
    have cc : pSl none (some 2) (rulesE md) = .ok (.d (.tuple (l.map ruleE))) := by
      show R.ok (L.d (.tuple (cutD (md.rules.map ruleE) none (some 2)))) = _
      rw [c1]
    simp only [run_mk, List.map_cons, List.map_nil, List.length_cons, List.length_nil, List.cons_append, List.nil_append, List.replicate_succ, List.replicate_zero, Nat.reduceAdd, Nat.reduceSub, List.getElem?_cons_zero, List.getElem?_cons_succ, List.set_cons_zero, List.set_cons_succ, R.bind_ok, sCons, sNil, sIf, sRet, retL, dropL, sSet, setL, sDrop, sUnp, sPar, lNil, lCons, kF, putL, gN, gT, gAll, kC, kX, kD, kG, kS, scl, k1, k2, L.get, L.take, T.toD, aNil, aCons, kTup, kLst, bVal, bAnd, bOr, bNot, kAnd, kOr, kNot, kIf, boolOf, kCall, cNil, cV, cMv, cPass, lend, back, resL, outs, endOf, srcAt, kSGet, kSLen, kInt, SF.get, SF.put, bl, nm, if_true, if_false, Bool.false_eq_true, Bool.not_true, Bool.not_false, ly1, sFor, iSeq, kSl, partOf, cc, seq_t]
  refine sCons_W (P := fun s => Ln ns S ws sm p row kept d v b s) ?_ fun s1 h1 => ?_
  · rw [e]
    exact for_inv (g := gT [gN 24, gN 25]) (b := lC) (ds := l.map ruleE) (s := s) (fun _ s => Ln ns S ws sm p row kept d v b s) hn (fun i x s hx hi => by
      obtain ⟨r, hr, rfl⟩ := List.mem_map.mp (List.mem_of_getElem? hx)
      obtain ⟨v4, v7, v8, v9, v13, v15, v16, v17, v18, v19, v20, v21, v22, v23, v24, v25, rfl⟩ := hi.ex
      refine R.W_of (a := [some (.scr ns), some (.src S), some (.val (strsE ws)), some (.lst (sm.map pairE)), v4, some (.val p.enc), some (.val (strsE row)), v7, v8, v9, some (.val (.str kept)), some (.val (stE d)), some (.val (.str v)), v13, some (.val (.bool b)), v15, v16, v17, v18, v19, v20, v21, v22, v23, some (.val r.1.enc), some (.val (.tuple (r.2.map Ac.enc)))]) rfl ?_
      exact R.W_mono (lC_ok K (c2 r hr) ⟨rfl, rfl, rfl, rfl, rfl, rfl, rfl, rfl, rfl, rfl, rfl, rfl⟩) fun q hq => ⟨.inl hq.1, hq.2⟩)
  · obtain ⟨v4, v7, v8, v9, v13, v15, v16, v17, v18, v19, v20, v21, v22, v23, v24, v25, rfl⟩ := h1.ex
    have e1 : D_program_yes.run [.val p.enc, .val (stE d)] = _ := yes_ok (m := d.1) (vs := d.2) K.w.k K.gp.mok (Nat.le_trans K.gp.lm (by omega)) K.hf
    have so := pRepr_of (show_bool md.yes)
    subst hb
    simp only [run_mk, List.map_cons, List.map_nil, List.length_cons, List.length_nil, List.cons_append, List.nil_append, List.replicate_succ, List.replicate_zero, Nat.reduceAdd, Nat.reduceSub, List.getElem?_cons_zero, List.getElem?_cons_succ, List.set_cons_zero, List.set_cons_succ, R.bind_ok, sCons, sNil, sIf, sRet, retL, dropL, sSet, setL, sDrop, sUnp, sPar, lNil, lCons, kF, putL, gN, gT, gAll, kC, kX, kD, kG, kS, scl, k1, k2, L.get, L.take, T.toD, aNil, aCons, kTup, kLst, bVal, bAnd, bOr, bNot, kAnd, kOr, kNot, kIf, boolOf, kCall, cNil, cV, cMv, cPass, lend, back, resL, outs, endOf, srcAt, kSGet, kSLen, kInt, SF.get, SF.put, bl, nm, if_true, if_false, Bool.false_eq_true, Bool.not_true, Bool.not_false, ly2, e1, so, neS_self, R.W_ok]
    exact ⟨trivial, rfl, rfl, rfl, rfl, rfl, rfl, rfl, rfl, rfl, rfl⟩
theorem lb3_ok {ns : List Int} {S : Src} {ws : List Str} {sm : List (Pg × List Str)} {p : Pg} {row : List Str} {kept : Str} {d : St} {v : Str} {s : Sl} {md : Md} (K : Kno ws p d v md) (h : Lt ns S ws sm p row kept d v s) : (lb3 s).W fun q => q.1 = .nx ∧ Lt ns S ws sm p row kept d v q.2 := by
  have e : lb3 s = forD (gT [gN 20, gN 14, gN 7]) lM (p.modes.map Md.enc) s := by
    obtain ⟨v4, v7, v8, v9, v13, v14, v15, v16, v17, v18, v19, v20, v21, v22, v23, v24, v25, rfl⟩ := h.ex
    simp only [run_mk, List.map_cons, List.map_nil, List.length_cons, List.length_nil, List.cons_append, List.nil_append, List.replicate_succ, List.replicate_zero, Nat.reduceAdd, Nat.reduceSub, List.getElem?_cons_zero, List.getElem?_cons_succ, List.set_cons_zero, List.set_cons_succ, R.bind_ok, sCons, sNil, sIf, sRet, retL, dropL, sSet, setL, sDrop, sUnp, sPar, lNil, lCons, kF, putL, gN, gT, gAll, kC, kX, kD, kG, kS, scl, k1, k2, L.get, L.take, T.toD, aNil, aCons, kTup, kLst, bVal, bAnd, bOr, bNot, kAnd, kOr, kNot, kIf, boolOf, kCall, cNil, cV, cMv, cPass, lend, back, resL, outs, endOf, srcAt, kSGet, kSLen, kInt, SF.get, SF.put, bl, nm, if_true, if_false, Bool.false_eq_true, Bool.not_true, Bool.not_false, lb3, sFor, iSeq, ixm p, seq_t]
  rw [e]
  exact for_inv (g := gT [gN 20, gN 14, gN 7]) (b := lM) (ds := p.modes.map Md.enc) (s := s) (fun _ s => Lt ns S ws sm p row kept d v s) h (fun i x s hx hi => by
    obtain ⟨y, hy, rfl⟩ := List.mem_map.mp (List.mem_of_getElem? hx)
    obtain ⟨v4, v7, v8, v9, v13, v14, v15, v16, v17, v18, v19, v20, v21, v22, v23, v24, v25, rfl⟩ := hi.ex
    refine R.W_of (a := [some (.scr ns), some (.src S), some (.val (strsE ws)), some (.lst (sm.map pairE)), v4, some (.val p.enc), some (.val (strsE row)), some (.val (rulesE y)), v8, v9, some (.val (.str kept)), some (.val (stE d)), some (.val (.str v)), v13, some (.val (.bool y.yes)), v15, v16, v17, v18, v19, some (.val (.str y.name)), v21, v22, v23, v24, v25]) rfl ?_
    have ec := pEq_sk (K.gp.mok y hy) K.w.k
    by_cases hn : y.name = d.1
    · have ey := md_of K.gp K.hf hy hn
      rw [decide_eq_true hn] at ec
      have hY := lY_ok (b := y.yes) (na := y.name) K (by rw [ey]) (show Lm ns S ws sm p row kept d v y.name y.yes (rulesE md) [some (.scr ns), some (.src S), some (.val (strsE ws)), some (.lst (sm.map pairE)), v4, some (.val p.enc), some (.val (strsE row)), some (.val (rulesE y)), v8, v9, some (.val (.str kept)), some (.val (stE d)), some (.val (.str v)), v13, some (.val (.bool y.yes)), v15, v16, v17, v18, v19, some (.val (.str y.name)), v21, v22, v23, v24, v25] from ⟨rfl, rfl, rfl, rfl, rfl, rfl, rfl, rfl, rfl, rfl, by rw [ey]; rfl, rfl, rfl⟩)
      obtain ⟨⟨fl, s2⟩, z1, z2, z3⟩ := R.W_get hY
      simp only at z2
      subst z2
      refine R.W_of (a := (.nx, s2)) ?_ ⟨.inl rfl, z3⟩
      refine (sCons_nx (s1 := s2) ?_).trans rfl
      have hcond : (bVal (k2 pEq (kX 20) (k2 pIx (kX 11) (kC (.int 0))))) [some (.scr ns), some (.src S), some (.val (strsE ws)), some (.lst (sm.map pairE)), v4, some (.val p.enc), some (.val (strsE row)), some (.val (rulesE y)), v8, v9, some (.val (.str kept)), some (.val (stE d)), some (.val (.str v)), v13, some (.val (.bool y.yes)), v15, v16, v17, v18, v19, some (.val (.str y.name)), v21, v22, v23, v24, v25] = .ok (true, [some (.scr ns), some (.src S), some (.val (strsE ws)), some (.lst (sm.map pairE)), v4, some (.val p.enc), some (.val (strsE row)), some (.val (rulesE y)), v8, v9, some (.val (.str kept)), some (.val (stE d)), some (.val (.str v)), v13, some (.val (.bool y.yes)), v15, v16, v17, v18, v19, some (.val (.str y.name)), v21, v22, v23, v24, v25]) := by
        simp only [run_mk, List.map_cons, List.map_nil, List.length_cons, List.length_nil, List.cons_append, List.nil_append, List.replicate_succ, List.replicate_zero, Nat.reduceAdd, Nat.reduceSub, List.getElem?_cons_zero, List.getElem?_cons_succ, List.set_cons_zero, List.set_cons_succ, R.bind_ok, sCons, sNil, sIf, sRet, retL, dropL, sSet, setL, sDrop, sUnp, sPar, lNil, lCons, kF, putL, gN, gT, gAll, kC, kX, kD, kG, kS, scl, k1, k2, L.get, L.take, T.toD, aNil, aCons, kTup, kLst, bVal, bAnd, bOr, bNot, kAnd, kOr, kNot, kIf, boolOf, kCall, cNil, cV, cMv, cPass, lend, back, resL, outs, endOf, srcAt, kSGet, kSLen, kInt, SF.get, SF.put, bl, nm, if_true, if_false, Bool.false_eq_true, Bool.not_true, Bool.not_false, ixs0 d, ec]
      refine Eq.trans ?_ z1
      unfold sIf
      rw [hcond]
      rfl
    · rw [decide_eq_false hn] at ec
      simp only [run_mk, List.map_cons, List.map_nil, List.length_cons, List.length_nil, List.cons_append, List.nil_append, List.replicate_succ, List.replicate_zero, Nat.reduceAdd, Nat.reduceSub, List.getElem?_cons_zero, List.getElem?_cons_succ, List.set_cons_zero, List.set_cons_succ, R.bind_ok, sCons, sNil, sIf, sRet, retL, dropL, sSet, setL, sDrop, sUnp, sPar, lNil, lCons, kF, putL, gN, gT, gAll, kC, kX, kD, kG, kS, scl, k1, k2, L.get, L.take, T.toD, aNil, aCons, kTup, kLst, bVal, bAnd, bOr, bNot, kAnd, kOr, kNot, kIf, boolOf, kCall, cNil, cV, cMv, cPass, lend, back, resL, outs, endOf, srcAt, kSGet, kSLen, kInt, SF.get, SF.put, bl, nm, if_true, if_false, Bool.false_eq_true, Bool.not_true, Bool.not_false, lM, ixs0 d, ec, R.W_ok]
      exact ⟨.inl trivial, rfl, rfl, rfl, rfl, rfl, rfl, rfl, rfl, rfl, rfl⟩)
end K07

set_option Elab.async false
set_option linter.all false
set_option maxRecDepth 100000
set_option maxHeartbeats 4000000
set_option pp.maxSteps 600
namespace K07
open PySem KV

theorem lb456_ok {ns : List Int} {S : Src} {ws : List Str} {sm : List (Pg × List Str)} {p : Pg} {row : List Str} {kept : Str} {d : St} {v : Str} {s : Sl} {md : Md} (K : Kno ws p d v md) (h : Lt ns S ws sm p row kept d v s) (hS : Sok S) : ((sCons lb4 (sCons lb5 (sCons lb6 sNil))) s).W fun q => q.1 = .nx ∧ ∃ S', Lt ns S' ws sm p row kept d v q.2 ∧ Sok S' := by
  obtain ⟨v4, v7, v8, v9, v13, v14, v15, v16, v17, v18, v19, v20, v21, v22, v23, v24, v25, rfl⟩ := h.ex
  obtain ⟨t, S1, e0, wt, hS1⟩ := lthing_ok S ws p.boxes hS K.hw (Nat.le_trans K.lw (by omega)) (Nat.le_trans K.gp.lb (by omega))
  have e1 := lworth_ok (v := v) K.w.w K.gp.nd wt
  have e2 := thing_ok (v := v) K.w.w wt
  have so := pRepr_of ((fit_opt (o := worth p.boxes d.2 t v) (worth_ok K.w.w wt K.hv)).show (by omega) (by omega))
  simp only [run_mk, List.map_cons, List.map_nil, List.length_cons, List.length_nil, List.cons_append, List.nil_append, List.replicate_succ, List.replicate_zero, Nat.reduceAdd, Nat.reduceSub, List.getElem?_cons_zero, List.getElem?_cons_succ, List.set_cons_zero, List.set_cons_succ, R.bind_ok, sCons, sNil, sIf, sRet, retL, dropL, sSet, setL, sDrop, sUnp, sPar, lNil, lCons, kF, putL, gN, gT, gAll, kC, kX, kD, kG, kS, scl, k1, k2, L.get, L.take, T.toD, aNil, aCons, kTup, kLst, bVal, bAnd, bOr, bNot, kAnd, kOr, kNot, kIf, boolOf, kCall, cNil, cV, cMv, cPass, lend, back, resL, outs, endOf, srcAt, kSGet, kSLen, kInt, SF.get, SF.put, bl, nm, if_true, if_false, Bool.false_eq_true, Bool.not_true, Bool.not_false, lb4, lb5, lb6, ixb p, ixs1 d, e0, e1, e2, so, neS_self, R.W_ok]
  exact ⟨trivial, S1, ⟨rfl, rfl, rfl, rfl, rfl, rfl, rfl, rfl, rfl, rfl⟩, hS1⟩
theorem lb789_ok {ns : List Int} {S : Src} {ws : List Str} {sm : List (Pg × List Str)} {p : Pg} {row : List Str} {kept : Str} {d : St} {v : Str} {s : Sl} {md : Md} (K : Kno ws p d v md) (h : Lt ns S ws sm p row kept d v s) : ((sCons lb7 (sCons lb8 (sCons lb9 sNil))) s).W fun q => q.1 = .nx ∧ Ls ns S ws sm p row kept (stepM ws p d v).2 q.2 := by
  obtain ⟨v4, v7, v8, v9, v13, v14, v15, v16, v17, v18, v19, v20, v21, v22, v23, v24, v25, rfl⟩ := h.ex
  have wq := K.gp.wq
  have e1 : D_program_step.run [.val (strsE ws), .val p.enc, .val (stE d), .val (.str v)] = .ok (.val (ansE (stepM ws p d v)), []) := step_ok (m := d.1) (vs := d.2) wq.toWPA K.w.w K.hw K.hv K.w.k K.hf
  have e2 : D_u_law_step.run [.val (strsE ws), .val p.enc, .val (stE d), .val (.str v)] = .ok (.val (ansE (stepM ws p d v)), []) := lstep_ok (m := d.1) (vs := d.2) wq.toWPA wq.low wq.nd K.w.w K.hw K.hv K.w.k K.hf
  obtain ⟨w1, w2, w3⟩ := step_pres (ws := ws) wq.toWPG K.w K.hv
  have so := pRepr_of (show_ansE K.gp w1 w2 w3)
  have i1 : pIx (ansE (stepM ws p d v)) (.int 1) = .ok (.d (stE (stepM ws p d v).2)) := ix1
  simp only [run_mk, List.map_cons, List.map_nil, List.length_cons, List.length_nil, List.cons_append, List.nil_append, List.replicate_succ, List.replicate_zero, Nat.reduceAdd, Nat.reduceSub, List.getElem?_cons_zero, List.getElem?_cons_succ, List.set_cons_zero, List.set_cons_succ, R.bind_ok, sCons, sNil, sIf, sRet, retL, dropL, sSet, setL, sDrop, sUnp, sPar, lNil, lCons, kF, putL, gN, gT, gAll, kC, kX, kD, kG, kS, scl, k1, k2, L.get, L.take, T.toD, aNil, aCons, kTup, kLst, bVal, bAnd, bOr, bNot, kAnd, kOr, kNot, kIf, boolOf, kCall, cNil, cV, cMv, cPass, lend, back, resL, outs, endOf, srcAt, kSGet, kSLen, kInt, SF.get, SF.put, bl, nm, if_true, if_false, Bool.false_eq_true, Bool.not_true, Bool.not_false, lb7, lb8, lb9, e1, e2, so, i1, neS_self, R.W_ok]
  exact ⟨trivial, rfl, rfl, rfl, rfl, rfl, rfl, rfl, rfl, rfl⟩
theorem sCons_two {f g h : SV} {s : Sl} {P : Sl → Prop} {Q : Fl × Sl → Prop} (a : ((sCons f (sCons g sNil)) s).W fun r => r.1 = .nx ∧ P r.2) (k : ∀ s1, P s1 → (h s1).W Q) : (sCons f (sCons g h) s).W Q := by
  have e : sCons f (sCons g h) s = ((sCons f (sCons g sNil)) s).bind fun r => match r.1 with
      | .nx => h r.2
      | fl => .ok (fl, r.2) := by
    unfold sCons sNil
    cases f s with
    | no => rfl
    | ex c ds => rfl
    | ok r =>
      obtain ⟨fl, s1⟩ := r
      cases fl with
      | nx =>
        simp only [R.bind_ok]
        cases g s1 with
        | no => rfl
        | ex c ds => rfl
        | ok q =>
          obtain ⟨fl, s2⟩ := q
          cases fl <;> rfl
      | bk => rfl
      | ct => rfl
      | rt t => rfl
  rw [e]
  obtain ⟨⟨fl, s1⟩, z1, z2, z3⟩ := R.W_get a
  simp only at z2
  subst z2
  rw [z1]
  exact k s1 z3
theorem sCons_three {f g g2 h : SV} {s : Sl} {P : Sl → Prop} {Q : Fl × Sl → Prop} (a : ((sCons f (sCons g (sCons g2 sNil))) s).W fun r => r.1 = .nx ∧ P r.2) (k : ∀ s1, P s1 → (h s1).W Q) : (sCons f (sCons g (sCons g2 h)) s).W Q := by
  have e : sCons f (sCons g (sCons g2 h)) s = ((sCons f (sCons g (sCons g2 sNil))) s).bind fun r => match r.1 with
      | .nx => h r.2
      | fl => .ok (fl, r.2) := by
    unfold sCons sNil
    cases f s with
    | no => rfl
    | ex c ds => rfl
    | ok r =>
      obtain ⟨fl, s1⟩ := r
      cases fl with
      | nx =>
        simp only [R.bind_ok]
        cases g s1 with
        | no => rfl
        | ex c ds => rfl
        | ok q =>
          obtain ⟨fl, s2⟩ := q
          cases fl with
          | nx =>
            simp only [R.bind_ok]
            cases g2 s2 with
            | no => rfl
            | ex c ds => rfl
            | ok q =>
              obtain ⟨fl, s3⟩ := q
              cases fl <;> rfl
          | bk => rfl
          | ct => rfl
          | rt t => rfl
      | bk => rfl
      | ct => rfl
      | rt t => rfl
  rw [e]
  obtain ⟨⟨fl, s1⟩, z1, z2, z3⟩ := R.W_get a
  simp only at z2
  subst z2
  rw [z1]
  exact k s1 z3
theorem lB_ok {ns : List Int} {S : Src} {ws : List Str} {sm : List (Pg × List Str)} {p : Pg} {row : List Str} {kept : Str} {d : St} {v : Str} {s : Sl} {md : Md} (K : Kno ws p d v md) (h : Lt ns S ws sm p row kept d v s) (hS : Sok S) : (lB s).W fun q => q.1 = .nx ∧ ∃ S' d', Ls ns S' ws sm p row kept d' q.2 ∧ WS p d' ∧ Sok S' := by
  have w1 := (step_pres (ws := ws) K.gp.wq.toWPG K.w K.hv).1
  refine sCons_two (lb12_ok K h) fun s1 g1 => sCons_W (lb3_ok K g1) fun s2 g2 => ?_
  refine sCons_three (P := fun s => ∃ S', Lt ns S' ws sm p row kept d v s ∧ Sok S') (lb456_ok K g2 hS) fun s3 ⟨S3, g3, hS3⟩ => ?_
  exact R.W_mono (lb789_ok K g3) fun q hq => ⟨hq.1, S3, _, hq.2, w1, hS3⟩
theorem la1_ok {ns : List Int} {S : Src} {ws : List Str} {sm : List (Pg × List Str)} {p : Pg} {row : List Str} {kept : Str} {d : St} {v : Str} {s : Sl} (h : La ns S ws sm s) (hS : Sok S) (hw : ∀ x ∈ ws, Sk x) (lw : ws.length ≤ 2) : (la1 s).W fun q => q.1 = .nx ∧ ∃ S' p, Lp ns S' ws sm p q.2 ∧ GP p ∧ p.name = Str.ofString "p" ∧ Sok S' := by
  obtain ⟨v4, v5, v6, v7, v8, v9, v10, v11, v12, v13, v14, v15, v16, v17, v18, v19, v20, v21, v22, v23, v24, v25, rfl⟩ := h.ex
  obtain ⟨p, S1, e0, e1, e2, hS1⟩ := lprog_draw (na := "p") hw (Nat.le_trans lw (by omega)) S hS
  simp only [run_mk, List.map_cons, List.map_nil, List.length_cons, List.length_nil, List.cons_append, List.nil_append, List.replicate_succ, List.replicate_zero, Nat.reduceAdd, Nat.reduceSub, List.getElem?_cons_zero, List.getElem?_cons_succ, List.set_cons_zero, List.set_cons_succ, R.bind_ok, sCons, sNil, sIf, sRet, retL, dropL, sSet, setL, sDrop, sUnp, sPar, lNil, lCons, kF, putL, gN, gT, gAll, kC, kX, kD, kG, kS, scl, k1, k2, L.get, L.take, T.toD, aNil, aCons, kTup, kLst, bVal, bAnd, bOr, bNot, kAnd, kOr, kNot, kIf, boolOf, kCall, cNil, cV, cMv, cPass, lend, back, resL, outs, endOf, srcAt, kSGet, kSLen, kInt, SF.get, SF.put, bl, nm, if_true, if_false, Bool.false_eq_true, Bool.not_true, Bool.not_false, la1, e0, R.W_ok]
  exact ⟨trivial, S1, p, ⟨rfl, rfl, rfl, rfl, rfl, rfl⟩, e2, e1, hS1⟩
theorem la2_ok {ns : List Int} {S : Src} {ws : List Str} {sm : List (Pg × List Str)} {p : Pg} {row : List Str} {kept : Str} {d : St} {v : Str} {s : Sl} (h : Lp ns S ws sm p s) (hS : Sok S) (hw : ∀ x ∈ ws, Sk x) (lw : ws.length ≤ 2) : (la2 s).W fun q => q.1 = .nx ∧ ∃ S' row, Lr ns S' ws sm p row q.2 ∧ (∀ x ∈ row, Sk x) ∧ row.length ≤ 40 ∧ Sok S' := by
  obtain ⟨v4, v6, v7, v8, v9, v10, v11, v12, v13, v14, v15, v16, v17, v18, v19, v20, v21, v22, v23, v24, v25, rfl⟩ := h.ex
  obtain ⟨dn, S1, o1, o2, hS1⟩ := of_ok S [.int 3, .int 6, .int 9, .int 40] hS (by simp) (by simp)
  obtain ⟨n, hn, rfl⟩ : ∃ n : Nat, n ≤ 40 ∧ dn = .int n := by
    simp only [List.mem_cons, List.not_mem_nil, or_false] at o2
    rcases o2 with rfl | rfl | rfl | rfl
    · exact ⟨3, by omega, rfl⟩
    · exact ⟨6, by omega, rfl⟩
    · exact ⟨9, by omega, rfl⟩
    · exact ⟨40, by omega, rfl⟩
  obtain ⟨row, S2, e1, e2, e3, hS2⟩ := lrow_draw hw (Nat.le_trans lw (by omega)) (n := n) (i := n) rfl (by omega) S1 hS1
  simp only [run_mk, List.map_cons, List.map_nil, List.length_cons, List.length_nil, List.cons_append, List.nil_append, List.replicate_succ, List.replicate_zero, Nat.reduceAdd, Nat.reduceSub, List.getElem?_cons_zero, List.getElem?_cons_succ, List.set_cons_zero, List.set_cons_succ, R.bind_ok, sCons, sNil, sIf, sRet, retL, dropL, sSet, setL, sDrop, sUnp, sPar, lNil, lCons, kF, putL, gN, gT, gAll, kC, kX, kD, kG, kS, scl, k1, k2, L.get, L.take, T.toD, aNil, aCons, kTup, kLst, bVal, bAnd, bOr, bNot, kAnd, kOr, kNot, kIf, boolOf, kCall, cNil, cV, cMv, cPass, lend, back, resL, outs, endOf, srcAt, kSGet, kSLen, kInt, SF.get, SF.put, bl, nm, if_true, if_false, Bool.false_eq_true, Bool.not_true, Bool.not_false, la2, szOk4, o1, e1, R.W_ok]
  exact ⟨trivial, S2, row, ⟨rfl, rfl, rfl, rfl, rfl, rfl, rfl⟩, e2, by omega, hS2⟩
theorem la3_ok {ns : List Int} {S : Src} {ws : List Str} {sm : List (Pg × List Str)} {p : Pg} {row : List Str} {kept : Str} {d : St} {v : Str} {s : Sl} (h : Lr ns S ws sm p row s) (hl : sm.length ≤ 100) : (la3 s).W fun q => q.1 = .nx ∧ Lr ns S ws (sm ++ [(p, row)]) p row q.2 := by
  obtain ⟨v4, v7, v8, v9, v10, v11, v12, v13, v14, v15, v16, v17, v18, v19, v20, v21, v22, v23, v24, v25, rfl⟩ := h.ex
  have hz : szOk ((sm.map pairE).length + 1) = true := szOk_of (by rw [List.length_map]; omega)
  simp only [run_mk, List.map_cons, List.map_nil, List.length_cons, List.length_nil, List.cons_append, List.nil_append, List.replicate_succ, List.replicate_zero, Nat.reduceAdd, Nat.reduceSub, List.getElem?_cons_zero, List.getElem?_cons_succ, List.set_cons_zero, List.set_cons_succ, R.bind_ok, sCons, sNil, sIf, sRet, retL, dropL, sSet, setL, sDrop, sUnp, sPar, lNil, lCons, kF, putL, gN, gT, gAll, kC, kX, kD, kG, kS, scl, k1, k2, L.get, L.take, T.toD, aNil, aCons, kTup, kLst, bVal, bAnd, bOr, bNot, kAnd, kOr, kNot, kIf, boolOf, kCall, cNil, cV, cMv, cPass, lend, back, resL, outs, endOf, srcAt, kSGet, kSLen, kInt, SF.get, SF.put, bl, nm, if_true, if_false, Bool.false_eq_true, Bool.not_true, Bool.not_false, la3, kApp, szOk2, hz, R.W_ok]
  exact ⟨trivial, rfl, rfl, rfl, rfl, by rw [List.map_append]; rfl, rfl, rfl⟩
theorem la4_ok {ns : List Int} {S : Src} {ws : List Str} {sm : List (Pg × List Str)} {p : Pg} {row : List Str} {kept : Str} {d : St} {v : Str} {s : Sl} (h : Lr ns S ws sm p row s) (gp : GP p) (so : showOk p.enc = true) : (la4 s).W fun q => q.1 = .nx ∧ Ls ns S ws sm p row p.enc.shown (firstM p) q.2 := by
  obtain ⟨v4, v7, v8, v9, v10, v11, v12, v13, v14, v15, v16, v17, v18, v19, v20, v21, v22, v23, v24, v25, rfl⟩ := h.ex
  obtain ⟨m0, F⟩ := ff gp.wq.toWPG
  simp only [run_mk, List.map_cons, List.map_nil, List.length_cons, List.length_nil, List.cons_append, List.nil_append, List.replicate_succ, List.replicate_zero, Nat.reduceAdd, Nat.reduceSub, List.getElem?_cons_zero, List.getElem?_cons_succ, List.set_cons_zero, List.set_cons_succ, R.bind_ok, sCons, sNil, sIf, sRet, retL, dropL, sSet, setL, sDrop, sUnp, sPar, lNil, lCons, kF, putL, gN, gT, gAll, kC, kX, kD, kG, kS, scl, k1, k2, L.get, L.take, T.toD, aNil, aCons, kTup, kLst, bVal, bAnd, bOr, bNot, kAnd, kOr, kNot, kIf, boolOf, kCall, cNil, cV, cMv, cPass, lend, back, resL, outs, endOf, srcAt, kSGet, kSLen, kInt, SF.get, SF.put, bl, nm, if_true, if_false, Bool.false_eq_true, Bool.not_true, Bool.not_false, la4, pRepr_of so, F.f3, F.f30, F.f300, F.f2, F.ln, F.ml, szOk1, szOk2, R.W_ok]
  exact ⟨trivial, rfl, rfl, rfl, rfl, rfl, rfl, rfl, rfl, rfl⟩
theorem la5_ok {ns : List Int} {S : Src} {ws : List Str} {sm : List (Pg × List Str)} {p : Pg} {row : List Str} {kept : Str} {d : St} {v : Str} {s : Sl} (h : Ls ns S ws sm p row kept (firstM p) s) (gp : GP p) : (la5 s).W fun q => q.1 = .nx ∧ Ls ns S ws sm p row kept (firstM p) q.2 := by
  obtain ⟨v4, v7, v8, v9, v12, v13, v14, v15, v16, v17, v18, v19, v20, v21, v22, v23, v24, v25, rfl⟩ := h.ex
  have e := first_ok gp.wq.toWPG
  have so := pRepr_of ((fit_st gp (first_ws gp.wq.toWPG)).show (by omega) (by omega))
  simp only [run_mk, List.map_cons, List.map_nil, List.length_cons, List.length_nil, List.cons_append, List.nil_append, List.replicate_succ, List.replicate_zero, Nat.reduceAdd, Nat.reduceSub, List.getElem?_cons_zero, List.getElem?_cons_succ, List.set_cons_zero, List.set_cons_succ, R.bind_ok, sCons, sNil, sIf, sRet, retL, dropL, sSet, setL, sDrop, sUnp, sPar, lNil, lCons, kF, putL, gN, gT, gAll, kC, kX, kD, kG, kS, scl, k1, k2, L.get, L.take, T.toD, aNil, aCons, kTup, kLst, bVal, bAnd, bOr, bNot, kAnd, kOr, kNot, kIf, boolOf, kCall, cNil, cV, cMv, cPass, lend, back, resL, outs, endOf, srcAt, kSGet, kSLen, kInt, SF.get, SF.put, bl, nm, if_true, if_false, Bool.false_eq_true, Bool.not_true, Bool.not_false, la5, e, so, neS_self, R.W_ok]
  exact ⟨trivial, rfl, rfl, rfl, rfl, rfl, rfl, rfl, rfl, rfl⟩
theorem la6_ok {ns : List Int} {S : Src} {ws : List Str} {sm : List (Pg × List Str)} {p : Pg} {row : List Str} {kept : Str} {d : St} {v : Str} {s : Sl} (h : Ls ns S ws sm p row kept d s) (hS : Sok S) (hw : ∀ x ∈ ws, Sk x) (lw : ws.length ≤ 2) (gp : GP p) (w : WS p d) (hr : ∀ x ∈ row, Sk x) : (la6 s).W fun q => q.1 = .nx ∧ ∃ S' d', Ls ns S' ws sm p row kept d' q.2 ∧ Sok S' := by
  obtain ⟨l, c1, c2⟩ := cut_map PyData.str row (some 12)
  have e : la6 s = forD (gN 12) lB (l.map PyData.str) s := by
    obtain ⟨v4, v7, v8, v9, v12, v13, v14, v15, v16, v17, v18, v19, v20, v21, v22, v23, v24, v25, rfl⟩ := h.ex
    have cc : pSl none (some 12) (strsE row) = .ok (.d (.tuple (l.map PyData.str))) := by
      show R.ok (L.d (.tuple (cutD (row.map PyData.str) none (some 12)))) = _
      rw [c1]
    simp only [run_mk, List.map_cons, List.map_nil, List.length_cons, List.length_nil, List.cons_append, List.nil_append, List.replicate_succ, List.replicate_zero, Nat.reduceAdd, Nat.reduceSub, List.getElem?_cons_zero, List.getElem?_cons_succ, List.set_cons_zero, List.set_cons_succ, R.bind_ok, sCons, sNil, sIf, sRet, retL, dropL, sSet, setL, sDrop, sUnp, sPar, lNil, lCons, kF, putL, gN, gT, gAll, kC, kX, kD, kG, kS, scl, k1, k2, L.get, L.take, T.toD, aNil, aCons, kTup, kLst, bVal, bAnd, bOr, bNot, kAnd, kOr, kNot, kIf, boolOf, kCall, cNil, cV, cMv, cPass, lend, back, resL, outs, endOf, srcAt, kSGet, kSLen, kInt, SF.get, SF.put, bl, nm, if_true, if_false, Bool.false_eq_true, Bool.not_true, Bool.not_false, la6, sFor, iSeq, kSl, partOf, cc, seq_t]
  rw [e]
  refine R.W_mono (for_inv (g := gN 12) (b := lB) (ds := l.map PyData.str) (s := s) (fun _ s => ∃ S' d', Ls ns S' ws sm p row kept d' s ∧ WS p d' ∧ Sok S') ⟨S, d, h, w, hS⟩ (fun i x s hx ⟨S1, d1, g1, w1, hS1⟩ => ?_)) fun q ⟨h1, S1, d1, h2, _, h3⟩ => ⟨h1, S1, d1, h2, h3⟩
  obtain ⟨y, hy, rfl⟩ := List.mem_map.mp (List.mem_of_getElem? hx)
  obtain ⟨md, hf⟩ := w1.md
  obtain ⟨v4, v7, v8, v9, v12, v13, v14, v15, v16, v17, v18, v19, v20, v21, v22, v23, v24, v25, rfl⟩ := g1.ex
  refine R.W_of (a := [some (.scr ns), some (.src S1), some (.val (strsE ws)), some (.lst (sm.map pairE)), v4, some (.val p.enc), some (.val (strsE row)), v7, v8, v9, some (.val (.str kept)), some (.val (stE d1)), some (.val (.str y)), v13, v14, v15, v16, v17, v18, v19, v20, v21, v22, v23, v24, v25]) rfl ?_
  exact R.W_mono (lB_ok (v := y) ⟨hw, lw, gp, w1, hr y (c2 y hy), hf⟩ ⟨rfl, rfl, rfl, rfl, rfl, rfl, rfl, rfl, rfl, rfl⟩ hS1) fun q hq => ⟨.inl hq.1, hq.2⟩
theorem la7_ok {ns : List Int} {S : Src} {ws : List Str} {sm : List (Pg × List Str)} {p : Pg} {row : List Str} {kept : Str} {d : St} {v : Str} {s : Sl} (h : Ls ns S ws sm p row p.enc.shown d s) (so : showOk p.enc = true) : (la7 s).W fun q => q.1 = .nx ∧ La ns S ws sm q.2 := by
  obtain ⟨v4, v7, v8, v9, v12, v13, v14, v15, v16, v17, v18, v19, v20, v21, v22, v23, v24, v25, rfl⟩ := h.ex
  simp only [run_mk, List.map_cons, List.map_nil, List.length_cons, List.length_nil, List.cons_append, List.nil_append, List.replicate_succ, List.replicate_zero, Nat.reduceAdd, Nat.reduceSub, List.getElem?_cons_zero, List.getElem?_cons_succ, List.set_cons_zero, List.set_cons_succ, R.bind_ok, sCons, sNil, sIf, sRet, retL, dropL, sSet, setL, sDrop, sUnp, sPar, lNil, lCons, kF, putL, gN, gT, gAll, kC, kX, kD, kG, kS, scl, k1, k2, L.get, L.take, T.toD, aNil, aCons, kTup, kLst, bVal, bAnd, bOr, bNot, kAnd, kOr, kNot, kIf, boolOf, kCall, cNil, cV, cMv, cPass, lend, back, resL, outs, endOf, srcAt, kSGet, kSLen, kInt, SF.get, SF.put, bl, nm, if_true, if_false, Bool.false_eq_true, Bool.not_true, Bool.not_false, la7, pRepr_of so, neS_self, R.W_ok]
  exact ⟨trivial, rfl, rfl, rfl, rfl, rfl⟩
def okRow (x : Pg × List Str) : Prop := GP x.1 ∧ (∀ y ∈ x.2, Sk y) ∧ x.2.length ≤ 40
theorem sk_pS : Sk (Str.ofString "p") := ⟨by kernel_rfl, Nat.le_of_ble_eq_true (by kernel_rfl)⟩
theorem lA_ok {ns : List Int} {S : Src} {ws : List Str} {sm : List (Pg × List Str)} {p : Pg} {row : List Str} {kept : Str} {d : St} {v : Str} {s : Sl} (h : La ns S ws sm s) (hS : Sok S) (hw : ∀ x ∈ ws, Sk x) (lw : ws.length ≤ 2) (hl : sm.length ≤ 100) (ho : ∀ x ∈ sm, okRow x) : (lA s).W fun q => q.1 = .nx ∧ ∃ S' sm', La ns S' ws sm' q.2 ∧ sm'.length = sm.length + 1 ∧ (∀ x ∈ sm', okRow x) ∧ Sok S' := by
  refine sCons_W (P := fun s => ∃ S' p, Lp ns S' ws sm p s ∧ GP p ∧ p.name = Str.ofString "p" ∧ Sok S') (la1_ok (p := ⟨⟨#[]⟩, [], []⟩) (row := []) (kept := ⟨#[]⟩) (d := (⟨#[]⟩, [])) (v := ⟨#[]⟩) h hS hw lw) fun s1 ⟨S1, p, g1, gp, hp, hS1⟩ => ?_
  have so : showOk p.enc = true := (gp.fit (hp ▸ sk_pS)).show (by omega) (by omega)
  refine sCons_W (P := fun s => ∃ S' row, Lr ns S' ws sm p row s ∧ (∀ x ∈ row, Sk x) ∧ row.length ≤ 40 ∧ Sok S') (la2_ok (row := []) (kept := ⟨#[]⟩) (d := (⟨#[]⟩, [])) (v := ⟨#[]⟩) g1 hS1 hw lw) fun s2 ⟨S2, row, g2, hr, hm, hS2⟩ => ?_
  refine sCons_W (la3_ok (kept := ⟨#[]⟩) (d := (⟨#[]⟩, [])) (v := ⟨#[]⟩) g2 hl) fun s3 g3 => sCons_W (la4_ok (kept := ⟨#[]⟩) (d := (⟨#[]⟩, [])) (v := ⟨#[]⟩) g3 gp so) fun s4 g4 => sCons_W (la5_ok (d := (⟨#[]⟩, [])) (v := ⟨#[]⟩) g4 gp) fun s5 g5 => ?_
  refine sCons_W (P := fun s => ∃ S' d', Ls ns S' ws (sm ++ [(p, row)]) p row p.enc.shown d' s ∧ Sok S') (la6_ok (v := ⟨#[]⟩) g5 hS2 hw lw gp (first_ws gp.wq.toWPG) hr) fun s6 ⟨S6, d6, g6, hS6⟩ => ?_
  refine sCons_W (la7_ok (kept := ⟨#[]⟩) (v := ⟨#[]⟩) g6 so) fun s7 g7 => (show Fl.nx = Fl.nx ∧ _ from ⟨rfl, S6, _, g7, by rw [List.length_append]; rfl, fun x hx => ?_, hS6⟩)
  rcases List.mem_append.mp hx with z | z
  · exact ho x z
  · simp at z; subst z; exact ⟨gp, hr, hm⟩
end K07

set_option Elab.async false
set_option linter.all false
set_option maxRecDepth 100000
set_option maxHeartbeats 4000000
set_option pp.maxSteps 600
namespace K07
open PySem KV
structure Xa (ns : List Int) (S : Src) (ws : List Str) (s : Sl) : Prop where
  len : s.length = 26
  a0 : s[0]? = some (some (.scr ns))
  a1 : s[1]? = some (some (.src S))
  a2 : s[2]? = some (some (.val (strsE ws)))
theorem Xa.ex {ns : List Int} {S : Src} {ws : List Str} {s : Sl} (h : Xa ns S ws s) : ∃ v3 v4 v5 v6 v7 v8 v9 v10 v11 v12 v13 v14 v15 v16 v17 v18 v19 v20 v21 v22 v23 v24 v25, s = [some (.scr ns), some (.src S), some (.val (strsE ws)), v3, v4, v5, v6, v7, v8, v9, v10, v11, v12, v13, v14, v15, v16, v17, v18, v19, v20, v21, v22, v23, v24, v25] := by
  obtain ⟨v0, v1, v2, v3, v4, v5, v6, v7, v8, v9, v10, v11, v12, v13, v14, v15, v16, v17, v18, v19, v20, v21, v22, v23, v24, v25, rfl⟩ := open26 h.len
  cases (show some v0 = some (some _) from h.a0)
  cases (show some v1 = some (some _) from h.a1)
  cases (show some v2 = some (some _) from h.a2)
  exact ⟨_, _, _, _, _, _, _, _, _, _, _, _, _, _, _, _, _, _, _, _, _, _, _, rfl⟩
structure Xb (ns : List Int) (S : Src) (ws : List Str) (p : Pg) (row : List Str) (s : Sl) : Prop where
  len : s.length = 26
  a0 : s[0]? = some (some (.scr ns))
  a1 : s[1]? = some (some (.src S))
  a2 : s[2]? = some (some (.val (strsE ws)))
  a5 : s[5]? = some (some (.val p.enc))
  a6 : s[6]? = some (some (.val (strsE row)))
theorem Xb.ex {ns : List Int} {S : Src} {ws : List Str} {p : Pg} {row : List Str} {s : Sl} (h : Xb ns S ws p row s) : ∃ v3 v4 v7 v8 v9 v10 v11 v12 v13 v14 v15 v16 v17 v18 v19 v20 v21 v22 v23 v24 v25, s = [some (.scr ns), some (.src S), some (.val (strsE ws)), v3, v4, some (.val p.enc), some (.val (strsE row)), v7, v8, v9, v10, v11, v12, v13, v14, v15, v16, v17, v18, v19, v20, v21, v22, v23, v24, v25] := by
  obtain ⟨v0, v1, v2, v3, v4, v5, v6, v7, v8, v9, v10, v11, v12, v13, v14, v15, v16, v17, v18, v19, v20, v21, v22, v23, v24, v25, rfl⟩ := open26 h.len
  cases (show some v0 = some (some _) from h.a0)
  cases (show some v1 = some (some _) from h.a1)
  cases (show some v2 = some (some _) from h.a2)
  cases (show some v5 = some (some _) from h.a5)
  cases (show some v6 = some (some _) from h.a6)
  exact ⟨_, _, _, _, _, _, _, _, _, _, _, _, _, _, _, _, _, _, _, _, _, rfl⟩
structure Xc (ns : List Int) (S : Src) (ws : List Str) (p : Pg) (row : List Str) (A : List (List Str)) (b : Bool) (d : St) (s : Sl) : Prop where
  len : s.length = 26
  a0 : s[0]? = some (some (.scr ns))
  a1 : s[1]? = some (some (.src S))
  a2 : s[2]? = some (some (.val (strsE ws)))
  a5 : s[5]? = some (some (.val p.enc))
  a6 : s[6]? = some (some (.val (strsE row)))
  a11 : s[11]? = some (some (.val (stE d)))
  a13 : s[13]? = some (some (.val (lotsE A)))
  a14 : s[14]? = some (some (.val (.bool b)))
theorem Xc.ex {ns : List Int} {S : Src} {ws : List Str} {p : Pg} {row : List Str} {A : List (List Str)} {b : Bool} {d : St} {s : Sl} (h : Xc ns S ws p row A b d s) : ∃ v3 v4 v7 v8 v9 v10 v12 v15 v16 v17 v18 v19 v20 v21 v22 v23 v24 v25, s = [some (.scr ns), some (.src S), some (.val (strsE ws)), v3, v4, some (.val p.enc), some (.val (strsE row)), v7, v8, v9, v10, some (.val (stE d)), v12, some (.val (lotsE A)), some (.val (.bool b)), v15, v16, v17, v18, v19, v20, v21, v22, v23, v24, v25] := by
  obtain ⟨v0, v1, v2, v3, v4, v5, v6, v7, v8, v9, v10, v11, v12, v13, v14, v15, v16, v17, v18, v19, v20, v21, v22, v23, v24, v25, rfl⟩ := open26 h.len
  cases (show some v0 = some (some _) from h.a0)
  cases (show some v1 = some (some _) from h.a1)
  cases (show some v2 = some (some _) from h.a2)
  cases (show some v5 = some (some _) from h.a5)
  cases (show some v6 = some (some _) from h.a6)
  cases (show some v11 = some (some _) from h.a11)
  cases (show some v13 = some (some _) from h.a13)
  cases (show some v14 = some (some _) from h.a14)
  exact ⟨_, _, _, _, _, _, _, _, _, _, _, _, _, _, _, _, _, _, rfl⟩
structure Xd (ns : List Int) (S : Src) (ws : List Str) (p : Pg) (row : List Str) (A : List (List Str)) (b : Bool) (d : St) (n : Nat) (s : Sl) : Prop where
  len : s.length = 26
  a0 : s[0]? = some (some (.scr ns))
  a1 : s[1]? = some (some (.src S))
  a2 : s[2]? = some (some (.val (strsE ws)))
  a5 : s[5]? = some (some (.val p.enc))
  a6 : s[6]? = some (some (.val (strsE row)))
  a11 : s[11]? = some (some (.val (stE d)))
  a13 : s[13]? = some (some (.val (lotsE A)))
  a14 : s[14]? = some (some (.val (.bool b)))
  a15 : s[15]? = some (some (.val (.int (n : Nat))))
theorem Xd.ex {ns : List Int} {S : Src} {ws : List Str} {p : Pg} {row : List Str} {A : List (List Str)} {b : Bool} {d : St} {n : Nat} {s : Sl} (h : Xd ns S ws p row A b d n s) : ∃ v3 v4 v7 v8 v9 v10 v12 v16 v17 v18 v19 v20 v21 v22 v23 v24 v25, s = [some (.scr ns), some (.src S), some (.val (strsE ws)), v3, v4, some (.val p.enc), some (.val (strsE row)), v7, v8, v9, v10, some (.val (stE d)), v12, some (.val (lotsE A)), some (.val (.bool b)), some (.val (.int (n : Nat))), v16, v17, v18, v19, v20, v21, v22, v23, v24, v25] := by
  obtain ⟨v0, v1, v2, v3, v4, v5, v6, v7, v8, v9, v10, v11, v12, v13, v14, v15, v16, v17, v18, v19, v20, v21, v22, v23, v24, v25, rfl⟩ := open26 h.len
  cases (show some v0 = some (some _) from h.a0)
  cases (show some v1 = some (some _) from h.a1)
  cases (show some v2 = some (some _) from h.a2)
  cases (show some v5 = some (some _) from h.a5)
  cases (show some v6 = some (some _) from h.a6)
  cases (show some v11 = some (some _) from h.a11)
  cases (show some v13 = some (some _) from h.a13)
  cases (show some v14 = some (some _) from h.a14)
  cases (show some v15 = some (some _) from h.a15)
  exact ⟨_, _, _, _, _, _, _, _, _, _, _, _, _, _, _, _, _, rfl⟩
structure Xe (ns : List Int) (S : Src) (ws : List Str) (p : Pg) (row : List Str) (A : List (List Str)) (b : Bool) (d : St) (n : Nat) (s : Sl) : Prop where
  len : s.length = 26
  a0 : s[0]? = some (some (.scr ns))
  a1 : s[1]? = some (some (.src S))
  a2 : s[2]? = some (some (.val (strsE ws)))
  a5 : s[5]? = some (some (.val p.enc))
  a6 : s[6]? = some (some (.val (strsE row)))
  a11 : s[11]? = some (some (.val (stE d)))
  a13 : s[13]? = some (some (.val (lotsE A)))
  a14 : s[14]? = some (some (.val (.bool b)))
  a15 : s[15]? = some (some (.val (.int (n : Nat))))
  a16 : s[16]? = some (some (.val (lotsE [row.take n, [], row.drop n])))
theorem Xe.ex {ns : List Int} {S : Src} {ws : List Str} {p : Pg} {row : List Str} {A : List (List Str)} {b : Bool} {d : St} {n : Nat} {s : Sl} (h : Xe ns S ws p row A b d n s) : ∃ v3 v4 v7 v8 v9 v10 v12 v17 v18 v19 v20 v21 v22 v23 v24 v25, s = [some (.scr ns), some (.src S), some (.val (strsE ws)), v3, v4, some (.val p.enc), some (.val (strsE row)), v7, v8, v9, v10, some (.val (stE d)), v12, some (.val (lotsE A)), some (.val (.bool b)), some (.val (.int (n : Nat))), some (.val (lotsE [row.take n, [], row.drop n])), v17, v18, v19, v20, v21, v22, v23, v24, v25] := by
  obtain ⟨v0, v1, v2, v3, v4, v5, v6, v7, v8, v9, v10, v11, v12, v13, v14, v15, v16, v17, v18, v19, v20, v21, v22, v23, v24, v25, rfl⟩ := open26 h.len
  cases (show some v0 = some (some _) from h.a0)
  cases (show some v1 = some (some _) from h.a1)
  cases (show some v2 = some (some _) from h.a2)
  cases (show some v5 = some (some _) from h.a5)
  cases (show some v6 = some (some _) from h.a6)
  cases (show some v11 = some (some _) from h.a11)
  cases (show some v13 = some (some _) from h.a13)
  cases (show some v14 = some (some _) from h.a14)
  cases (show some v15 = some (some _) from h.a15)
  cases (show some v16 = some (some _) from h.a16)
  exact ⟨_, _, _, _, _, _, _, _, _, _, _, _, _, _, _, _, rfl⟩
structure Xf (ns : List Int) (S : Src) (ws : List Str) (p : Pg) (row : List Str) (A : List (List Str)) (b : Bool) (d : St) (n : Nat) (bo : List D) (s : Sl) : Prop where
  len : s.length = 26
  a0 : s[0]? = some (some (.scr ns))
  a1 : s[1]? = some (some (.src S))
  a2 : s[2]? = some (some (.val (strsE ws)))
  a5 : s[5]? = some (some (.val p.enc))
  a6 : s[6]? = some (some (.val (strsE row)))
  a11 : s[11]? = some (some (.val (stE d)))
  a13 : s[13]? = some (some (.val (lotsE A)))
  a14 : s[14]? = some (some (.val (.bool b)))
  a15 : s[15]? = some (some (.val (.int (n : Nat))))
  a16 : s[16]? = some (some (.val (lotsE [row.take n, [], row.drop n])))
  a17 : s[17]? = some (some (.lst bo))
theorem Xf.ex {ns : List Int} {S : Src} {ws : List Str} {p : Pg} {row : List Str} {A : List (List Str)} {b : Bool} {d : St} {n : Nat} {bo : List D} {s : Sl} (h : Xf ns S ws p row A b d n bo s) : ∃ v3 v4 v7 v8 v9 v10 v12 v18 v19 v20 v21 v22 v23 v24 v25, s = [some (.scr ns), some (.src S), some (.val (strsE ws)), v3, v4, some (.val p.enc), some (.val (strsE row)), v7, v8, v9, v10, some (.val (stE d)), v12, some (.val (lotsE A)), some (.val (.bool b)), some (.val (.int (n : Nat))), some (.val (lotsE [row.take n, [], row.drop n])), some (.lst bo), v18, v19, v20, v21, v22, v23, v24, v25] := by
  obtain ⟨v0, v1, v2, v3, v4, v5, v6, v7, v8, v9, v10, v11, v12, v13, v14, v15, v16, v17, v18, v19, v20, v21, v22, v23, v24, v25, rfl⟩ := open26 h.len
  cases (show some v0 = some (some _) from h.a0)
  cases (show some v1 = some (some _) from h.a1)
  cases (show some v2 = some (some _) from h.a2)
  cases (show some v5 = some (some _) from h.a5)
  cases (show some v6 = some (some _) from h.a6)
  cases (show some v11 = some (some _) from h.a11)
  cases (show some v13 = some (some _) from h.a13)
  cases (show some v14 = some (some _) from h.a14)
  cases (show some v15 = some (some _) from h.a15)
  cases (show some v16 = some (some _) from h.a16)
  cases (show some v17 = some (some _) from h.a17)
  exact ⟨_, _, _, _, _, _, _, _, _, _, _, _, _, _, _, rfl⟩
structure Xg (ns : List Int) (S : Src) (ws : List Str) (p : Pg) (row : List Str) (A : List (List Str)) (b : Bool) (d : St) (n : Nat) (bo : List D) (pt : List (List Str)) (s : Sl) : Prop where
  len : s.length = 26
  a0 : s[0]? = some (some (.scr ns))
  a1 : s[1]? = some (some (.src S))
  a2 : s[2]? = some (some (.val (strsE ws)))
  a5 : s[5]? = some (some (.val p.enc))
  a6 : s[6]? = some (some (.val (strsE row)))
  a11 : s[11]? = some (some (.val (stE d)))
  a13 : s[13]? = some (some (.val (lotsE A)))
  a14 : s[14]? = some (some (.val (.bool b)))
  a15 : s[15]? = some (some (.val (.int (n : Nat))))
  a16 : s[16]? = some (some (.val (lotsE [row.take n, [], row.drop n])))
  a17 : s[17]? = some (some (.lst bo))
  a18 : s[18]? = some (some (.val (lotsE pt)))
theorem Xg.ex {ns : List Int} {S : Src} {ws : List Str} {p : Pg} {row : List Str} {A : List (List Str)} {b : Bool} {d : St} {n : Nat} {bo : List D} {pt : List (List Str)} {s : Sl} (h : Xg ns S ws p row A b d n bo pt s) : ∃ v3 v4 v7 v8 v9 v10 v12 v19 v20 v21 v22 v23 v24 v25, s = [some (.scr ns), some (.src S), some (.val (strsE ws)), v3, v4, some (.val p.enc), some (.val (strsE row)), v7, v8, v9, v10, some (.val (stE d)), v12, some (.val (lotsE A)), some (.val (.bool b)), some (.val (.int (n : Nat))), some (.val (lotsE [row.take n, [], row.drop n])), some (.lst bo), some (.val (lotsE pt)), v19, v20, v21, v22, v23, v24, v25] := by
  obtain ⟨v0, v1, v2, v3, v4, v5, v6, v7, v8, v9, v10, v11, v12, v13, v14, v15, v16, v17, v18, v19, v20, v21, v22, v23, v24, v25, rfl⟩ := open26 h.len
  cases (show some v0 = some (some _) from h.a0)
  cases (show some v1 = some (some _) from h.a1)
  cases (show some v2 = some (some _) from h.a2)
  cases (show some v5 = some (some _) from h.a5)
  cases (show some v6 = some (some _) from h.a6)
  cases (show some v11 = some (some _) from h.a11)
  cases (show some v13 = some (some _) from h.a13)
  cases (show some v14 = some (some _) from h.a14)
  cases (show some v15 = some (some _) from h.a15)
  cases (show some v16 = some (some _) from h.a16)
  cases (show some v17 = some (some _) from h.a17)
  cases (show some v18 = some (some _) from h.a18)
  exact ⟨_, _, _, _, _, _, _, _, _, _, _, _, _, _, rfl⟩
structure Xh (ns : List Int) (S : Src) (ws : List Str) (p : Pg) (row : List Str) (A : List (List Str)) (b : Bool) (d : St) (n : Nat) (bo : List D) (pt : List (List Str)) (w : List Str) (s : Sl) : Prop where
  len : s.length = 26
  a0 : s[0]? = some (some (.scr ns))
  a1 : s[1]? = some (some (.src S))
  a2 : s[2]? = some (some (.val (strsE ws)))
  a5 : s[5]? = some (some (.val p.enc))
  a6 : s[6]? = some (some (.val (strsE row)))
  a11 : s[11]? = some (some (.val (stE d)))
  a13 : s[13]? = some (some (.val (lotsE A)))
  a14 : s[14]? = some (some (.val (.bool b)))
  a15 : s[15]? = some (some (.val (.int (n : Nat))))
  a16 : s[16]? = some (some (.val (lotsE [row.take n, [], row.drop n])))
  a17 : s[17]? = some (some (.lst bo))
  a18 : s[18]? = some (some (.val (lotsE pt)))
  a22 : s[22]? = some (some (.val (strsE w)))
theorem Xh.ex {ns : List Int} {S : Src} {ws : List Str} {p : Pg} {row : List Str} {A : List (List Str)} {b : Bool} {d : St} {n : Nat} {bo : List D} {pt : List (List Str)} {w : List Str} {s : Sl} (h : Xh ns S ws p row A b d n bo pt w s) : ∃ v3 v4 v7 v8 v9 v10 v12 v19 v20 v21 v23 v24 v25, s = [some (.scr ns), some (.src S), some (.val (strsE ws)), v3, v4, some (.val p.enc), some (.val (strsE row)), v7, v8, v9, v10, some (.val (stE d)), v12, some (.val (lotsE A)), some (.val (.bool b)), some (.val (.int (n : Nat))), some (.val (lotsE [row.take n, [], row.drop n])), some (.lst bo), some (.val (lotsE pt)), v19, v20, v21, some (.val (strsE w)), v23, v24, v25] := by
  obtain ⟨v0, v1, v2, v3, v4, v5, v6, v7, v8, v9, v10, v11, v12, v13, v14, v15, v16, v17, v18, v19, v20, v21, v22, v23, v24, v25, rfl⟩ := open26 h.len
  cases (show some v0 = some (some _) from h.a0)
  cases (show some v1 = some (some _) from h.a1)
  cases (show some v2 = some (some _) from h.a2)
  cases (show some v5 = some (some _) from h.a5)
  cases (show some v6 = some (some _) from h.a6)
  cases (show some v11 = some (some _) from h.a11)
  cases (show some v13 = some (some _) from h.a13)
  cases (show some v14 = some (some _) from h.a14)
  cases (show some v15 = some (some _) from h.a15)
  cases (show some v16 = some (some _) from h.a16)
  cases (show some v17 = some (some _) from h.a17)
  cases (show some v18 = some (some _) from h.a18)
  cases (show some v22 = some (some _) from h.a22)
  exact ⟨_, _, _, _, _, _, _, _, _, _, _, _, _, rfl⟩

theorem fit_lots2 {k n : Nat} {ls : List (List Str)} (h : ∀ l ∈ ls, (∀ x ∈ l, Sk x) ∧ l.length ≤ k) (hn : ls.length ≤ n) : fit 2 (n * (k * 21 + 1)) (lotsE ls) := fit_tup (n := 1) (m := k * 21) (fun d hd => by
  obtain ⟨l, hl, rfl⟩ := List.mem_map.mp hd
  exact fit_tup (n := 0) (m := 20) (fit_strs (h l hl).1) (by rw [List.length_map]; exact (h l hl).2)) (by rw [List.length_map]; exact hn)
theorem show_tri {p : Pg} {d : St} {b : Bool} {k n : Nat} {ls : List (List Str)} (gp : GP p) (w : WS p d) (h : ∀ l ∈ ls, (∀ x ∈ l, Sk x) ∧ l.length ≤ k) (hn : ls.length ≤ n) (hb : n * (k * 21 + 1) ≤ 10000) : showOk (.tuple [lotsE ls, .bool b, stE d]) = true := (fit_tup (n := 2) (m := 10000) (k := 3) (fun x hx => by
  simp only [List.mem_cons, List.not_mem_nil, or_false] at hx
  rcases hx with rfl | rfl | rfl
  · exact (fit_lots2 h hn).mono (Nat.le_refl _) hb
  · exact fit_bool
  · exact (fit_st gp w).mono (Nat.le_refl _) (by omega)) (by simp)).show (by omega) (by omega)
theorem cut_take {α : Type} {f : α → D} {l : List α} {k : Nat} (h : k ≤ l.length) : cutD (l.map f) none (some (k : Int)) = (l.take k).map f := by
  unfold cutD
  rw [HT.sIx_nat, HT.sIx_none, List.length_map, List.drop_zero, Nat.sub_zero, Nat.min_eq_left h, List.map_take]
theorem cut_drop {α : Type} {f : α → D} {l : List α} {k : Nat} (h : k ≤ l.length) : cutD (l.map f) (some (k : Int)) none = (l.drop k).map f := by
  unfold cutD
  rw [HT.sIx_nat, HT.sIx_none, List.length_map, Nat.min_eq_left h, List.map_drop, List.take_of_length_le (by rw [List.length_drop, List.length_map]; exact Nat.le_refl _)]
theorem le1_ok {ns : List Int} {S : Src} {ws : List Str} {p : Pg} {row : List Str} {A : List (List Str)} {b : Bool} {d : St} {s : Sl} {md : Md} (h : Xb ns S ws p row s) (hr : D_u_law_run.run [.val (strsE ws), .val p.enc, .val (strsE row)] = .ok (.val (.tuple [lotsE A, .bool md.yes, stE d]), [])) : (le1 s).W fun q => q.1 = .nx ∧ Xc ns S ws p row A md.yes d q.2 := by
  obtain ⟨v3, v4, v7, v8, v9, v10, v11, v12, v13, v14, v15, v16, v17, v18, v19, v20, v21, v22, v23, v24, v25, rfl⟩ := h.ex
  simp only [run_mk, List.map_cons, List.map_nil, List.length_cons, List.length_nil, List.cons_append, List.nil_append, List.replicate_succ, List.replicate_zero, Nat.reduceAdd, Nat.reduceSub, List.getElem?_cons_zero, List.getElem?_cons_succ, List.set_cons_zero, List.set_cons_succ, R.bind_ok, sCons, sNil, sIf, sRet, retL, dropL, sSet, setL, sDrop, sUnp, sPar, lNil, lCons, kF, putL, gN, gT, gAll, kC, kX, kD, kG, kS, scl, k1, k2, L.get, L.take, T.toD, aNil, aCons, kTup, kLst, bVal, bAnd, bOr, bNot, kAnd, kOr, kNot, kIf, boolOf, kCall, cNil, cV, cMv, cPass, lend, back, resL, outs, endOf, srcAt, kSGet, kSLen, kInt, SF.get, SF.put, bl, nm, if_true, if_false, Bool.false_eq_true, Bool.not_true, Bool.not_false, le1, hr, R.W_ok]
  exact ⟨trivial, rfl, rfl, rfl, rfl, rfl, rfl, rfl, rfl, rfl⟩
theorem le2_ok {ns : List Int} {S : Src} {ws : List Str} {p : Pg} {row : List Str} {A : List (List Str)} {b : Bool} {d : St} {s : Sl} (h : Xc ns S ws p row A b d s) (hl : row.length ≤ 1000) (hr : ∀ ld, seqOf ld = .ok ((row.map fun v => [v]).map strsE) → D_program_run.run [.val (strsE ws), .val p.enc, .val ld] = .ok (.val (.tuple [lotsE A, .bool b, stE d]), [])) (so : showOk (.tuple [lotsE A, .bool b, stE d]) = true) : (le2 s).W fun q => q.1 = .nx ∧ Xc ns S ws p row A b d q.2 := by
  obtain ⟨v3, v4, v7, v8, v9, v10, v12, v15, v16, v17, v18, v19, v20, v21, v22, v23, v24, v25, rfl⟩ := h.ex
  obtain ⟨s', hc, hs⟩ := comp_map2 (g := gN 12) (c := none) (f := kTup (aCons (kX 12) aNil)) (own := [12]) (s := [some (.scr ns), some (.src S), some (.val (strsE ws)), v3, v4, some (.val p.enc), some (.val (strsE row)), v7, v8, v9, v10, some (.val (stE d)), v12, some (.val (lotsE A)), some (.val (.bool b)), v15, v16, v17, v18, v19, v20, v21, v22, v23, v24, v25]) PyData.str (fun x => [some (.scr ns), some (.src S), some (.val (strsE ws)), v3, v4, some (.val p.enc), some (.val (strsE row)), v7, v8, v9, v10, some (.val (stE d)), some (.val (.str x)), some (.val (lotsE A)), some (.val (.bool b)), v15, v16, v17, v18, v19, v20, v21, v22, v23, v24, v25]) (fun _ => true) (fun x => strsE [x]) rfl (xs := row)
    (fun x hx => ⟨rfl, rfl, rfl, fun _ => by simp only [run_mk, List.map_cons, List.map_nil, List.length_cons, List.length_nil, List.cons_append, List.nil_append, List.replicate_succ, List.replicate_zero, Nat.reduceAdd, Nat.reduceSub, List.getElem?_cons_zero, List.getElem?_cons_succ, List.set_cons_zero, List.set_cons_succ, R.bind_ok, sCons, sNil, sIf, sRet, retL, dropL, sSet, setL, sDrop, sUnp, sPar, lNil, lCons, kF, putL, gN, gT, gAll, kC, kX, kD, kG, kS, scl, k1, k2, L.get, L.take, T.toD, aNil, aCons, kTup, kLst, bVal, bAnd, bOr, bNot, kAnd, kOr, kNot, kIf, boolOf, kCall, cNil, cV, cMv, cPass, lend, back, resL, outs, endOf, srcAt, kSGet, kSLen, kInt, SF.get, SF.put, bl, nm, if_true, if_false, Bool.false_eq_true, Bool.not_true, Bool.not_false, szOk1]; rfl⟩)
  have hf : ((row.filter fun _ => true).map fun x => strsE [x]) = (row.map fun v => [v]).map strsE := by
    rw [List.filter_eq_self.mpr (fun _ _ => rfl), List.map_map]
    rfl
  rw [hf] at hc
  have ht : ∃ t, s' = [some (.scr ns), some (.src S), some (.val (strsE ws)), v3, v4, some (.val p.enc), some (.val (strsE row)), v7, v8, v9, v10, some (.val (stE d)), t, some (.val (lotsE A)), some (.val (.bool b)), v15, v16, v17, v18, v19, v20, v21, v22, v23, v24, v25] := by
    rcases hs with rfl | rfl
    · exact ⟨_, rfl⟩
    · exact ⟨_, rfl⟩
  obtain ⟨t, rfl⟩ := ht
  have hz : szOk ((row.map fun v => [v]).map strsE).length = true := szOk_of (by rw [List.length_map, List.length_map]; omega)
  have hq : seqOf (strsE row) = .ok (row.map PyData.str) := rfl
  have e := hr (.tuple ((row.map fun v => [v]).map strsE)) rfl
  simp only [run_mk, List.map_cons, List.map_nil, List.length_cons, List.length_nil, List.cons_append, List.nil_append, List.replicate_succ, List.replicate_zero, Nat.reduceAdd, Nat.reduceSub, List.getElem?_cons_zero, List.getElem?_cons_succ, List.set_cons_zero, List.set_cons_succ, R.bind_ok, sCons, sNil, sIf, sRet, retL, dropL, sSet, setL, sDrop, sUnp, sPar, lNil, lCons, kF, putL, gN, gT, gAll, kC, kX, kD, kG, kS, scl, k1, k2, L.get, L.take, T.toD, aNil, aCons, kTup, kLst, bVal, bAnd, bOr, bNot, kAnd, kOr, kNot, kIf, boolOf, kCall, cNil, cV, cMv, cPass, lend, back, resL, outs, endOf, srcAt, kSGet, kSLen, kInt, SF.get, SF.put, bl, nm, if_true, if_false, Bool.false_eq_true, Bool.not_true, Bool.not_false, le2, kComp, iSeq, hq, hc, hz, pTuple, e, szOk3, pRepr_of so, neS_self, R.W_ok]
  exact ⟨trivial, rfl, rfl, rfl, rfl, rfl, rfl, rfl, rfl, rfl⟩
theorem le3_ok {ns : List Int} {S : Src} {ws : List Str} {p : Pg} {row : List Str} {A : List (List Str)} {b : Bool} {d : St} {s : Sl} (h : Xc ns S ws p row A b d s) (hS : Sok S) (hl : row.length ≤ 1000) : (le3 s).W fun q => q.1 = .nx ∧ ∃ S' n, Xd ns S' ws p row A b d n q.2 ∧ n ≤ row.length ∧ Sok S' := by
  obtain ⟨v3, v4, v7, v8, v9, v10, v12, v15, v16, v17, v18, v19, v20, v21, v22, v23, v24, v25, rfl⟩ := h.ex
  obtain ⟨n, S1, p1, p2, hS1⟩ := pickI (n := row.length + 1) (((row.map PyData.str).length : Nat) + 1) S (by rw [List.length_map]; rfl) hS (by omega) (by omega)
  have hp : pLen (strsE row) = .ok (.d (.int ((row.map PyData.str).length : Nat))) := rfl
  simp only [run_mk, List.map_cons, List.map_nil, List.length_cons, List.length_nil, List.cons_append, List.nil_append, List.replicate_succ, List.replicate_zero, Nat.reduceAdd, Nat.reduceSub, List.getElem?_cons_zero, List.getElem?_cons_succ, List.set_cons_zero, List.set_cons_succ, R.bind_ok, sCons, sNil, sIf, sRet, retL, dropL, sSet, setL, sDrop, sUnp, sPar, lNil, lCons, kF, putL, gN, gT, gAll, kC, kX, kD, kG, kS, scl, k1, k2, L.get, L.take, T.toD, aNil, aCons, kTup, kLst, bVal, bAnd, bOr, bNot, kAnd, kOr, kNot, kIf, boolOf, kCall, cNil, cV, cMv, cPass, lend, back, resL, outs, endOf, srcAt, kSGet, kSLen, kInt, SF.get, SF.put, bl, nm, if_true, if_false, Bool.false_eq_true, Bool.not_true, Bool.not_false, le3, hp, pAdd, p1, R.W_ok]
  exact ⟨trivial, S1, n, ⟨rfl, rfl, rfl, rfl, rfl, rfl, rfl, rfl, rfl, rfl⟩, by omega, hS1⟩
theorem le4_ok {ns : List Int} {S : Src} {ws : List Str} {p : Pg} {row : List Str} {A : List (List Str)} {b : Bool} {d : St} {s : Sl} {n : Nat} (h : Xd ns S ws p row A b d n s) (hn : n ≤ row.length) : (le4 s).W fun q => q.1 = .nx ∧ Xe ns S ws p row A b d n q.2 := by
  obtain ⟨v3, v4, v7, v8, v9, v10, v12, v16, v17, v18, v19, v20, v21, v22, v23, v24, v25, rfl⟩ := h.ex
  have c1 : pSl none (some (n : Int)) (strsE row) = .ok (.d (strsE (row.take n))) := by
    show R.ok (L.d (.tuple (cutD (row.map PyData.str) none (some (n : Int))))) = _
    rw [cut_take hn]; rfl
  have c2 : pSl (some (n : Int)) none (strsE row) = .ok (.d (strsE (row.drop n))) := by
    show R.ok (L.d (.tuple (cutD (row.map PyData.str) (some (n : Int)) none))) = _
    rw [cut_drop hn]; rfl
  simp only [run_mk, List.map_cons, List.map_nil, List.length_cons, List.length_nil, List.cons_append, List.nil_append, List.replicate_succ, List.replicate_zero, Nat.reduceAdd, Nat.reduceSub, List.getElem?_cons_zero, List.getElem?_cons_succ, List.set_cons_zero, List.set_cons_succ, R.bind_ok, sCons, sNil, sIf, sRet, retL, dropL, sSet, setL, sDrop, sUnp, sPar, lNil, lCons, kF, putL, gN, gT, gAll, kC, kX, kD, kG, kS, scl, k1, k2, L.get, L.take, T.toD, aNil, aCons, kTup, kLst, bVal, bAnd, bOr, bNot, kAnd, kOr, kNot, kIf, boolOf, kCall, cNil, cV, cMv, cPass, lend, back, resL, outs, endOf, srcAt, kSGet, kSLen, kInt, SF.get, SF.put, bl, nm, if_true, if_false, Bool.false_eq_true, Bool.not_true, Bool.not_false, le4, kSl, partOf, c1, c2, szOk0, szOk3, R.W_ok]
  exact ⟨trivial, rfl, rfl, rfl, rfl, rfl, rfl, rfl, rfl, rfl, rfl, rfl⟩
theorem le5_ok {ns : List Int} {S : Src} {ws : List Str} {p : Pg} {row : List Str} {A : List (List Str)} {b : Bool} {d : St} {s : Sl} {n : Nat} (h : Xe ns S ws p row A b d n s) : (le5 s).W fun q => q.1 = .nx ∧ Xf ns S ws p row A b d n [] q.2 := by
  obtain ⟨v3, v4, v7, v8, v9, v10, v12, v17, v18, v19, v20, v21, v22, v23, v24, v25, rfl⟩ := h.ex
  simp only [run_mk, List.map_cons, List.map_nil, List.length_cons, List.length_nil, List.cons_append, List.nil_append, List.replicate_succ, List.replicate_zero, Nat.reduceAdd, Nat.reduceSub, List.getElem?_cons_zero, List.getElem?_cons_succ, List.set_cons_zero, List.set_cons_succ, R.bind_ok, sCons, sNil, sIf, sRet, retL, dropL, sSet, setL, sDrop, sUnp, sPar, lNil, lCons, kF, putL, gN, gT, gAll, kC, kX, kD, kG, kS, scl, k1, k2, L.get, L.take, T.toD, aNil, aCons, kTup, kLst, bVal, bAnd, bOr, bNot, kAnd, kOr, kNot, kIf, boolOf, kCall, cNil, cV, cMv, cPass, lend, back, resL, outs, endOf, srcAt, kSGet, kSLen, kInt, SF.get, SF.put, bl, nm, if_true, if_false, Bool.false_eq_true, Bool.not_true, Bool.not_false, le5, szOk0, R.W_ok]
  exact ⟨trivial, rfl, rfl, rfl, rfl, rfl, rfl, rfl, rfl, rfl, rfl, rfl, rfl⟩
theorem lq2_ok {ns : List Int} {S : Src} {ws : List Str} {p : Pg} {row : List Str} {A : List (List Str)} {b : Bool} {d : St} {s : Sl} {n : Nat} {bo : List D} {pt : List (List Str)} (h : Xh ns S ws p row A b d n bo pt [] s) (hm : pt.flatten.length ≤ 1000) : (lq2 s).W fun q => q.1 = .nx ∧ Xh ns S ws p row A b d n bo pt pt.flatten q.2 := by
  have e : lq2 s = forD (gN 23) (sCons (sSet 22 (k2 pAdd (kX 22) (kX 23))) sNil) (pt.map strsE) s := by
    obtain ⟨v3, v4, v7, v8, v9, v10, v12, v19, v20, v21, v23, v24, v25, rfl⟩ := h.ex
    have hq : seqOf (lotsE pt) = .ok (pt.map strsE) := rfl
    simp only [run_mk, List.map_cons, List.map_nil, List.length_cons, List.length_nil, List.cons_append, List.nil_append, List.replicate_succ, List.replicate_zero, Nat.reduceAdd, Nat.reduceSub, List.getElem?_cons_zero, List.getElem?_cons_succ, List.set_cons_zero, List.set_cons_succ, R.bind_ok, sCons, sNil, sIf, sRet, retL, dropL, sSet, setL, sDrop, sUnp, sPar, lNil, lCons, kF, putL, gN, gT, gAll, kC, kX, kD, kG, kS, scl, k1, k2, L.get, L.take, T.toD, aNil, aCons, kTup, kLst, bVal, bAnd, bOr, bNot, kAnd, kOr, kNot, kIf, boolOf, kCall, cNil, cV, cMv, cPass, lend, back, resL, outs, endOf, srcAt, kSGet, kSLen, kInt, SF.get, SF.put, bl, nm, if_true, if_false, Bool.false_eq_true, Bool.not_true, Bool.not_false, lq2, sFor, iSeq, hq]
  rw [e]
  have hw := for_inv (g := gN 23) (b := sCons (sSet 22 (k2 pAdd (kX 22) (kX 23))) sNil) (ds := pt.map strsE) (s := s) (fun i s => Xh ns S ws p row A b d n bo pt (pt.take i).flatten s) h (fun i x s hx hi => by
    rw [List.getElem?_map] at hx
    obtain ⟨l, hl, rfl⟩ := Option.map_eq_some_iff.mp hx
    obtain ⟨v3, v4, v7, v8, v9, v10, v12, v19, v20, v21, v23, v24, v25, rfl⟩ := hi.ex
    have ht : (pt.take (i + 1)).flatten = (pt.take i).flatten ++ l := by rw [List.take_succ, hl]; simp
    have hlen : (pt.take i).flatten.length + l.length ≤ 1000 := by
      have h1 : pt.flatten.length = (pt.take (i + 1)).flatten.length + (pt.drop (i + 1)).flatten.length := by
        rw [← List.length_append, ← List.flatten_append, List.take_append_drop]
      rw [ht, List.length_append] at h1
      omega
    have hz : szOk (((pt.take i).flatten.map PyData.str).length + (l.map PyData.str).length) = true := szOk_of (by rw [List.length_map, List.length_map]; omega)
    have hp : pAdd (strsE (pt.take i).flatten) (strsE l) = .ok (.d (strsE (pt.take (i + 1)).flatten)) := by
      unfold strsE pAdd
      simp only [hz, if_true]
      rw [ht, List.map_append]
    simp only [run_mk, List.map_cons, List.map_nil, List.length_cons, List.length_nil, List.cons_append, List.nil_append, List.replicate_succ, List.replicate_zero, Nat.reduceAdd, Nat.reduceSub, List.getElem?_cons_zero, List.getElem?_cons_succ, List.set_cons_zero, List.set_cons_succ, R.bind_ok, sCons, sNil, sIf, sRet, retL, dropL, sSet, setL, sDrop, sUnp, sPar, lNil, lCons, kF, putL, gN, gT, gAll, kC, kX, kD, kG, kS, scl, k1, k2, L.get, L.take, T.toD, aNil, aCons, kTup, kLst, bVal, bAnd, bOr, bNot, kAnd, kOr, kNot, kIf, boolOf, kCall, cNil, cV, cMv, cPass, lend, back, resL, outs, endOf, srcAt, kSGet, kSLen, kInt, SF.get, SF.put, bl, nm, if_true, if_false, Bool.false_eq_true, Bool.not_true, Bool.not_false, hp, R.W_ok]
    exact ⟨.inl trivial, rfl, rfl, rfl, rfl, rfl, rfl, rfl, rfl, rfl, rfl, rfl, rfl, rfl, rfl⟩)
  rw [List.length_map, List.take_length] at hw
  exact hw
theorem lP_ok {ns : List Int} {S : Src} {ws : List Str} {p : Pg} {row : List Str} {A : List (List Str)} {b : Bool} {d : St} {s : Sl} {n : Nat} {bo : List D} {pt : List (List Str)} (h : Xg ns S ws p row A b d n bo pt s) (hm : pt.flatten.length ≤ 1000) (hb : bo.length ≤ 1000) : (lP s).W fun q => q.1 = .nx ∧ Xf ns S ws p row A b d n (bo ++ [strsE pt.flatten]) q.2 := by
  refine sCons_W (P := fun s => Xh ns S ws p row A b d n bo pt [] s) ?_ fun s1 g1 => sCons_W (lq2_ok g1 hm) fun s2 g2 => sCons_W (P := fun s => Xf ns S ws p row A b d n (bo ++ [strsE pt.flatten]) s) ?_ fun s3 g3 => ⟨rfl, g3⟩
  · obtain ⟨v3, v4, v7, v8, v9, v10, v12, v19, v20, v21, v22, v23, v24, v25, rfl⟩ := h.ex
    simp only [run_mk, List.map_cons, List.map_nil, List.length_cons, List.length_nil, List.cons_append, List.nil_append, List.replicate_succ, List.replicate_zero, Nat.reduceAdd, Nat.reduceSub, List.getElem?_cons_zero, List.getElem?_cons_succ, List.set_cons_zero, List.set_cons_succ, R.bind_ok, sCons, sNil, sIf, sRet, retL, dropL, sSet, setL, sDrop, sUnp, sPar, lNil, lCons, kF, putL, gN, gT, gAll, kC, kX, kD, kG, kS, scl, k1, k2, L.get, L.take, T.toD, aNil, aCons, kTup, kLst, bVal, bAnd, bOr, bNot, kAnd, kOr, kNot, kIf, boolOf, kCall, cNil, cV, cMv, cPass, lend, back, resL, outs, endOf, srcAt, kSGet, kSLen, kInt, SF.get, SF.put, bl, nm, if_true, if_false, Bool.false_eq_true, Bool.not_true, Bool.not_false, lq1, szOk0, R.W_ok]
    exact ⟨trivial, rfl, rfl, rfl, rfl, rfl, rfl, rfl, rfl, rfl, rfl, rfl, rfl, rfl, rfl⟩
  · obtain ⟨v3, v4, v7, v8, v9, v10, v12, v19, v20, v21, v23, v24, v25, rfl⟩ := g2.ex
    have hz : szOk (bo.length + 1) = true := szOk_of (by omega)
    simp only [run_mk, List.map_cons, List.map_nil, List.length_cons, List.length_nil, List.cons_append, List.nil_append, List.replicate_succ, List.replicate_zero, Nat.reduceAdd, Nat.reduceSub, List.getElem?_cons_zero, List.getElem?_cons_succ, List.set_cons_zero, List.set_cons_succ, R.bind_ok, sCons, sNil, sIf, sRet, retL, dropL, sSet, setL, sDrop, sUnp, sPar, lNil, lCons, kF, putL, gN, gT, gAll, kC, kX, kD, kG, kS, scl, k1, k2, L.get, L.take, T.toD, aNil, aCons, kTup, kLst, bVal, bAnd, bOr, bNot, kAnd, kOr, kNot, kIf, boolOf, kCall, cNil, cV, cMv, cPass, lend, back, resL, outs, endOf, srcAt, kSGet, kSLen, kInt, SF.get, SF.put, bl, nm, if_true, if_false, Bool.false_eq_true, Bool.not_true, Bool.not_false, lq3, kApp, hz, R.W_ok]
    exact ⟨trivial, rfl, rfl, rfl, rfl, rfl, rfl, rfl, rfl, rfl, rfl, rfl, rfl⟩
theorem le6_ok {ns : List Int} {S : Src} {ws : List Str} {p : Pg} {row : List Str} {A : List (List Str)} {b : Bool} {d : St} {s : Sl} {n : Nat} (h : Xf ns S ws p row A b d n [] s) (hn : n ≤ A.length) (h1 : (A.take n).flatten.length ≤ 1000) (h2 : (A.drop n).flatten.length ≤ 1000) : (le6 s).W fun q => q.1 = .nx ∧ Xf ns S ws p row A b d n [strsE (A.take n).flatten, strsE [], strsE (A.drop n).flatten] q.2 := by
  have e : le6 s = forD (gN 18) lP [lotsE (A.take n), lotsE [], lotsE (A.drop n)] s := by
    obtain ⟨v3, v4, v7, v8, v9, v10, v12, v18, v19, v20, v21, v22, v23, v24, v25, rfl⟩ := h.ex
    have c1 : pSl none (some (n : Int)) (lotsE A) = .ok (.d (lotsE (A.take n))) := by
      show R.ok (L.d (.tuple (cutD (A.map strsE) none (some (n : Int))))) = _
      rw [cut_take hn]; rfl
    have c2 : pSl (some (n : Int)) none (lotsE A) = .ok (.d (lotsE (A.drop n))) := by
      show R.ok (L.d (.tuple (cutD (A.map strsE) (some (n : Int)) none))) = _
      rw [cut_drop hn]; rfl
    simp only [run_mk, List.map_cons, List.map_nil, List.length_cons, List.length_nil, List.cons_append, List.nil_append, List.replicate_succ, List.replicate_zero, Nat.reduceAdd, Nat.reduceSub, List.getElem?_cons_zero, List.getElem?_cons_succ, List.set_cons_zero, List.set_cons_succ, R.bind_ok, sCons, sNil, sIf, sRet, retL, dropL, sSet, setL, sDrop, sUnp, sPar, lNil, lCons, kF, putL, gN, gT, gAll, kC, kX, kD, kG, kS, scl, k1, k2, L.get, L.take, T.toD, aNil, aCons, kTup, kLst, bVal, bAnd, bOr, bNot, kAnd, kOr, kNot, kIf, boolOf, kCall, cNil, cV, cMv, cPass, lend, back, resL, outs, endOf, srcAt, kSGet, kSLen, kInt, SF.get, SF.put, bl, nm, if_true, if_false, Bool.false_eq_true, Bool.not_true, Bool.not_false, le6, sFor, iSeq, kSl, partOf, c1, c2, szOk0, szOk3, seq_t]
    rfl
  rw [e]
  have turn : ∀ {bo : List D} {pt : List (List Str)} {s : Sl}, Xf ns S ws p row A b d n bo s → pt.flatten.length ≤ 1000 → bo.length ≤ 1000 → (gN 18 (lotsE pt) s).W fun s1 => (lP s1).W fun r => r.1 = .nx ∧ Xf ns S ws p row A b d n (bo ++ [strsE pt.flatten]) r.2 := fun {bo pt s} g hm hb => by
    obtain ⟨v3, v4, v7, v8, v9, v10, v12, v18, v19, v20, v21, v22, v23, v24, v25, rfl⟩ := g.ex
    exact lP_ok (s := [some (.scr ns), some (.src S), some (.val (strsE ws)), v3, v4, some (.val p.enc), some (.val (strsE row)), v7, v8, v9, v10, some (.val (stE d)), v12, some (.val (lotsE A)), some (.val (.bool b)), some (.val (.int (n : Nat))), some (.val (lotsE [row.take n, [], row.drop n])), some (.lst bo), some (.val (lotsE pt)), v19, v20, v21, v22, v23, v24, v25]) ⟨rfl, rfl, rfl, rfl, rfl, rfl, rfl, rfl, rfl, rfl, rfl, rfl, rfl⟩ hm hb
  refine forD_W (turn h h1 (by simp)) fun s1 g1 => forD_W (turn (pt := []) g1 (by simp) (by simp)) fun s2 g2 => forD_W (turn g2 h2 (by simp)) fun s3 g3 => ⟨rfl, g3⟩
theorem le7_ok {ns : List Int} {S : Src} {ws : List Str} {p : Pg} {row : List Str} {A : List (List Str)} {b : Bool} {d : St} {s : Sl} {n : Nat} {bs : List (List Str)} (h : Xf ns S ws p row A b d n (bs.map strsE) s) (hr : D_program_run.run [.val (strsE ws), .val p.enc, .val (lotsE [row.take n, [], row.drop n])] = .ok (.val (.tuple [lotsE bs, .bool b, stE d]), [])) (so : showOk (.tuple [lotsE bs, .bool b, stE d]) = true) : (le7 s).W fun q => q.1 = .nx ∧ Xa ns S ws q.2 := by
  obtain ⟨v3, v4, v7, v8, v9, v10, v12, v18, v19, v20, v21, v22, v23, v24, v25, rfl⟩ := h.ex
  have pt : pTuple (.list (bs.map strsE)) = .ok (.d (lotsE bs)) := rfl
  simp only [run_mk, List.map_cons, List.map_nil, List.length_cons, List.length_nil, List.cons_append, List.nil_append, List.replicate_succ, List.replicate_zero, Nat.reduceAdd, Nat.reduceSub, List.getElem?_cons_zero, List.getElem?_cons_succ, List.set_cons_zero, List.set_cons_succ, R.bind_ok, sCons, sNil, sIf, sRet, retL, dropL, sSet, setL, sDrop, sUnp, sPar, lNil, lCons, kF, putL, gN, gT, gAll, kC, kX, kD, kG, kS, scl, k1, k2, L.get, L.take, T.toD, aNil, aCons, kTup, kLst, bVal, bAnd, bOr, bNot, kAnd, kOr, kNot, kIf, boolOf, kCall, cNil, cV, cMv, cPass, lend, back, resL, outs, endOf, srcAt, kSGet, kSLen, kInt, SF.get, SF.put, bl, nm, if_true, if_false, Bool.false_eq_true, Bool.not_true, Bool.not_false, le7, hr, pt, szOk3, pRepr_of so, neS_self, R.W_ok]
  exact ⟨trivial, rfl, rfl, rfl, rfl⟩
theorem flat_len {k : Nat} : ∀ {ls : List (List Str)}, (∀ l ∈ ls, (∀ x ∈ l, Sk x) ∧ l.length ≤ k) → ls.flatten.length ≤ k * ls.length
  | [], _ => Nat.zero_le _
  | l :: ls, h => by
    have h1 := flat_len (ls := ls) fun x hx => h x (List.mem_cons_of_mem _ hx)
    have h2 := (h l (List.mem_cons_self ..)).2
    rw [List.flatten_cons, List.length_append, List.length_cons, Nat.mul_add]
    omega
theorem lE_ok {ns : List Int} {S : Src} {ws : List Str} {p : Pg} {row : List Str} {s : Sl} (h : Xb ns S ws p row s) (hS : Sok S) (hw : ∀ x ∈ ws, Sk x) (ho : okRow (p, row)) : (lE s).W fun q => q.1 = .nx ∧ ∃ S', Xa ns S' ws q.2 ∧ Sok S' := by
  obtain ⟨gp, hrow, hm⟩ := ho
  simp only at gp hrow hm
  have wq := gp.wq
  obtain ⟨md, hf, e1⟩ := lrun_ok (ws := ws) wq hw hrow (by omega)
  obtain ⟨w1, w2⟩ := steps_pres (ws := ws) wq.toWPG (first_ws wq.toWPG) hrow
  have len := steps_len (ws := ws) (p := p) (row := row) (s := firstM p)
  have hsing : ∀ ld, seqOf ld = .ok ((row.map fun v => [v]).map strsE) → D_program_run.run [.val (strsE ws), .val p.enc, .val ld] = .ok (.val (.tuple [lotsE (stepsM ws p (firstM p) row).1, .bool md.yes, stE (stepsM ws p (firstM p) row).2]), []) := fun ld hq => by
    obtain ⟨md2, hf2, e2⟩ := run_ok (ws := ws) (lots := row.map fun v => [v]) hq wq.toWPG hw (fun l hl => by
      obtain ⟨v, hv, rfl⟩ := List.mem_map.mp hl
      exact ⟨fun x hx => by simp at hx; exact hx ▸ hrow v hv, by simp⟩) (by rw [List.length_map]; omega)
    have er : runM ws p (row.map fun v => [v]) = stepsM ws p (firstM p) row := lots_singles
    rw [er] at hf2 e2
    rw [hf] at hf2
    cases hf2
    exact e2
  have hcut : ∀ n, D_program_run.run [.val (strsE ws), .val p.enc, .val (lotsE [row.take n, [], row.drop n])] = .ok (.val (.tuple [lotsE [((stepsM ws p (firstM p) row).1.take n).flatten, [], ((stepsM ws p (firstM p) row).1.drop n).flatten], .bool md.yes, stE (stepsM ws p (firstM p) row).2]), []) := fun n => by
    obtain ⟨md2, hf2, e2⟩ := run_ok (ws := ws) (lots := [row.take n, [], row.drop n]) (ld := lotsE [row.take n, [], row.drop n]) rfl wq.toWPG hw (fun l hl => by
      simp only [List.mem_cons, List.not_mem_nil, or_false] at hl
      rcases hl with rfl | rfl | rfl
      · exact ⟨fun x hx => hrow x (List.mem_of_mem_take hx), by rw [List.length_take]; omega⟩
      · exact ⟨fun x hx => (nomatch hx), by simp⟩
      · exact ⟨fun x hx => hrow x (List.mem_of_mem_drop hx), by rw [List.length_drop]; omega⟩) (by simp)
    have er : runM ws p [row.take n, [], row.drop n] = _ := lots_cut
    rw [er] at hf2 e2
    simp only at hf2 e2
    rw [hf] at hf2
    cases hf2
    exact e2
  refine sCons_W (le1_ok (b := false) h e1) fun s1 g1 => sCons_W (le2_ok g1 (by omega) hsing (show_tri (k := 3) (n := 40) gp w1 w2 (by omega) (by omega))) fun s2 g2 => ?_
  generalize hT : stepsM ws p (firstM p) row = Tt at *
  refine sCons_W (P := fun s => ∃ S' n, Xd ns S' ws p row Tt.1 md.yes Tt.2 n s ∧ n ≤ row.length ∧ Sok S') (le3_ok g2 hS (by omega)) fun s3 ⟨S3, n, g3, hn, hS3⟩ => ?_
  have f1 : ∀ l ∈ Tt.1.take n, (∀ x ∈ l, Sk x) ∧ l.length ≤ 3 := fun l hl => w2 l (List.mem_of_mem_take hl)
  have f2 : ∀ l ∈ Tt.1.drop n, (∀ x ∈ l, Sk x) ∧ l.length ≤ 3 := fun l hl => w2 l (List.mem_of_mem_drop hl)
  have k1' := flat_len f1
  have k2' := flat_len f2
  rw [List.length_take] at k1'
  rw [List.length_drop] at k2'
  refine sCons_W (le4_ok g3 hn) fun s4 g4 => sCons_W (le5_ok g4) fun s5 g5 => sCons_W (le6_ok g5 (by omega) (by omega) (by omega)) fun s6 g6 => ?_
  refine sCons_W (le7_ok (bs := [(Tt.1.take n).flatten, [], (Tt.1.drop n).flatten]) g6 (hcut n) (show_tri (k := 120) (n := 3) gp w1 (fun l hl => ?_) (by simp) (by omega))) fun s7 g7 => (show Fl.nx = Fl.nx ∧ _ from ⟨rfl, S3, g7, hS3⟩)
  simp only [List.mem_cons, List.not_mem_nil, or_false] at hl
  rcases hl with rfl | rfl | rfl
  · exact ⟨fun x hx => by obtain ⟨l, hl, hx⟩ := List.mem_flatten.mp hx; exact (f1 l hl).1 x hx, by omega⟩
  · exact ⟨fun x hx => (nomatch hx), by simp⟩
  · exact ⟨fun x hx => by obtain ⟨l, hl, hx⟩ := List.mem_flatten.mp hx; exact (f2 l hl).1 x hx, by omega⟩
end K07

set_option Elab.async false
set_option linter.all false
set_option maxRecDepth 100000
set_option maxHeartbeats 4000000
set_option pp.maxSteps 600
namespace K07
open PySem KV

theorem fix_run : D_program_run.run [.val (.tuple []), .val (.tuple [.str "program", .str "p", .tuple [.str "x"], .tuple [.tuple [.str "m", .bool false, .tuple [.tuple [.tuple [.str "empty", .str "x"], .tuple [.tuple [.str "put", .tuple [.str "it"], .str "x"]]], .tuple [.tuple [.str "it", .tuple [.str "box", .str "x"]], .tuple [.tuple [.str "tell", .tuple [.str "box", .str "x"]], .tuple [.str "drop", .str "x"]]]]]]]), .val (.tuple [.tuple [.str "a"], .tuple [.str "b"], .tuple [.str "a"], .tuple [.str "a"]])] = .ok (.val (.tuple [.tuple [.tuple [], .tuple [], .tuple [.str "a"], .tuple []], .bool false, .tuple [.str "m", .tuple [.str "a"]]]), []) := by kernel_rfl
theorem fix_eq : pEq (.tuple [.tuple [.tuple [], .tuple [], .tuple [.str "a"], .tuple []], .bool false, .tuple [.str "m", .tuple [.str "a"]]]) (.tuple [.tuple [.tuple [], .tuple [], .tuple [.str "a"], .tuple []], .bool false, .tuple [.str "m", .tuple [.str "a"]]]) = bl true := by kernel_rfl
theorem tail_ok {ns : List Int} {S : Src} {ws : List Str} {s : Sl} (h : Xa ns S ws s) : ((sCons lz5 (sCons lz6 (sCons lz7 (sCons lz8 (sCons lz9 sNil))))) s).W fun q => q.1 = .rt (.val (.bool true)) := by
  obtain ⟨v3, v4, v5, v6, v7, v8, v9, v10, v11, v12, v13, v14, v15, v16, v17, v18, v19, v20, v21, v22, v23, v24, v25, rfl⟩ := h.ex
  simp only [run_mk, List.map_cons, List.map_nil, List.length_cons, List.length_nil, List.cons_append, List.nil_append, List.replicate_succ, List.replicate_zero, Nat.reduceAdd, Nat.reduceSub, List.getElem?_cons_zero, List.getElem?_cons_succ, List.set_cons_zero, List.set_cons_succ, R.bind_ok, sCons, sNil, sIf, sRet, retL, dropL, sSet, setL, sDrop, sUnp, sPar, lNil, lCons, kF, putL, gN, gT, gAll, kC, kX, kD, kG, kS, scl, k1, k2, L.get, L.take, T.toD, aNil, aCons, kTup, kLst, bVal, bAnd, bOr, bNot, kAnd, kOr, kNot, kIf, boolOf, kCall, cNil, cV, cMv, cPass, lend, back, resL, outs, endOf, srcAt, kSGet, kSLen, kInt, SF.get, SF.put, bl, nm, if_true, if_false, Bool.false_eq_true, Bool.not_true, Bool.not_false, lz5, lz6, lz7, lz8, lz9, szOk0, szOk1, szOk2, szOk3, szOk4, pAdd, fix_run, fix_eq, R.W_ok]
theorem La.s4 {ns : List Int} {S : Src} {ws : List Str} {sm : List (Pg × List Str)} {s : Sl} {t : Option T} (h : La ns S ws sm s) : La ns S ws sm (s.set 4 t) := by
  obtain ⟨v4, v5, v6, v7, v8, v9, v10, v11, v12, v13, v14, v15, v16, v17, v18, v19, v20, v21, v22, v23, v24, v25, rfl⟩ := h.ex
  exact ⟨rfl, rfl, rfl, rfl, rfl⟩
theorem La.xa {ns : List Int} {S : Src} {ws : List Str} {sm : List (Pg × List Str)} {s : Sl} (h : La ns S ws sm s) : Xa ns S ws s := by
  obtain ⟨v4, v5, v6, v7, v8, v9, v10, v11, v12, v13, v14, v15, v16, v17, v18, v19, v20, v21, v22, v23, v24, v25, rfl⟩ := h.ex
  exact ⟨rfl, rfl, rfl, rfl⟩
theorem loop1 {ns : List Int} {S : Src} {ws : List Str} {s : Sl} (h : La ns S ws [] s) (hS : Sok S) (hw : ∀ x ∈ ws, Sk x) (lw : ws.length ≤ 2) :
    ((sFor (iRg1 (kC (.int 3))) (gN 4) lA) s).W fun q => q.1 = .nx ∧ ∃ S' sm, La ns S' ws sm q.2 ∧ sm.length ≤ 3 ∧ (∀ x ∈ sm, okRow x) ∧ Sok S' := by
  have e : (sFor (iRg1 (kC (.int 3))) (gN 4) lA) s = forD (gN 4) lA (intR 0 (Int.toNat 3)) s := by
    have zn : ((3 : Int) ≤ 16000000 ∧ -16000000 ≤ (3 : Int)) := by decide
    simp only [run_mk, List.map_cons, List.map_nil, List.length_cons, List.length_nil, List.cons_append, List.nil_append, List.replicate_succ, List.replicate_zero, Nat.reduceAdd, Nat.reduceSub, List.getElem?_cons_zero, List.getElem?_cons_succ, List.set_cons_zero, List.set_cons_succ, R.bind_ok, sCons, sNil, sIf, sRet, retL, dropL, sSet, setL, sDrop, sUnp, sPar, lNil, lCons, kF, putL, gN, gT, gAll, kC, kX, kD, kG, kS, scl, k1, k2, L.get, L.take, T.toD, aNil, aCons, kTup, kLst, bVal, bAnd, bOr, bNot, kAnd, kOr, kNot, kIf, boolOf, kCall, cNil, cV, cMv, cPass, lend, back, resL, outs, endOf, srcAt, kSGet, kSLen, kInt, SF.get, SF.put, bl, nm, if_true, if_false, Bool.false_eq_true, Bool.not_true, Bool.not_false, sFor, iRg1, zn, and_self]
  rw [e]
  have hl : (intR 0 (Int.toNat 3)).length = 3 := rfl
  refine R.W_mono (for_inv (g := gN 4) (b := lA) (ds := intR 0 (Int.toNat 3)) (s := s) (fun i s => ∃ S' sm, La ns S' ws sm s ∧ sm.length = i ∧ (∀ x ∈ sm, okRow x) ∧ Sok S') ⟨S, [], h, rfl, (fun x hx => nomatch hx), hS⟩ (fun i x s hx ⟨S1, sm, g1, g2, g3, hS1⟩ => ?_)) fun q ⟨h1, S1, sm, g1, g2, g3, hS1⟩ => ⟨h1, S1, sm, g1, by rw [g2, hl]; exact Nat.le_refl _, g3, hS1⟩
  have hi : i < 3 := by
    have := (List.getElem?_eq_some_iff.mp hx).1
    rw [hl] at this
    exact this
  exact (show (lA (s.set 4 (some (.val x)))).W _ from R.W_mono (lA_ok (p := ⟨⟨#[]⟩, [], []⟩) (row := []) (kept := ⟨#[]⟩) (d := (⟨#[]⟩, [])) (v := ⟨#[]⟩) g1.s4 hS1 hw lw (by omega) g3) fun q ⟨h1, S2, sm2, k1', k2', k3', hS2⟩ => ⟨.inl h1, S2, sm2, k1', by omega, k3', hS2⟩)
theorem loop2 {ns : List Int} {S : Src} {ws : List Str} {sm : List (Pg × List Str)} {s : Sl} (h : La ns S ws sm s) (hS : Sok S) (hw : ∀ x ∈ ws, Sk x) (hl : sm.length ≤ 3) (ho : ∀ x ∈ sm, okRow x) :
    ((sFor (iSeq (k2 pAdd (kX 3) (k1 pRev (kX 3)))) (gT [(gN 5), (gN 6)]) lE) s).W fun q => q.1 = .nx ∧ ∃ S', Xa ns S' ws q.2 ∧ Sok S' := by
  have e : (sFor (iSeq (k2 pAdd (kX 3) (k1 pRev (kX 3)))) (gT [(gN 5), (gN 6)]) lE) s = forD (gT [gN 5, gN 6]) lE ((sm ++ sm.reverse).map pairE) s := by
    obtain ⟨v4, v5, v6, v7, v8, v9, v10, v11, v12, v13, v14, v15, v16, v17, v18, v19, v20, v21, v22, v23, v24, v25, rfl⟩ := h.ex
    have hz : szOk ((sm.map pairE).length + (sm.map pairE).reverse.length) = true := szOk_of (by rw [List.length_reverse, List.length_map]; omega)
    rw [List.map_append, List.map_reverse]
    simp only [run_mk, List.map_cons, List.map_nil, List.length_cons, List.length_nil, List.cons_append, List.nil_append, List.replicate_succ, List.replicate_zero, Nat.reduceAdd, Nat.reduceSub, List.getElem?_cons_zero, List.getElem?_cons_succ, List.set_cons_zero, List.set_cons_succ, R.bind_ok, sCons, sNil, sIf, sRet, retL, dropL, sSet, setL, sDrop, sUnp, sPar, lNil, lCons, kF, putL, gN, gT, gAll, kC, kX, kD, kG, kS, scl, k1, k2, L.get, L.take, T.toD, aNil, aCons, kTup, kLst, bVal, bAnd, bOr, bNot, kAnd, kOr, kNot, kIf, boolOf, kCall, cNil, cV, cMv, cPass, lend, back, resL, outs, endOf, srcAt, kSGet, kSLen, kInt, SF.get, SF.put, bl, nm, if_true, if_false, Bool.false_eq_true, Bool.not_true, Bool.not_false, sFor, iSeq, pRev, pAdd, hz, seq_l]
  rw [e]
  refine for_inv (g := gT [gN 5, gN 6]) (b := lE) (ds := (sm ++ sm.reverse).map pairE) (s := s) (fun _ s => ∃ S', Xa ns S' ws s ∧ Sok S') ⟨S, h.xa, hS⟩ (fun i x s hx ⟨S1, g1, hS1⟩ => ?_)
  obtain ⟨y, hy, rfl⟩ := List.mem_map.mp (List.mem_of_getElem? hx)
  have oy : okRow y := by
    rcases List.mem_append.mp hy with z | z
    · exact ho y z
    · exact ho y (List.mem_reverse.mp z)
  obtain ⟨v3, v4, v5, v6, v7, v8, v9, v10, v11, v12, v13, v14, v15, v16, v17, v18, v19, v20, v21, v22, v23, v24, v25, rfl⟩ := g1.ex
  refine R.W_of (a := [some (.scr ns), some (.src S1), some (.val (strsE ws)), v3, v4, some (.val y.1.enc), some (.val (strsE y.2)), v7, v8, v9, v10, v11, v12, v13, v14, v15, v16, v17, v18, v19, v20, v21, v22, v23, v24, v25]) rfl ?_
  exact R.W_mono (lE_ok (p := y.1) (row := y.2) ⟨rfl, rfl, rfl, rfl, rfl, rfl⟩ hS1 hw oy) fun q hq => ⟨.inl hq.1, hq.2⟩
theorem plain (ns : List Int) (h : ns.length ≤ 63) : D_law.run [.scr ns] = .ok (.val (.bool true), []) := by
  obtain ⟨S, e, hS⟩ := source_ok ns h
  obtain ⟨ws, S1, e1, hw, lw, hS1⟩ := words_ok S hS
  have i0 : (sSet 1 (kCall (D_u_law_source).run (cPass 0 cNil))) ([T.scr ns].map some ++ List.replicate (26 - [T.scr ns].length) none) = .ok (.nx, [some (.scr ns), some (.src S)] ++ List.replicate 24 none) := by
    simp only [run_mk, List.map_cons, List.map_nil, List.length_cons, List.length_nil, List.cons_append, List.nil_append, List.replicate_succ, List.replicate_zero, Nat.reduceAdd, Nat.reduceSub, List.getElem?_cons_zero, List.getElem?_cons_succ, List.set_cons_zero, List.set_cons_succ, R.bind_ok, sCons, sNil, sIf, sRet, retL, dropL, sSet, setL, sDrop, sUnp, sPar, lNil, lCons, kF, putL, gN, gT, gAll, kC, kX, kD, kG, kS, scl, k1, k2, L.get, L.take, T.toD, aNil, aCons, kTup, kLst, bVal, bAnd, bOr, bNot, kAnd, kOr, kNot, kIf, boolOf, kCall, cNil, cV, cMv, cPass, lend, back, resL, outs, endOf, srcAt, kSGet, kSLen, kInt, SF.get, SF.put, bl, nm, if_true, if_false, Bool.false_eq_true, Bool.not_true, Bool.not_false, e]
  have i1 : (sSet 2 (kCall (D_u_law_words).run (cMv 1 cNil))) ([some (.scr ns), some (.src S)] ++ List.replicate 24 none) = .ok (.nx, [some (.scr ns), some (.src S1), some (.val (strsE ws))] ++ List.replicate 23 none) := by
    simp only [run_mk, List.map_cons, List.map_nil, List.length_cons, List.length_nil, List.cons_append, List.nil_append, List.replicate_succ, List.replicate_zero, Nat.reduceAdd, Nat.reduceSub, List.getElem?_cons_zero, List.getElem?_cons_succ, List.set_cons_zero, List.set_cons_succ, R.bind_ok, sCons, sNil, sIf, sRet, retL, dropL, sSet, setL, sDrop, sUnp, sPar, lNil, lCons, kF, putL, gN, gT, gAll, kC, kX, kD, kG, kS, scl, k1, k2, L.get, L.take, T.toD, aNil, aCons, kTup, kLst, bVal, bAnd, bOr, bNot, kAnd, kOr, kNot, kIf, boolOf, kCall, cNil, cV, cMv, cPass, lend, back, resL, outs, endOf, srcAt, kSGet, kSLen, kInt, SF.get, SF.put, bl, nm, if_true, if_false, Bool.false_eq_true, Bool.not_true, Bool.not_false, e1]
  have i2 : (sSet 3 (kLst aNil)) ([some (.scr ns), some (.src S1), some (.val (strsE ws))] ++ List.replicate 23 none) = .ok (.nx, [some (.scr ns), some (.src S1), some (.val (strsE ws)), some (.lst [])] ++ List.replicate 22 none) := by
    simp only [run_mk, List.map_cons, List.map_nil, List.length_cons, List.length_nil, List.cons_append, List.nil_append, List.replicate_succ, List.replicate_zero, Nat.reduceAdd, Nat.reduceSub, List.getElem?_cons_zero, List.getElem?_cons_succ, List.set_cons_zero, List.set_cons_succ, R.bind_ok, sCons, sNil, sIf, sRet, retL, dropL, sSet, setL, sDrop, sUnp, sPar, lNil, lCons, kF, putL, gN, gT, gAll, kC, kX, kD, kG, kS, scl, k1, k2, L.get, L.take, T.toD, aNil, aCons, kTup, kLst, bVal, bAnd, bOr, bNot, kAnd, kOr, kNot, kIf, boolOf, kCall, cNil, cV, cMv, cPass, lend, back, resL, outs, endOf, srcAt, kSGet, kSLen, kInt, SF.get, SF.put, bl, nm, if_true, if_false, Bool.false_eq_true, Bool.not_true, Bool.not_false, szOk0]
  have hI : La ns S1 ws [] ([some (.scr ns), some (.src S1), some (.val (strsE ws)), some (.lst [])] ++ List.replicate 22 none) := ⟨rfl, rfl, rfl, rfl, rfl⟩
  rw [law_eq]
  have key : ((sCons (sFor (iRg1 (kC (.int 3))) (gN 4) lA) (sCons (sFor (iSeq (k2 pAdd (kX 3) (k1 pRev (kX 3)))) (gT [(gN 5), (gN 6)]) lE) (sCons lz5 (sCons lz6 (sCons lz7 (sCons lz8 (sCons lz9 sNil))))))) ([some (.scr ns), some (.src S1), some (.val (strsE ws)), some (.lst [])] ++ List.replicate 22 none)).W fun q => q.1 = .rt (.val (.bool true)) := by
    refine sCons_W (P := fun s => ∃ S' sm, La ns S' ws sm s ∧ sm.length ≤ 3 ∧ (∀ x ∈ sm, okRow x) ∧ Sok S') (loop1 hI hS1 hw lw) fun s1 ⟨S2, sm, g1, g2, g3, hS2⟩ => ?_
    refine sCons_W (P := fun s => ∃ S', Xa ns S' ws s ∧ Sok S') (loop2 g1 hS2 hw g2 g3) fun s2 ⟨S3, g4, hS3⟩ => ?_
    exact tail_ok g4
  obtain ⟨⟨fl, s9⟩, z1, z2⟩ := R.W_get key
  simp only at z2
  subst z2
  refine run_rt (s1 := s9) ?_ rfl
  refine (sCons_nx i0).trans ((sCons_nx i1).trans ((sCons_nx i2).trans z1))
end K07

open PySem PySem.W PyProof.Rows
set_option maxRecDepth 100000 in
set_option maxHeartbeats 0 in
theorem PySem.Challenge.cw_keptvalues_k07_plain_runs_holds : PySem.Challenge.rw_keptvalues_k07_plain_runs.Holds := by
  w_on; o_law; k_head; (case hw => w_witness2)
  k_fill
  refine KV.walkG (l := PySem.Challenge.rw_keptvalues_k07_plain_runs) (dl := K07.D_law) (k := 9) (x := "script") rfl rfl ⟨rfl, by decide, by decide⟩ (fun w h Y => PySem.W.kIn_of Y) ?F K07.plain rfl
  case F =>
    intro w mg fa h KX G hmg
    refine' K07.law_ok ⟨PySem.W.mg_none_of KX G ?z_int, PySem.W.mg_none_of KX G ?z_abs, PySem.W.mg_none_of KX G ?z_len, PySem.W.mg_none_of KX G ?z_max, PySem.W.mg_none_of KX G ?z_range, PySem.W.mg_none_of KX G ?z_tuple, PySem.W.mg_none_of KX G ?z_list, PySem.W.mg_none_of KX G ?z_dict, PySem.W.mg_none_of KX G ?z_zip, PySem.W.mg_none_of KX G ?z_enumerate, PySem.W.mg_none_of KX G ?z_repr⟩ hmg (K07.at_mk KX G ?a_u_law_source ?l_u_law_source ?c_u_law_source ?k_u_law_source fun _ _ _ _ _ _ us hl => match us, hl with | [_], _ => rfl) (K07.at_mk KX G ?a_u_law_pick ?l_u_law_pick ?c_u_law_pick ?k_u_law_pick fun _ _ _ _ _ _ us hl => match us, hl with | [_, _], _ => rfl) (K07.at_mk KX G ?a_u_law_of ?l_u_law_of ?c_u_law_of ?k_u_law_of fun _ _ _ _ _ _ us hl => match us, hl with | [_, _], _ => rfl) (K07.at_mk KX G ?a_u_law_words ?l_u_law_words ?c_u_law_words ?k_u_law_words fun _ _ _ _ _ _ us hl => match us, hl with | [_], _ => rfl) (K07.at_mk KX G ?a_u_law_thing ?l_u_law_thing ?c_u_law_thing ?k_u_law_thing fun _ _ _ _ _ _ us hl => match us, hl with | [_, _, _], _ => rfl) (K07.at_mk KX G ?a_u_law_condition ?l_u_law_condition ?c_u_law_condition ?k_u_law_condition fun _ _ _ _ _ _ us hl => match us, hl with | [_, _, _, _], _ => rfl) (K07.at_mk KX G ?a_u_law_mixed ?l_u_law_mixed ?c_u_law_mixed ?k_u_law_mixed fun _ _ _ _ _ _ us hl => match us, hl with | [_, _], _ => rfl) (K07.at_mk KX G ?a_u_law_acts ?l_u_law_acts ?c_u_law_acts ?k_u_law_acts fun _ _ _ _ _ _ us hl => match us, hl with | [_, _, _, _], _ => rfl) (K07.at_mk KX G ?a_u_law_program ?l_u_law_program ?c_u_law_program ?k_u_law_program fun _ _ _ _ _ _ us hl => match us, hl with | [_, _, _, _, _], _ => rfl) (K07.at_mk KX G ?a_u_law_row ?l_u_law_row ?c_u_law_row ?k_u_law_row fun _ _ _ _ _ _ us hl => match us, hl with | [_, _, _], _ => rfl) (K07.at_mk KX G ?a_u_law_worth ?l_u_law_worth ?c_u_law_worth ?k_u_law_worth fun _ _ _ _ _ _ us hl => match us, hl with | [_, _, _, _], _ => rfl) (K07.at_mk KX G ?a_u_law_holds ?l_u_law_holds ?c_u_law_holds ?k_u_law_holds fun _ _ _ _ _ _ us hl => match us, hl with | [_, _, _, _, _], _ => rfl) (K07.at_mk KX G ?a_u_law_first_rule ?l_u_law_first_rule ?c_u_law_first_rule ?k_u_law_first_rule fun _ _ _ _ _ _ us hl => match us, hl with | [_, _, _, _], _ => rfl) (K07.at_mk KX G ?a_u_law_step ?l_u_law_step ?c_u_law_step ?k_u_law_step fun _ _ _ _ _ _ us hl => match us, hl with | [_, _, _, _], _ => rfl) (K07.at_mk KX G ?a_u_law_run ?l_u_law_run ?c_u_law_run ?k_u_law_run fun _ _ _ _ _ _ us hl => match us, hl with | [_, _, _], _ => rfl) (K07.at_mk KX G ?a_first_stand ?l_first_stand ?c_first_stand ?k_first_stand fun _ _ _ _ _ _ us hl => match us, hl with | [_], _ => rfl) (K07.at_mk KX G ?a_program_yes ?l_program_yes ?c_program_yes ?k_program_yes fun _ _ _ _ _ _ us hl => match us, hl with | [_, _], _ => rfl) (K07.at_mk KX G ?a_rules_of ?l_rules_of ?c_rules_of ?k_rules_of fun _ _ _ _ _ _ us hl => match us, hl with | [_, _], _ => rfl) (K07.at_mk KX G ?a_thing_value ?l_thing_value ?c_thing_value ?k_thing_value fun _ _ _ _ _ _ us hl => match us, hl with | [_, _, _, _], _ => rfl) (K07.at_mk KX G ?a_simple_holds ?l_simple_holds ?c_simple_holds ?k_simple_holds fun _ _ _ _ _ _ us hl => match us, hl with | [_, _, _, _, _], _ => rfl) (K07.at_mk KX G ?a_does_hold ?l_does_hold ?c_does_hold ?k_does_hold fun _ _ _ _ _ _ us hl => match us, hl with | [_, _, _, _, _], _ => rfl) (K07.at_mk KX G ?a_rule_done ?l_rule_done ?c_rule_done ?k_rule_done fun _ _ _ _ _ _ us hl => match us, hl with | [_, _, _, _], _ => rfl) (K07.at_mk KX G ?a_program_step ?l_program_step ?c_program_step ?k_program_step fun _ _ _ _ _ _ us hl => match us, hl with | [_, _, _, _], _ => rfl) (K07.at_mk KX G ?a_program_run ?l_program_run ?c_program_run ?k_program_run fun _ _ _ _ _ _ us hl => match us, hl with | [_, _, _], _ => rfl) (K07.at_mk KX G ?a_law ?l_law ?c_law ?k_law fun _ _ _ _ _ _ us hl => match us, hl with | [_], _ => rfl)
    (case z_int => k_is)
    (case z_abs => k_is)
    (case z_len => k_is)
    (case z_max => k_is)
    (case z_range => k_is)
    (case z_tuple => k_is)
    (case z_list => k_is)
    (case z_dict => k_is)
    (case z_zip => k_is)
    (case z_enumerate => k_is)
    (case z_repr => k_is)
    (case a_u_law_source => k_is); (case l_u_law_source => k_is); (case c_u_law_source => k_is); (case k_u_law_source => k_is)
    (case a_u_law_pick => k_is); (case l_u_law_pick => k_is); (case c_u_law_pick => k_is); (case k_u_law_pick => k_is)
    (case a_u_law_of => k_is); (case l_u_law_of => k_is); (case c_u_law_of => k_is); (case k_u_law_of => k_is)
    (case a_u_law_words => k_is); (case l_u_law_words => k_is); (case c_u_law_words => k_is); (case k_u_law_words => k_is)
    (case a_u_law_thing => k_is); (case l_u_law_thing => k_is); (case c_u_law_thing => k_is); (case k_u_law_thing => k_is)
    (case a_u_law_condition => k_is); (case l_u_law_condition => k_is); (case c_u_law_condition => k_is); (case k_u_law_condition => k_is)
    (case a_u_law_mixed => k_is); (case l_u_law_mixed => k_is); (case c_u_law_mixed => k_is); (case k_u_law_mixed => k_is)
    (case a_u_law_acts => k_is); (case l_u_law_acts => k_is); (case c_u_law_acts => k_is); (case k_u_law_acts => k_is)
    (case a_u_law_program => k_is); (case l_u_law_program => k_is); (case c_u_law_program => k_is); (case k_u_law_program => k_is)
    (case a_u_law_row => k_is); (case l_u_law_row => k_is); (case c_u_law_row => k_is); (case k_u_law_row => k_is)
    (case a_u_law_worth => k_is); (case l_u_law_worth => k_is); (case c_u_law_worth => k_is); (case k_u_law_worth => k_is)
    (case a_u_law_holds => k_is); (case l_u_law_holds => k_is); (case c_u_law_holds => k_is); (case k_u_law_holds => k_is)
    (case a_u_law_first_rule => k_is); (case l_u_law_first_rule => k_is); (case c_u_law_first_rule => k_is); (case k_u_law_first_rule => k_is)
    (case a_u_law_step => k_is); (case l_u_law_step => k_is); (case c_u_law_step => k_is); (case k_u_law_step => k_is)
    (case a_u_law_run => k_is); (case l_u_law_run => k_is); (case c_u_law_run => k_is); (case k_u_law_run => k_is)
    (case a_first_stand => k_is); (case l_first_stand => k_is); (case c_first_stand => k_is); (case k_first_stand => k_is)
    (case a_program_yes => k_is); (case l_program_yes => k_is); (case c_program_yes => k_is); (case k_program_yes => k_is)
    (case a_rules_of => k_is); (case l_rules_of => k_is); (case c_rules_of => k_is); (case k_rules_of => k_is)
    (case a_thing_value => k_is); (case l_thing_value => k_is); (case c_thing_value => k_is); (case k_thing_value => k_is)
    (case a_simple_holds => k_is); (case l_simple_holds => k_is); (case c_simple_holds => k_is); (case k_simple_holds => k_is)
    (case a_does_hold => k_is); (case l_does_hold => k_is); (case c_does_hold => k_is); (case k_does_hold => k_is)
    (case a_rule_done => k_is); (case l_rule_done => k_is); (case c_rule_done => k_is); (case k_rule_done => k_is)
    (case a_program_step => k_is); (case l_program_step => k_is); (case c_program_step => k_is); (case k_program_step => k_is)
    (case a_program_run => k_is); (case l_program_run => k_is); (case c_program_run => k_is); (case k_program_run => k_is)
    (case a_law => k_is); (case l_law => k_is); (case c_law => k_is); (case k_law => k_is)

