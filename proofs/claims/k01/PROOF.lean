import PyProof.Rows.All
import Wide.All
import OpenK.AllK
import Wide.FinOn
import HandS.Base
import HandS.Call
import HandS.List
import HandS.Exc
import HandS.ExcOwn
import HandS.Lambda
import HandS.HeadHook1
import HandS.Wide
import HandS.Text
import HandS.Flow
import HandS.Style
import HandS.Comp
import HandS.Iter
import HandS.Words
import HandS.WordsExc
import KE.GoesNew
import KE.GoesMore
import HandS.GenList
import HandS.AnyAll
import OpenK.XSeg
import KE.SortData
import HandS.SortRule
import PyProof.CollectWalk
import HandS.Deep
import HandS.FStr
import HandS.TupAny
import KE.KTupSum
import KE.DataMinMax
import PyProof.EnumMake
import HandS.Defaults
import HandS.HeadHook2
import HandS.HeadHook4
import HandS.TryOnly
import PyProof.ExcBaseAll.ValueError
import HandS.Head2
import HandS.HeadWalk
import HandS.NestedK
import PySem.Challenge.RW_courtstack_k01_exact_numbers_for_courts
set_option Elab.async false
set_option linter.all false
set_option maxRecDepth 100000
set_option maxHeartbeats 2000000
/-! CVa: plain data, a store, and a small language of meanings (no heap, no machine). -/
namespace CV
open PySem

/-- plain data: obj i stands for the i-th object of the store, clo i for the i-th closed lambda -/
inductive D where
  | non | bl (b : Bool) | int (i : Int) | str (s : Str) | tup (l : List D) | lst (l : List D) | obj (i : Nat) | clo (i : Nat)

/-- what the store holds -/
inductive Ob where
  | lst (l : List D) | dead
abbrev Sto := List Ob
inductive R (α : Type) where
  | ok (a : α) (st : Sto) | exn (e : Str) (st : Sto) | fail
def R.bd {α β : Type} (r : R α) (f : α → Sto → R β) : R β := match r with
  | .ok a st => f a st
  | .exn e st => .exn e st
  | .fail => .fail
abbrev Envr := List (Option D)
abbrev ME := Envr → Sto → R D
abbrev MT := Envr → Sto → R Bool
abbrev MA := Envr → Sto → R (List D)
abbrev MG := D → Envr → Sto → R Envr
/-- what is walked: the items, all told ahead -/
abbrev MI := Envr → Sto → R (List D)

/-! ### slots -/
def look : Envr → Nat → Option D
  | [], _ => none
  | x :: _, 0 => x
  | _ :: r, i + 1 => look r i
def setAt : Envr → Nat → Option D → Envr
  | [], _, _ => []
  | _ :: r, 0, d => d :: r
  | x :: r, i + 1, d => x :: setAt r i d
def wipeE (ρ : Envr) : List Nat → Envr
  | [] => ρ
  | v :: vs => setAt (wipeE ρ vs) v none

/-! ### data -/
mutual
def D.py : D → PyData
  | .non => .none
  | .bl b => .bool b
  | .int i => .int i
  | .str s => .str s
  | .tup l => .tuple (D.pys l)
  | .lst l => .list (D.pys l)
  | .obj _ => .none
  | .clo _ => .none
def D.pys : List D → List PyData
  | [] => []
  | d :: r => D.py d :: D.pys r
end
/- data to a depth, no object in it -/
mutual
def D.lay : Nat → D → Bool
  | _, .non => true
  | _, .bl _ => true
  | _, .int _ => true
  | _, .str s => PyData.strOk s
  | n + 1, .tup l => D.lays n l
  | n + 1, .lst l => D.lays n l
  | _, _ => false
def D.lays : Nat → List D → Bool
  | _, [] => true
  | n, d :: r => D.lay n d && D.lays n r
end
/- no object of the store within -/
mutual
def D.pure : D → Bool
  | .tup l => D.pures l
  | .lst l => D.pures l
  | .obj _ => false
  | _ => true
def D.pures : List D → Bool
  | [] => true
  | d :: r => D.pure d && D.pures r
end
def D.eqv (a b : D) : Bool := PyData.eqv a.py b.py

/-! ### expressions -/
def mC (d : D) : ME := fun _ st => .ok d st
def mVar (i : Nat) : ME := fun ρ st => match look ρ i with
  | some d => .ok d st
  | none => .fail
def mUn (f : D → Sto → R D) (a : ME) : ME := fun ρ st => (a ρ st).bd f
def mBin (f : D → D → Sto → R D) (a b : ME) : ME := fun ρ st => (a ρ st).bd fun x st => (b ρ st).bd fun y st => f x y st
def small (i : Int) : Bool := decide (-(2 ^ 64) < i) && decide (i < 2 ^ 64)
/-- lists and texts stay below the line -/
def fits (n : Nat) : Bool := decide (n ≤ 1000000)
def oAdd : D → D → Sto → R D
  | .int i, .int j, st => .ok (.int (i + j)) st
  | .str x, .str y, st => if fits (x.length + y.length) then .ok (.str (x ++ y)) st else .fail
  | .lst xs, .lst ys, st => if fits (xs.length + ys.length) then .ok (.lst (xs ++ ys)) st else .fail
  | .tup xs, .tup ys, st => if !xs.isEmpty && fits (xs.length + ys.length) then .ok (.tup (xs ++ ys)) st else .fail
  | _, _, _ => .fail
def oSub : D → D → Sto → R D
  | .int i, .int j, st => .ok (.int (i - j)) st
  | _, _, _ => .fail
/-- a product is asked to stay below a million bits, by bits of both -/
def bitsOk (i j : Int) : Bool := decide (i.natAbs.log2 + j.natAbs.log2 < 1000000)
def oMul : D → D → Sto → R D
  | .int i, .int j, st => if small i || (small j || bitsOk i j) then .ok (.int (i * j)) st else .fail
  | _, _, _ => .fail
def oDiv : D → D → Sto → R D
  | .int i, .int j, st => if decide (0 < j) && decide (j.natAbs.log2 < 9000) then .ok (.int (i / j)) st else .fail
  | _, _, _ => .fail
def oMod : D → D → Sto → R D
  | .int i, .int j, st => if decide (0 < j) then .ok (.int (i % j)) st else .fail
  | _, _, _ => .fail
def oPow : D → D → Sto → R D
  | .int i, .int j, st => if decide (-16 ≤ i) && (decide (i ≤ 16) && (decide (0 ≤ j) && decide (j ≤ 64))) then .ok (.int (i ^ j.toNat)) st else .fail
  | _, _, _ => .fail
def oNeg : D → Sto → R D
  | .int i, st => .ok (.int (-i)) st
  | _, _ => .fail
def oLt : D → D → Sto → R D
  | .int i, .int j, st => .ok (.bl (decide (i < j))) st
  | _, _, _ => .fail
def oLe : D → D → Sto → R D
  | .int i, .int j, st => .ok (.bl (decide (i ≤ j))) st
  | _, _, _ => .fail
def oGt : D → D → Sto → R D
  | .int i, .int j, st => .ok (.bl (decide (j < i))) st
  | _, _, _ => .fail
def oGe : D → D → Sto → R D
  | .int i, .int j, st => .ok (.bl (decide (j ≤ i))) st
  | _, _, _ => .fail
def oEq (x y : D) (st : Sto) : R D := if D.lay 12 x && D.lay 12 y then .ok (.bl (D.eqv x y)) st else .fail
def oNe (x y : D) (st : Sto) : R D := if D.lay 12 x && D.lay 12 y then .ok (.bl (!D.eqv x y)) st else .fail
/-- is it None? (an object of the store that is gone is not told) -/
def isN (x : D) (st : Sto) : Option Bool := match x with
  | .non => some true
  | .obj i => (match st[i]? with
    | some .dead => none
    | none => none
    | _ => some false)
  | _ => some false
def oIsN (x y : D) (st : Sto) : R D := match y, isN x st with
  | .non, some b => .ok (.bl b) st
  | _, _ => .fail
def oNotN (x y : D) (st : Sto) : R D := match y, isN x st with
  | .non, some b => .ok (.bl (!b)) st
  | _, _ => .fail
def flatD : D → Bool
  | .non | .bl _ | .int _ | .str _ => true
  | _ => false
def seqD : D → Option (List D)
  | .lst l => some l
  | .tup l => some l
  | _ => none
/-- x in l, of flat things -/
def oIn (neg : Bool) (x y : D) (st : Sto) : R D := match seqD y with
  | some l => if flatD x && l.all flatD then .ok (.bl (if neg then !(l.any fun z => D.eqv z x) else l.any fun z => D.eqv z x)) st else .fail
  | none => .fail

/-! ### tests -/
def tB (a : ME) : MT := fun ρ st => (a ρ st).bd fun d st => match d with
  | .bl b => .ok b st
  | _ => .fail
def tAnd (a b : MT) : MT := fun ρ st => (a ρ st).bd fun c st => if c then b ρ st else .ok false st
def tOr (a b : MT) : MT := fun ρ st => (a ρ st).bd fun c st => if c then .ok true st else b ρ st
def tNot (a : MT) : MT := fun ρ st => (a ρ st).bd fun c st => .ok (!c) st
def mIf (c : MT) (a b : ME) : ME := fun ρ st => (c ρ st).bd fun c st => if c then a ρ st else b ρ st
/-- the value of and, or, not over bools -/
def mAndV (a b : ME) : ME := fun ρ st => (a ρ st).bd fun d st => match d with
  | .bl true => b ρ st
  | .bl false => .ok (.bl false) st
  | _ => .fail
def mOrV (a b : ME) : ME := fun ρ st => (a ρ st).bd fun d st => match d with
  | .bl true => .ok (.bl true) st
  | .bl false => b ρ st
  | _ => .fail
def mNotV (a : ME) : ME := fun ρ st => (a ρ st).bd fun d st => match d with
  | .bl b => .ok (.bl (!b)) st
  | _ => .fail
/-- a < b < c -/
def mChain (f g : D → D → Sto → R D) (a b c : ME) : ME := fun ρ st => (a ρ st).bd fun x st => (b ρ st).bd fun y st => (f x y st).bd fun z st => match z with
  | .bl true => (c ρ st).bd fun w st => g y w st
  | .bl false => .ok (.bl false) st
  | _ => .fail

/-! ### lists of expressions, displays -/
def aNil : MA := fun _ st => .ok [] st
def aCons (a : ME) (r : MA) : MA := fun ρ st => (a ρ st).bd fun d st => (r ρ st).bd fun ds st => .ok (d :: ds) st
def mTup (a : MA) : ME := fun ρ st => (a ρ st).bd fun ds st => if fits ds.length then .ok (.tup ds) st else .fail
def mLst (a : MA) : ME := fun ρ st => (a ρ st).bd fun ds st => if fits ds.length then .ok (.lst ds) st else .fail
/-- a list that will be changed: an object of the store -/
def mLstM (a : MA) : ME := fun ρ st => (a ρ st).bd fun ds st => if fits ds.length then .ok (.obj st.length) (st ++ [.lst ds]) else .fail

/-! ### items -/
def getO (st : Sto) (i : Nat) : Option (List D) := match st[i]? with
  | some (.lst l) => some l
  | _ => none
def listD (d : D) (st : Sto) : Option (List D) := match d with
  | .lst l => some l
  | .tup l => some l
  | .obj i => getO st i
  | _ => none
def oIx (x y : D) (st : Sto) : R D := match listD x st, y with
  | some l, .int i => (match L2.atI l i with
    | some d => .ok d st
    | none => .fail)
  | _, _ => .fail

/-! ### functions -/
abbrev FnS := List D → Sto → R D
def mCall (f : FnS) (a : MA) : ME := fun ρ st => (a ρ st).bd fun ds st => f ds st

/-! ### statements -/
inductive RS where
  | nx (ρ : Envr) (st : Sto) | rt (d : D) (st : Sto) | bk (ρ : Envr) (st : Sto) | ct (ρ : Envr) (st : Sto) | exn (e : Str) (st : Sto) | fail
abbrev MS := Envr → Sto → RS
def R.bs {α : Type} (r : R α) (f : α → Sto → RS) : RS := match r with
  | .ok a st => f a st
  | .exn e st => .exn e st
  | .fail => .fail
def sNil : MS := fun ρ st => .nx ρ st
def sCons (a b : MS) : MS := fun ρ st => match a ρ st with
  | .nx ρ' st' => b ρ' st'
  | r => r
def sBrk : MS := fun ρ st => .bk ρ st
def sCnt : MS := fun ρ st => .ct ρ st
def sExpr (a : ME) : MS := fun ρ st => (a ρ st).bs fun _ st => .nx ρ st
def sRet (a : ME) : MS := fun ρ st => (a ρ st).bs fun d st => .rt d st
def sRetN : MS := fun _ st => .rt .non st
def sIf (c : MT) (a b : MS) : MS := fun ρ st => (c ρ st).bs fun c st => if c then a ρ st else b ρ st
def sAsg (a : ME) (g : MG) : MS := fun ρ st => (a ρ st).bs fun d st => (g d ρ st).bs fun ρ st => .nx ρ st
def gName (i : Nat) : MG := fun d ρ st => .ok (setAt ρ i (some d)) st
def gNames : List MG → List D → Envr → Sto → R Envr
  | [], [], ρ, st => .ok ρ st
  | g :: gs, d :: ds, ρ, st => (g d ρ st).bd fun ρ st => gNames gs ds ρ st
  | _, _, _, _ => .fail
def gTup (gs : List MG) : MG := fun d ρ st => match d with
  | .tup ds => if ds.length == gs.length then gNames gs ds ρ st else .fail
  | _ => .fail
/-- a, b = e1, e2 without a pair -/
def sPar (is : List Nat) (a : MA) : MS := fun ρ st => (a ρ st).bs fun ds st => (gNames (is.map gName) ds ρ st).bs fun ρ st => .nx ρ st
def sRaise (e : Str) : MS := fun _ st => .exn e st
def sAug (i : Nat) (f : D → D → Sto → R D) (a : ME) : MS := fun ρ st => match look ρ i with
  | some x => (a ρ st).bs fun y st => (f x y st).bs fun z st => .nx (setAt ρ i (some z)) st
  | none => .fail
/-- xs[i] = e -/
def putO (st : Sto) (i : Nat) (k : Int) (d : D) : Option Sto := match getO st i with
  | some l => (match L2.ixN l.length k with
    | some j => some (st.set i (.lst (l.set j d)))
    | none => none)
  | none => none
def gSub (o i : ME) : MG := fun d ρ st => (o ρ st).bd fun x st => (i ρ st).bd fun y st => match x, y with
  | .obj a, .int k => (match putO st a k d with
    | some st' => .ok ρ st'
    | none => .fail)
  | _, _ => .fail
def mWhile (n : Nat) (c : MT) (b : MS) : MS := match n with
  | 0 => fun _ _ => .fail
  | n + 1 => fun ρ st => (c ρ st).bs fun c' st => if c' then (match b ρ st with
      | .nx ρ st => mWhile n c b ρ st
      | .ct ρ st => mWhile n c b ρ st
      | .bk ρ st => .nx ρ st
      | .rt d st => .rt d st
      | .exn e st => .exn e st
      | .fail => .fail) else .nx ρ st
def turns : Nat := 1000000
def sWhile (c : MT) (b : MS) : MS := mWhile turns c b
def sForL (g : MG) (b : MS) : List D → MS
  | [] => fun ρ st => .nx ρ st
  | d :: ds => fun ρ st => (g d ρ st).bs fun ρ st => match b ρ st with
    | .nx ρ st => sForL g b ds ρ st
    | .ct ρ st => sForL g b ds ρ st
    | .bk ρ st => .nx ρ st
    | .rt d st => .rt d st
    | .exn e st => .exn e st
    | .fail => .fail
def sFor (it : MI) (g : MG) (b : MS) : MS := fun ρ st => (it ρ st).bs fun ds st => sForL g b ds ρ st
/-- for and comprehensions over pure sequences -/
def iSeq (a : ME) : MI := fun ρ st => (a ρ st).bd fun d st => match d with
  | .lst l => .ok l st
  | .tup l => .ok l st
  | _ => .fail
def rangeD (lo : Int) (n : Nat) : List D := (List.range n).map fun (k : Nat) => .int (lo + (k : Int))
def inLine (i : Int) : Bool := decide (-1000000 ≤ i) && decide (i ≤ 1000000)
def iRange1 (a : MA) : MI := fun ρ st => (a ρ st).bd fun ds st => match ds with
  | [.int n] => if inLine n then .ok (rangeD 0 n.toNat) st else .fail
  | _ => .fail
def iRange2 (a : MA) : MI := fun ρ st => (a ρ st).bd fun ds st => match ds with
  | [.int m, .int n] => if inLine m && inLine n then .ok (rangeD m (n - m).toNat) st else .fail
  | _ => .fail
def enumD : Nat → List D → List D
  | _, [] => []
  | n, d :: r => .tup [.int (n : Int), d] :: enumD (n + 1) r
def iEnum (a : ME) : MI := fun ρ st => (a ρ st).bd fun d st => match d with
  | .lst l => .ok (enumD 0 l) st
  | .tup l => .ok (enumD 0 l) st
  | _ => .fail
/-- the items of a comprehension -/
def lcL (g : MG) (t : MT) (e : ME) (ρ : Envr) : List D → Sto → R (List D)
  | [], st => .ok [] st
  | d :: ds, st => match g d ρ st with
    | .ok ρ' st1 => (match t ρ' st1 with
      | .ok true st2 => (match e ρ' st2 with
        | .ok x st3 => (match lcL g t e ρ ds st3 with
          | .ok r st4 => .ok (x :: r) st4
          | _ => .fail)
        | _ => .fail)
      | .ok false st2 => lcL g t e ρ ds st2
      | _ => .fail)
    | _ => .fail
def tYes : MT := fun _ st => .ok true st
def mLc (it : MI) (vs : List Nat) (g : MG) (t : MT) (e : ME) : ME := fun ρ st => (it ρ st).bd fun ds st => if fits ds.length then (match lcL g t e (wipeE ρ vs) ds st with
  | .ok r st => .ok (.lst r) st
  | _ => .fail) else .fail

/-! ### a def -/
def startE (n : Nat) (ds : List D) : Envr := ds.map some ++ List.replicate (n - ds.length) none
/-- a def over pure data: it runs in a store of its own and hands back pure data -/
def fnP (n k : Nat) (b : MS) : FnS := fun ds st => if ds.length == k && D.pures ds then (match b (startE n ds) [] with
  | .rt d _ => if d.pure then .ok d st else .fail
  | .nx _ _ => .ok .non st
  | .exn e _ => .exn e st
  | _ => .fail) else .fail
/-- a def over the store -/
def fnS (n k : Nat) (b : MS) : FnS := fun ds st => if ds.length == k then (match b (startE n ds) st with
  | .rt d st => .ok d st
  | .nx _ st => .ok .non st
  | .exn e st => .exn e st
  | _ => .fail) else .fail
end CV
/-! CVb: how plain data lie in the heap; the meaning of an expression as a reading of the hand layer. -/
namespace CV
open PySem PySem.Spec PyProof.Rows L2

/-- a lambda without parameters that captures nothing: what its function object holds -/
structure Clo where
  params : Arguments
  body : Expr
  scope : Scope
  q : Str
/-- its function object at f, its code object at c' -/
def CloO (c : Clo) (f c' : Addr) : HO := .ext fun h => ∃ pm ctv, h.get? f = some (PySem.W.kla_obj "<lambda>" c.q c.params c.body c.scope [] pm c' ctv)
theorem cloO_ne {c : Clo} {f c' : Addr} : ∀ ps : Array Value, CloO c f c' ≠ .tbl ps := fun ps z => by
  unfold CloO at z
  cases z
/-- a code object's table: the name ahead of its codes' names, the places of lambdas (all else is a generator expression's) -/
structure Tb where
  P : Addr
  q : Str
  lam : List (Nat × Nat)
def Tb.nm (t : Tb) (pos : Pos) : Str := if t.lam.contains (pos.line, pos.col) then t.q ++ "<lambda>" else t.q ++ "<genexpr>"
/-- what is the same for all of a law: the written part, the tables of code objects -/
structure Ct where
  K : PySem.W.Frag
  T : List Tb
  L : List Clo
/-- where the store's objects stand (none: gone), and what a caller's store holds: hidden -/
structure Io where
  v : List (Option Addr)
  h : List Addr
/-- no object of a store -/
structure NI (a : Addr) (ι : Io) : Prop where
  v : some a ∉ ι.v
  h : a ∉ ι.h
/- a value of the heap that bears a datum -/
mutual
inductive Rp (K : Ct) (ι : Io) (H : Hp) : D → V → Prop
  | non : Rp K ι H .non .non
  | bl (b : Bool) : Rp K ι H (.bl b) (.bl b)
  | int (i : Int) : Rp K ι H (.int i) (.int i)
  | str (s : Str) : Rp K ι H (.str s) (.str s)
  | tup {a : Addr} {vs : List V} {ds : List D} : NI a ι → Rd H a (.tup vs) → Rps K ι H ds vs → Rp K ι H (.tup ds) (.ref a)
  | lst {a : Addr} {vs : List V} {ds : List D} : NI a ι → Rd H a (.lst vs) → Rps K ι H ds vs → Rp K ι H (.lst ds) (.ref a)
  | tupK {a : Addr} {vs : List V} {ds : List D} : (∀ H, SqT K.K H a vs) → Rps K ι H ds vs → Rp K ι H (.tup ds) (.ref a)
  | lstK {a : Addr} {vs : List V} {ds : List D} : (∀ H, SqL K.K H a vs) → Rps K ι H ds vs → Rp K ι H (.lst ds) (.ref a)
  | clo {i : Nat} {c : Clo} {f c' : Addr} : K.L[i]? = some c → NI f ι → NI c' ι → H f = some (CloO c f c') → H c' = some (LamX.CodeO c' c.q) → Rp K ι H (.clo i) (.ref f)
  | obj {i : Nat} {x : Option Addr} {v : V} : ι.v[i]? = some x → (∀ a, x = some a → v = .ref a) → Rp K ι H (.obj i) v
inductive Rps (K : Ct) (ι : Io) (H : Hp) : List D → List V → Prop
  | nil : Rps K ι H [] []
  | cons {d : D} {v : V} {ds : List D} {vs : List V} : Rp K ι H d v → Rps K ι H ds vs → Rps K ι H (d :: ds) (v :: vs)
end
/-- what data need of a later state -/
structure Tr (ι : Io) (H : Hp) (ι' : Io) (H' : Hp) : Prop where
  io : ∀ (i : Nat) (x : Option Addr), ι.v[i]? = some x → ι'.v[i]? = some x ∨ ι'.v[i]? = some none
  keep : ∀ a o, NI a ι → H a = some o → (∀ ps, o ≠ .tbl ps) → H' a = some o ∧ NI a ι'
/-- what later states keep -/
structure Ext (ι : Io) (H : Hp) (ι' : Io) (H' : Hp) : Prop extends Tr ι H ι' H' where
  hd : ι'.h = ι.h
  hid : ∀ a o, a ∈ ι.h → H a = some o → (∀ ps, o ≠ .tbl ps) → H' a = some o
theorem Tr.refl (ι : Io) (H : Hp) : Tr ι H ι H := ⟨fun _ _ h => .inl h, fun _ _ n h _ => ⟨h, n⟩⟩
theorem Ext.refl (ι : Io) (H : Hp) : Ext ι H ι H := ⟨.refl ι H, rfl, fun _ _ _ h _ => h⟩
theorem Tr.trans {ι ι1 ι2 : Io} {H H1 H2 : Hp} (a : Tr ι H ι1 H1) (b : Tr ι1 H1 ι2 H2) : Tr ι H ι2 H2 :=
  ⟨fun i x h => by
    rcases a.io i x h with h1 | h1
    · exact b.io i x h1
    · rcases b.io i none h1 with h2 | h2 <;> exact .inr h2,
   fun p o n h t => by
    obtain ⟨h1, n1⟩ := a.keep p o n h t
    exact b.keep p o n1 h1 t⟩
theorem Ext.trans {ι ι1 ι2 : Io} {H H1 H2 : Hp} (a : Ext ι H ι1 H1) (b : Ext ι1 H1 ι2 H2) : Ext ι H ι2 H2 :=
  ⟨a.toTr.trans b.toTr, b.hd.trans a.hd, fun p o m h t => b.hid p o (by rw [a.hd]; exact m) (a.hid p o m h t) t⟩
/-- a new object -/
theorem Ext.new {ι : Io} {H : Hp} {p : Addr} {o : HO} (n : H p = none) : Ext ι H ι (upd H p o) :=
  ⟨⟨fun _ _ h => .inl h, fun a u na h _ => ⟨by rw [upd_ne (ne_of_none h n)]; exact h, na⟩⟩, rfl, fun a u _ h _ => by rw [upd_ne (ne_of_none h n)]; exact h⟩
theorem Tr.rd {ι ι' : Io} {H H' : Hp} (e : Tr ι H ι' H') {a : Addr} {u : HO} (ht : ∀ ps, u ≠ .tbl ps) (n : NI a ι) (h : Rd H a u) : Rd H' a u ∧ NI a ι' := by
  rcases h with h | ⟨o, h⟩
  · obtain ⟨h1, n1⟩ := e.keep a u n h ht
    exact ⟨.inl h1, n1⟩
  · obtain ⟨h1, n1⟩ := e.keep a _ n h (fun ps q => by cases q)
    exact ⟨.inr ⟨o, h1⟩, n1⟩
mutual
theorem Rp.tr {K : Ct} {ι ι' : Io} {H H' : Hp} (e : Tr ι H ι' H') : ∀ {d : D} {v : V}, Rp K ι H d v → Rp K ι' H' d v
  | _, _, .non => .non
  | _, _, .bl b => .bl b
  | _, _, .int i => .int i
  | _, _, .str s => .str s
  | _, _, .tup n h r => let q := e.rd (fun ps z => by cases z) n h; .tup q.2 q.1 (Rps.tr e r)
  | _, _, .lst n h r => let q := e.rd (fun ps z => by cases z) n h; .lst q.2 q.1 (Rps.tr e r)
  | _, _, .tupK h r => .tupK h (Rps.tr e r)
  | _, _, .lstK h r => .lstK h (Rps.tr e r)
  | _, _, .clo h1 n1 n2 h2 h3 =>
    let q1 := e.keep _ _ n1 h2 cloO_ne
    let q2 := e.keep _ _ n2 h3 LamX.codeO_ne
    .clo h1 q1.2 q2.2 q1.1 q2.1
  | _, _, .obj (x := x) h f => by
    rcases e.io _ _ h with h1 | h1
    · exact .obj h1 f
    · exact .obj h1 (fun a z => by cases z)
theorem Rps.tr {K : Ct} {ι ι' : Io} {H H' : Hp} (e : Tr ι H ι' H') : ∀ {ds : List D} {vs : List V}, Rps K ι H ds vs → Rps K ι' H' ds vs
  | _, _, .nil => .nil
  | _, _, .cons h r => .cons (Rp.tr e h) (Rps.tr e r)
end
theorem Rp.ext {K : Ct} {ι ι' : Io} {H H' : Hp} {d : D} {v : V} (r : Rp K ι H d v) (e : Ext ι H ι' H') : Rp K ι' H' d v := r.tr e.toTr
theorem Rps.ext {K : Ct} {ι ι' : Io} {H H' : Hp} {ds : List D} {vs : List V} (r : Rps K ι H ds vs) (e : Ext ι H ι' H') : Rps K ι' H' ds vs := r.tr e.toTr
theorem Rps.length {K : Ct} {ι : Io} {H : Hp} : ∀ {ds : List D} {vs : List V}, Rps K ι H ds vs → ds.length = vs.length
  | _, _, .nil => rfl
  | _, _, .cons _ r => congrArg Nat.succ r.length
theorem Rps.append {K : Ct} {ι : Io} {H : Hp} : ∀ {ds es : List D} {vs ws : List V}, Rps K ι H ds vs → Rps K ι H es ws → Rps K ι H (ds ++ es) (vs ++ ws)
  | _, _, _, _, .nil, s => s
  | _, _, _, _, .cons h r, s => .cons h (r.append s)
theorem Rps.get {K : Ct} {ι : Io} {H : Hp} : ∀ {ds : List D} {vs : List V} {i : Nat} {d : D}, Rps K ι H ds vs → ds[i]? = some d → ∃ v, vs[i]? = some v ∧ Rp K ι H d v
  | _, _, _, _, .nil, e => by simp at e
  | _, _, 0, _, .cons h _, e => by simp at e; subst e; exact ⟨_, rfl, h⟩
  | _, _, i + 1, _, .cons _ r, e => by
    obtain ⟨v, h1, h2⟩ := r.get (i := i) (by simpa using e)
    exact ⟨v, by simpa using h1, h2⟩
theorem Rps.set {K : Ct} {ι : Io} {H : Hp} {d : D} {v : V} (h : Rp K ι H d v) : ∀ {ds : List D} {vs : List V} (i : Nat), Rps K ι H ds vs → Rps K ι H (ds.set i d) (vs.set i v)
  | _, _, _, .nil => .nil
  | _, _, 0, .cons _ r => .cons h r
  | _, _, i + 1, .cons q r => .cons q (Rps.set h i r)
theorem Rps.drop {K : Ct} {ι : Io} {H : Hp} : ∀ {ds : List D} {vs : List V} (n : Nat), Rps K ι H ds vs → Rps K ι H (ds.drop n) (vs.drop n)
  | _, _, 0, r => r
  | _, _, _ + 1, .nil => .nil
  | _, _, n + 1, .cons _ r => Rps.drop n r
theorem Rps.take {K : Ct} {ι : Io} {H : Hp} : ∀ {ds : List D} {vs : List V} (n : Nat), Rps K ι H ds vs → Rps K ι H (ds.take n) (vs.take n)
  | _, _, 0, _ => .nil
  | _, _, _ + 1, .nil => .nil
  | _, _, n + 1, .cons h r => .cons h (Rps.take n r)

/- pure data may be taken over another store, whose objects are not among them -/
mutual
theorem Rp.over {K : Ct} {ι ι0 : Io} {H : Hp} (hn : ∀ a, NI a ι0 → NI a ι) : ∀ {d : D} {v : V}, d.pure = true → Rp K ι0 H d v → Rp K ι H d v
  | _, _, _, .non => .non
  | _, _, _, .bl b => .bl b
  | _, _, _, .int i => .int i
  | _, _, _, .str s => .str s
  | _, _, p, .tup n h r => .tup (hn _ n) h (Rps.over hn (by simpa only [D.pure] using p) r)
  | _, _, p, .lst n h r => .lst (hn _ n) h (Rps.over hn (by simpa only [D.pure] using p) r)
  | _, _, p, .tupK h r => .tupK h (Rps.over hn (by simpa only [D.pure] using p) r)
  | _, _, p, .lstK h r => .lstK h (Rps.over hn (by simpa only [D.pure] using p) r)
  | _, _, _, .clo h1 n1 n2 h2 h3 => .clo h1 (hn _ n1) (hn _ n2) h2 h3
  | _, _, p, .obj _ _ => by simp [D.pure] at p
theorem Rps.over {K : Ct} {ι ι0 : Io} {H : Hp} (hn : ∀ a, NI a ι0 → NI a ι) : ∀ {ds : List D} {vs : List V}, D.pures ds = true → Rps K ι0 H ds vs → Rps K ι H ds vs
  | _, _, _, .nil => .nil
  | _, _, p, .cons h r => by
    simp only [D.pures, Bool.and_eq_true] at p
    exact .cons (Rp.over hn p.1 h) (Rps.over hn p.2 r)
end

/-! ### slots -/
inductive EnvR (K : Ct) (ι : Io) (H : Hp) : Envr → L2.St → Prop
  | nil : EnvR K ι H [] []
  | cons {x : Option D} {y : Option V} {ρ : Envr} {σ : L2.St} : (∀ d, x = some d → ∃ v, y = some v ∧ Rp K ι H d v) → EnvR K ι H ρ σ → EnvR K ι H (x :: ρ) (y :: σ)
section
variable {K : Ct} {ι ι' : Io} {H H' : Hp}
theorem EnvR.tr (e : Tr ι H ι' H') : ∀ {ρ : Envr} {σ : L2.St}, EnvR K ι H ρ σ → EnvR K ι' H' ρ σ
  | _, _, .nil => .nil
  | _, _, .cons h r => .cons (fun d z => let ⟨v, h1, h2⟩ := h d z; ⟨v, h1, h2.tr e⟩) (EnvR.tr e r)
theorem EnvR.ext {ρ : Envr} {σ : L2.St} (r : EnvR K ι H ρ σ) (e : Ext ι H ι' H') : EnvR K ι' H' ρ σ := r.tr e.toTr
theorem EnvR.look : ∀ {ρ : Envr} {σ : L2.St} {i : Nat} {d : D}, EnvR K ι H ρ σ → look ρ i = some d → ∃ v, σ[i]? = some (some v) ∧ Rp K ι H d v
  | _, _, _, _, .nil, e => by simp [CV.look] at e
  | _, _, 0, _, .cons h _, e => by
    obtain ⟨v, h1, h2⟩ := h _ (by simpa [CV.look] using e)
    exact ⟨v, by simp [h1], h2⟩
  | _, _, i + 1, _, .cons _ r, e => by
    obtain ⟨v, h1, h2⟩ := r.look (i := i) (by simpa [CV.look] using e)
    exact ⟨v, by simpa using h1, h2⟩
theorem EnvR.set {d : D} {v : V} (h : Rp K ι H d v) : ∀ {ρ : Envr} {σ : L2.St} (i : Nat), EnvR K ι H ρ σ → EnvR K ι H (setAt ρ i (some d)) (σ.set i (some v))
  | _, _, _, .nil => .nil
  | _, _, 0, .cons _ r => .cons (fun d' z => by cases z; exact ⟨v, rfl, h⟩) r
  | _, _, i + 1, .cons q r => .cons q (EnvR.set h i r)
theorem EnvR.unset : ∀ {ρ : Envr} {σ : L2.St} (i : Nat), EnvR K ι H ρ σ → EnvR K ι H (setAt ρ i none) (σ.set i none)
  | _, _, _, .nil => .nil
  | _, _, 0, .cons _ r => .cons (fun d' z => by cases z) r
  | _, _, i + 1, .cons q r => .cons q (EnvR.unset i r)
theorem EnvR.wipe {ρ : Envr} {σ : L2.St} (h : EnvR K ι H ρ σ) : ∀ vs : List Nat, EnvR K ι H (wipeE ρ vs) (L2.wipe σ vs)
  | [] => h
  | v :: vs => EnvR.unset v (EnvR.wipe h vs)
end

/-! ### the store -/
def TabP (H : Hp) (t : Tb) : Prop := ∃ ps : Array Value, H t.P = some (.tbl ps) ∧ TriplesOk ps.toList ∧ ∀ (pos : Pos) (cv : Value), codeAmong pos ps.toList = some cv → ∃ c, cv = .ref c ∧ H c = some (LamX.CodeO c (t.nm pos))
def Tbs (C : Ct) (H : Hp) : Prop := ∀ t ∈ C.T, TabP H t
theorem TabP.ext {H H' : Hp} {t : Tb} (h : TabP H t) (hP : ∀ ps, H t.P = some (.tbl ps) → H' t.P = some (.tbl ps)) (e : ∀ b q, H b = some (LamX.CodeO b q) → H' b = some (LamX.CodeO b q)) : TabP H' t := by
  obtain ⟨ps, h1, h2, h3⟩ := h
  refine ⟨ps, hP _ h1, h2, fun pos cv hc => ?_⟩
  obtain ⟨c, e1, e2⟩ := h3 pos cv hc
  exact ⟨c, e1, e _ _ e2⟩
theorem Tbs.ext {C : Ct} {H H' : Hp} (t : Tbs C H) (e : ∀ b o, H b = some o → H' b = some o) : Tbs C H' := fun p hp => (t p hp).ext (fun _ h => e _ _ h) fun _ _ h => e _ _ h
/-- what may stand in the store -/
def Own : HO → Prop
  | .ext _ => False
  | o => Mut (some o)
def RpOb (K : Ct) (ι : Io) (H : Hp) (x : Option Addr) : Ob → Prop
  | .lst ds => ∃ a vs, x = some a ∧ H a = some (.lst vs) ∧ Rps K ι H ds vs
  | .dead => x = none
structure RepS (C : Ct) (st : Sto) (ι : Io) (H : Hp) : Prop where
  len : ι.v.length = st.length
  inj : ∀ (i j : Nat) (a : Addr), ι.v[i]? = some (some a) → ι.v[j]? = some (some a) → i = j
  at_ : ∀ (i : Nat) (ob : Ob) (x : Option Addr), st[i]? = some ob → ι.v[i]? = some x → RpOb C ι H x ob
  tabs : Tbs C H
  tf : ∀ (i : Nat) (a : Addr), ι.v[i]? = some (some a) → ∃ o, H a = some o ∧ Own o
  th : ∀ a ∈ ι.h, ∃ o, H a = some o ∧ Own o
  ap : ∀ a ∈ ι.h, some a ∉ ι.v
theorem RpOb.tr {K : Ct} {ι ι' : Io} {H H' : Hp} (e : Tr ι H ι' H') {x : Option Addr} {ob : Ob} (h : RpOb K ι H x ob) (hx : ∀ a o, x = some a → H a = some o → H' a = some o) : RpOb K ι' H' x ob := by
  cases ob with
  | lst ds =>
    obtain ⟨a, vs, h1, h2, h3⟩ := h
    exact ⟨a, vs, h1, hx a _ h1 h2, h3.tr e⟩
  | dead => exact h
/-- a new object of the heap, not of the store -/
theorem RepS.new {C : Ct} {st : Sto} {ι : Io} {H : Hp} {p : Addr} {o : HO} (S : RepS C st ι H) (n : H p = none) : RepS C st ι (upd H p o) := by
  have st' : ∀ b u, H b = some u → upd H p o b = some u := fun b u h => by
    rw [upd_ne (ne_of_none h n)]
    exact h
  exact ⟨S.len, S.inj, fun i ob x h1 h2 => (S.at_ i ob x h1 h2).tr (Ext.new n).toTr fun a u _ h => st' a u h, S.tabs.ext st', fun i a h => let ⟨u, h1, h2⟩ := S.tf i a h; ⟨u, st' a u h1, h2⟩, fun a h => let ⟨u, h1, h2⟩ := S.th a h; ⟨u, st' a u h1, h2⟩, S.ap⟩
theorem RepS.notIn {C : Ct} {st : Sto} {ι : Io} {H : Hp} {p : Addr} (S : RepS C st ι H) (n : H p = none) : NI p ι := by
  refine ⟨fun z => ?_, fun z => ?_⟩
  · obtain ⟨i, hi⟩ := List.mem_iff_getElem?.mp z
    obtain ⟨o, h, _⟩ := S.tf i p hi
    rw [n] at h
    cases h
  · obtain ⟨o, h, _⟩ := S.th p z
    rw [n] at h
    cases h
theorem upd_none_of {H : Hp} {p q : Addr} {o : HO} (h : upd H p o q = none) : H q = none := by
  by_cases e : q = p
  · rw [e, upd_same] at h
    cases h
  · rw [upd_ne e] at h
    exact h

/-! ### what a meaning asks -/
def PostR {α : Type} (C : Ct) (ι : Io) (H : Hp) (okP : α → Sto → Io → Hp → Prop) (exP : Str → Option Addr → Hp → Prop) : R α → Prop
  | .ok a st' => ∀ ι' H', Ext ι H ι' H' → RepS C st' ι' H' → okP a st' ι' H'
  | .exn e st' => ∀ ι' H' dd, Ext ι H ι' H' → RepS C st' ι' H' → exP e dd H'
  | .fail => False
theorem PostR.ext {α : Type} {C : Ct} {ι ι1 : Io} {H H1 : Hp} {okP : α → Sto → Io → Hp → Prop} {exP : Str → Option Addr → Hp → Prop} {r : R α} (e : Ext ι H ι1 H1) (h : PostR C ι H okP exP r) : PostR C ι1 H1 okP exP r := by
  cases r with
  | ok a st => exact fun ι' H' e' s => h ι' H' (e.trans e') s
  | exn x st => exact fun ι' H' dd e' s => h ι' H' dd (e.trans e') s
  | fail => exact h
theorem PostR.bd {α β : Type} {C : Ct} {ι : Io} {H : Hp} {okP : β → Sto → Io → Hp → Prop} {exP : Str → Option Addr → Hp → Prop} {r : R α} {f : α → Sto → R β} (h : PostR C ι H okP exP (r.bd f)) :
    PostR C ι H (fun a st1 ι1 H1 => PostR C ι1 H1 okP exP (f a st1)) exP r := by
  cases r with
  | ok a st => exact fun ι' H' e' s => PostR.ext e' h
  | exn x st => exact h
  | fail => exact h
theorem PostR.imp {α : Type} {C : Ct} {ι : Io} {H : Hp} {okP okP' : α → Sto → Io → Hp → Prop} {exP exP' : Str → Option Addr → Hp → Prop} {r : R α} (h : PostR C ι H okP exP r)
    (h1 : ∀ a st ι' H', Ext ι H ι' H' → RepS C st ι' H' → okP a st ι' H' → okP' a st ι' H') (h2 : ∀ e dd H', exP e dd H' → exP' e dd H') : PostR C ι H okP' exP' r := by
  cases r with
  | ok a st => exact fun ι' H' e' s => h1 a st ι' H' e' s (h ι' H' e' s)
  | exn x st => exact fun ι' H' dd e' s => h2 _ _ _ (h ι' H' dd e' s)
  | fail => exact h

/-- a wish about exceptions, by the class's name -/
def exW (K : PySem.W.Frag) (W : WX) (σ : L2.St) : Str → Option Addr → Hp → Prop := fun e dd H' => W (.ref (He.ga K e)) dd σ H'
def okV (K : Ct) (Q : VK) : D → Sto → Io → Hp → Prop := fun d _ ι H => ∀ v, Rp K ι H d v → Q v H
def okB (Q : Bool → Hp → Prop) : Bool → Sto → Io → Hp → Prop := fun b _ _ H => Q b H
def okL (K : Ct) (Q : List V → Hp → Prop) : List D → Sto → Io → Hp → Prop := fun ds _ ι H => ∀ vs, Rps K ι H ds vs → Q vs H
/-- the readings of meanings -/
def rdE (C : Ct) (W : WX) (m : ME) : TE := fun σ H Q => ∃ ρ st ι, EnvR C ι H ρ σ ∧ RepS C st ι H ∧ PostR C ι H (okV C Q) (exW C.K W σ) (m ρ st)
def rdT (C : Ct) (W : WX) (m : MT) : TT := fun σ H Q => ∃ ρ st ι, EnvR C ι H ρ σ ∧ RepS C st ι H ∧ PostR C ι H (okB Q) (exW C.K W σ) (m ρ st)
def rdA (C : Ct) (W : WX) (m : MA) : TA := fun σ H Q => ∃ ρ st ι, EnvR C ι H ρ σ ∧ RepS C st ι H ∧ PostR C ι H (okL C Q) (exW C.K W σ) (m ρ st)
abbrev SE (C : Ct) (X : Cx) (W : WX) (e : Expr) (m : ME) : Prop := PE X e (rdE C W m)
abbrev ST (C : Ct) (X : Cx) (W : WX) (e : Expr) (m : MT) : Prop := PT X e (rdT C W m)
abbrev SW (C : Ct) (X : Cx) (W : WX) (e : Expr) (m : MT) : Prop := PW X e (rdT C W m)
abbrev SA (C : Ct) (X : Cx) (W : WX) (es : List Expr) (m : MA) : Prop := PA X es (rdA C W m)
theorem pe_imp {X : Cx} {e : Expr} {t t' : TE} (h : PE X e t) (k : ∀ σ H Q, t' σ H Q → t σ H Q) : PE X e t' := ⟨fun pins s σ H Q I q => h.run pins s σ H Q I (k σ H Q q)⟩
theorem pt_imp {X : Cx} {e : Expr} {t t' : TT} (h : PT X e t) (k : ∀ σ H Q, t' σ H Q → t σ H Q) : PT X e t' := ⟨fun pins s σ H Q I q => h.run pins s σ H Q I (k σ H Q q)⟩
theorem pw_imp {X : Cx} {e : Expr} {t t' : TT} (h : PW X e t) (k : ∀ σ H Q, t' σ H Q → t σ H Q) : PW X e t' := ⟨fun whole pins s σ H Q I q => h.run whole pins s σ H Q I (k σ H Q q)⟩
theorem pa_imp {X : Cx} {es : List Expr} {t t' : TA} (h : PA X es t) (k : ∀ σ H Q, t' σ H Q → t σ H Q) : PA X es t' := ⟨fun pos pins s σ H Q I q => h.run pos pins s σ H Q I (k σ H Q q)⟩

section
variable {C : Ct} {W : WX} {σ : L2.St} {H : Hp} {ρ : Envr} {st : Sto} {ι : Io}
/-- a part is read, then what follows -/
theorem rd_seq {β : Type} {m : ME} {f : D → Sto → R β} {okP : β → Sto → Io → Hp → Prop} {Q : VK} (hE : EnvR C ι H ρ σ) (hS : RepS C st ι H) (hP : PostR C ι H okP (exW C.K W σ) ((m ρ st).bd f))
    (k : ∀ d st1 ι1 H1 v1, EnvR C ι1 H1 ρ σ → RepS C st1 ι1 H1 → Ext ι H ι1 H1 → Rp C ι1 H1 d v1 → PostR C ι1 H1 okP (exW C.K W σ) (f d st1) → Q v1 H1) : rdE C W m σ H Q :=
  ⟨ρ, st, ι, hE, hS, hP.bd.imp (fun d st1 ι1 H1 e s q v r => k d st1 ι1 H1 v (hE.ext e) s e r q) fun _ _ _ z => z⟩
theorem rd_seqT {β : Type} {m : MT} {f : Bool → Sto → R β} {okP : β → Sto → Io → Hp → Prop} {Q : Bool → Hp → Prop} (hE : EnvR C ι H ρ σ) (hS : RepS C st ι H) (hP : PostR C ι H okP (exW C.K W σ) ((m ρ st).bd f))
    (k : ∀ b st1 ι1 H1, EnvR C ι1 H1 ρ σ → RepS C st1 ι1 H1 → Ext ι H ι1 H1 → PostR C ι1 H1 okP (exW C.K W σ) (f b st1) → Q b H1) : rdT C W m σ H Q :=
  ⟨ρ, st, ι, hE, hS, hP.bd.imp (fun b st1 ι1 H1 e s q => k b st1 ι1 H1 (hE.ext e) s e q) fun _ _ _ z => z⟩
theorem rd_seqA {β : Type} {m : MA} {f : List D → Sto → R β} {okP : β → Sto → Io → Hp → Prop} {Q : List V → Hp → Prop} (hE : EnvR C ι H ρ σ) (hS : RepS C st ι H) (hP : PostR C ι H okP (exW C.K W σ) ((m ρ st).bd f))
    (k : ∀ ds st1 ι1 H1 vs, EnvR C ι1 H1 ρ σ → RepS C st1 ι1 H1 → Ext ι H ι1 H1 → Rps C ι1 H1 ds vs → PostR C ι1 H1 okP (exW C.K W σ) (f ds st1) → Q vs H1) : rdA C W m σ H Q :=
  ⟨ρ, st, ι, hE, hS, hP.bd.imp (fun ds st1 ι1 H1 e s q vs r => k ds st1 ι1 H1 vs (hE.ext e) s e r q) fun _ _ _ z => z⟩
/-- the end: a value that is known -/
theorem post_ok {α : Type} {okP : α → Sto → Io → Hp → Prop} {exP : Str → Option Addr → Hp → Prop} {a : α} (hS : RepS C st ι H) (h : PostR C ι H okP exP (.ok a st)) : okP a st ι H := h ι H (Ext.refl ι H) hS

variable {X : Cx} {a b c : Expr} {ma mb mc : ME} {pos : Pos}
/-! ### names, constants -/
theorem se_c {e : Expr} {d : D} {v : V} (h : PE X e (tC v)) (r : ∀ ι H, Rp C ι H d v) : SE C X W e (mC d) := pe_imp h fun σ H Q ⟨ρ, st, ι, _, hS, hP⟩ => post_ok hS hP v (r ι H)
theorem se_int {i j pos} : SE C X W (.Constant (.int i) j pos) (mC (.int i)) := se_c pe_int fun _ _ => .int i
theorem se_bl {b j pos} : SE C X W (.Constant (.bool b) j pos) (mC (.bl b)) := se_c pe_bl fun _ _ => .bl b
theorem se_non {j pos} : SE C X W (.Constant .none j pos) (mC .non) := se_c pe_non fun _ _ => .non
theorem se_str {x j pos} : SE C X W (.Constant (.str x) j pos) (mC (.str x)) := se_c pe_str fun _ _ => .str x
theorem se_v {e : Expr} (i : Nat) (h : PE X e (tVar i)) : SE C X W e (mVar i) := pe_imp h fun σ H Q ⟨ρ, st, ι, hE, hS, hP⟩ => by
  unfold mVar at hP
  cases q : look ρ i with
  | none =>
    rw [q] at hP
    exact hP.elim
  | some d =>
    rw [q] at hP
    obtain ⟨v, h1, h2⟩ := hE.look q
    exact ⟨v, h1, post_ok hS hP v h2⟩
/-! ### operators -/
/-- how an operator's meaning is served by the layer's rule -/
def OpS (C : Ct) (f : D → D → Sto → R D) (r : R2) : Prop := ∀ (x y : D) (st : Sto) (ι : Io) (H : Hp) (v u : V) (Q : VK) (exP : Str → Option Addr → Hp → Prop), RepS C st ι H → Rp C ι H x v → Rp C ι H y u → PostR C ι H (okV C Q) exP (f x y st) → r v u H Q
def UnS (C : Ct) (f : D → Sto → R D) (r : V → Hp → VK → Prop) : Prop := ∀ (x : D) (st : Sto) (ι : Io) (H : Hp) (v : V) (Q : VK) (exP : Str → Option Addr → Hp → Prop), RepS C st ι H → Rp C ι H x v → PostR C ι H (okV C Q) exP (f x st) → r v H Q
theorem rd_bin {f : D → D → Sto → R D} {r : R2} (ho : OpS C f r) {Q : VK} (h : rdE C W (mBin f ma mb) σ H Q) : tOp r (rdE C W ma) (rdE C W mb) σ H Q := by
  obtain ⟨ρ, st, ι, hE, hS, hP⟩ := h
  exact rd_seq hE hS hP fun x st1 ι1 H1 v1 hE1 hS1 _ rx hP1 => rd_seq hE1 hS1 hP1 fun y st2 ι2 H2 v2 hE2 hS2 e2 ry hP2 => ho x y st2 ι2 H2 v1 v2 Q _ hS2 (rx.ext e2) ry hP2
theorem se_bin {op : Operator} {f : D → D → Sto → R D} {r : R2} (hr : OpR X (binaryOp op) r) (ho : OpS C f r) (ha : SE C X W a ma) (hb : SE C X W b mb) : SE C X W (.BinOp a op b pos) (mBin f ma mb) :=
  pe_imp (pe_op hr ha hb) fun _ _ _ h => rd_bin ho h
theorem se_un {op : UnaryOp} {f : D → Sto → R D} {r : V → Hp → VK → Prop} (hr : UnR X (unaryOp op) r) (ho : UnS C f r) (ha : SE C X W a ma) : SE C X W (.UnaryOp op a pos) (mUn f ma) :=
  pe_imp (pe_un hr ha) fun σ H Q ⟨ρ, st, ι, hE, hS, hP⟩ => rd_seq hE hS hP fun x st1 ι1 H1 v1 hE1 hS1 _ rx hP1 => ho x st1 ι1 H1 v1 Q _ hS1 rx hP1
theorem se_cmp {op : CmpOp} {f : D → D → Sto → R D} {r : R2} (hr : OpR X (compareOp op) r) (ho : OpS C f r) (ha : SE C X W a ma) (hb : SE C X W b mb) (hm : behindInMarks op b = false) : SE C X W (.Compare a [op] [b] pos) (mBin f ma mb) :=
  pe_imp (pe_cmpR hr ha hb hm) fun _ _ _ h => rd_bin ho h
end
end CV
/-! CVc: operators, tests, displays, items, calls. -/
namespace CV
open PySem PySem.Spec PyProof.Rows L2

/-! ### data as the library reads them -/
mutual
theorem Rp.dp {K : Ct} {ι : Io} {H : Hp} : ∀ {n : Nat} {d : D} {v : V}, D.lay n d = true → Rp K ι H d v → Dp K.K H v d.py
  | _, _, _, _, .non => .non
  | _, _, _, _, .bl b => .bl b
  | _, _, _, _, .int i => .int i
  | _, _, _, _, .str s => .str s
  | 0, _, _, p, .tup _ _ _ => by simp [D.lay] at p
  | 0, _, _, p, .lst _ _ _ => by simp [D.lay] at p
  | 0, _, _, p, .tupK _ _ => by simp [D.lay] at p
  | 0, _, _, p, .lstK _ _ => by simp [D.lay] at p
  | n + 1, _, _, p, .tup _ h r => by
    rw [D.py]
    exact .tup (.inl h) (Rps.dp (n := n) (by simpa only [D.lay] using p) r)
  | n + 1, _, _, p, .lst _ h r => by
    rw [D.py]
    exact .lst (.inl h) (Rps.dp (n := n) (by simpa only [D.lay] using p) r)
  | n + 1, _, _, p, .tupK h r => by
    rw [D.py]
    exact .tup (h H) (Rps.dp (n := n) (by simpa only [D.lay] using p) r)
  | n + 1, _, _, p, .lstK h r => by
    rw [D.py]
    exact .lst (h H) (Rps.dp (n := n) (by simpa only [D.lay] using p) r)
  | 0, _, _, p, .clo _ _ _ _ _ => by simp [D.lay] at p
  | _ + 1, _, _, p, .clo _ _ _ _ _ => by simp [D.lay] at p
  | 0, _, _, p, .obj _ _ => by simp [D.lay] at p
  | _ + 1, _, _, p, .obj _ _ => by simp [D.lay] at p
theorem Rps.dp {K : Ct} {ι : Io} {H : Hp} : ∀ {n : Nat} {ds : List D} {vs : List V}, D.lays n ds = true → Rps K ι H ds vs → DpAll K.K H vs (D.pys ds)
  | _, _, _, _, .nil => .nil
  | n, _, _, p, .cons h r => by
    rw [D.lays, Bool.and_eq_true] at p
    rw [D.pys]
    exact .cons (Rp.dp p.1 h) (Rps.dp p.2 r)
end
mutual
theorem lay_can : ∀ {n : Nat} {d : D}, D.lay n d = true → d.py.canLay0 = true ∧ d.py.depth ≤ n + 1
  | _, .non, _ => ⟨rfl, by simp [D.py, PyData.depth]⟩
  | _, .bl b, _ => ⟨rfl, by simp [D.py, PyData.depth]⟩
  | _, .int i, _ => ⟨rfl, by simp [D.py, PyData.depth]⟩
  | n, .str s, p => ⟨by simpa [D.py, PyData.canLay0, D.lay] using p, by simp [D.py, PyData.depth]⟩
  | 0, .tup l, p => by simp [D.lay] at p
  | 0, .lst l, p => by simp [D.lay] at p
  | 0, .clo _, p => by simp [D.lay] at p
  | _ + 1, .clo _, p => by simp [D.lay] at p
  | 0, .obj _, p => by simp [D.lay] at p
  | _ + 1, .obj _, p => by simp [D.lay] at p
  | n + 1, .tup l, p => by
    obtain ⟨h1, h2⟩ := lays_can (n := n) (ds := l) (by simpa only [D.lay] using p)
    exact ⟨by simpa [D.py, PyData.canLay0] using h1, by simp only [D.py, PyData.depth]; omega⟩
  | n + 1, .lst l, p => by
    obtain ⟨h1, h2⟩ := lays_can (n := n) (ds := l) (by simpa only [D.lay] using p)
    exact ⟨by simpa [D.py, PyData.canLay0] using h1, by simp only [D.py, PyData.depth]; omega⟩
theorem lays_can : ∀ {n : Nat} {ds : List D}, D.lays n ds = true → PyData.canLayAll0 (D.pys ds) = true ∧ PyData.depthAll (D.pys ds) ≤ n + 1
  | _, [], _ => ⟨rfl, by simp [D.pys, PyData.depthAll]⟩
  | n, d :: r, p => by
    rw [D.lays, Bool.and_eq_true] at p
    obtain ⟨a1, a2⟩ := lay_can p.1
    obtain ⟨b1, b2⟩ := lays_can p.2
    exact ⟨by simp [D.pys, PyData.canLayAll0, a1, b1], by simp only [D.pys, PyData.depthAll]; omega⟩
end
theorem lay_shaped {n : Nat} {d : D} (hn : n ≤ 60) (h : D.lay n d = true) : SeqAt.shaped d.py = true := by
  obtain ⟨a, b⟩ := lay_can h
  unfold SeqAt.shaped
  rw [a, Bool.true_and, decide_eq_true_eq]
  omega

theorem fits_le {n : Nat} (h : fits n = true) : n ≤ 1000000 := of_decide_eq_true h
theorem fits_line {n : Nat} (h : fits n = true) : n ≤ sizeLine := by
  have := fits_le h
  rw [sizeLine_eq]
  omega
theorem fits_lt {n : Nat} (h : fits n = true) : n < sizeLine := by
  have := fits_le h
  rw [sizeLine_eq]
  omega
section
variable {C : Ct} {X : Cx}
/-- no case of this kind -/
theorem no_case {α : Type} {ι : Io} {H : Hp} {okP : α → Sto → Io → Hp → Prop} {exP : Str → Option Addr → Hp → Prop} {P : Prop} (h : PostR C ι H okP exP .fail) : P := h.elim
/-- a new list, a new tuple -/
theorem new_lst {st : Sto} {ι : Io} {H : Hp} {ds : List D} {vs : List V} {Q : VK} {exP : Str → Option Addr → Hp → Prop} (hS : RepS C st ι H) (r : Rps C ι H ds vs) (hP : PostR C ι H (okV C Q) exP (.ok (.lst ds) st)) : ∀ p, H p = none → Q (.ref p) (upd H p (.lst vs)) :=
  fun p n => hP ι _ (Ext.new n) (hS.new n) _ (.lst (hS.notIn n) (.inl upd_same) (r.ext (Ext.new n)))
theorem new_tup {st : Sto} {ι : Io} {H : Hp} {ds : List D} {vs : List V} {Q : VK} {exP : Str → Option Addr → Hp → Prop} (hS : RepS C st ι H) (r : Rps C ι H ds vs) (hP : PostR C ι H (okV C Q) exP (.ok (.tup ds) st)) : ∀ p, H p = none → Q (.ref p) (upd H p (.tup vs)) :=
  fun p n => hP ι _ (Ext.new n) (hS.new n) _ (.tup (hS.notIn n) (.inl upd_same) (r.ext (Ext.new n)))
theorem Rp.sql {ι : Io} {H : Hp} {ds : List D} {v : V} (r : Rp C ι H (.lst ds) v) : ∃ a vs, v = .ref a ∧ SqL C.K H a vs ∧ Rps C ι H ds vs := by
  cases r with
  | lst n h r => exact ⟨_, _, rfl, .inl h, r⟩
  | lstK h r => exact ⟨_, _, rfl, h H, r⟩
theorem Rp.sqt {ι : Io} {H : Hp} {ds : List D} {v : V} (r : Rp C ι H (.tup ds) v) : ∃ a vs, v = .ref a ∧ SqT C.K H a vs ∧ Rps C ι H ds vs := by
  cases r with
  | tup n h r => exact ⟨_, _, rfl, .inl h, r⟩
  | tupK h r => exact ⟨_, _, rfl, h H, r⟩
/-- list + list, whatever holds them -/
def rCatL (K : PySem.W.Frag) : R2 := fun x y H Q => ∃ l b xs zs, x = .ref l ∧ y = .ref b ∧ SqL K H l xs ∧ SqL K H b zs ∧ xs.length + zs.length ≤ sizeLine ∧ ∀ p, H p = none → Q (.ref p) (upd H p (.lst (xs ++ zs)))
theorem op_catL : OpR X (binaryOp .Add) (rCatL X.K) := by
  intro pins s σ H x y v u Q I rx ry h
  obtain ⟨l, b, xs, zs, rfl, rfl, hH, hB, hz, q⟩ := h
  cases rx
  cases ry
  obtain ⟨its, r, hl, _⟩ := I.list hH
  obtain ⟨its2, r2, hb, _⟩ := I.list hB
  have e1 := r.length
  have e2 := r2.length
  obtain ⟨⟨cls, dd, data, sl⟩, ho, hc, n, hd⟩ := id hl.isList
  obtain ⟨⟨cls2, dd2, data2, sl2⟩, ho2, hc2, n2, hd2⟩ := id hb.isList
  simp only at hc hd hc2 hd2
  subst hc hd hc2 hd2
  have e : its.toArray ++ its2.toArray = (its ++ its2).toArray := by simp
  refine concat_meets ⟨_, ho, rfl⟩ ⟨_, ho2, rfl⟩ noFill_list_add seq_list_add PySem.F.slot_list_add PySem.F.entry_list_add (PySem.F.args_list_add_2 _ _) (list_addW l b its.toArray its2.toArray n n2 dd dd2 sl sl2 (by rw [List.size_toArray, List.size_toArray]; omega)) ⟨ho, ho2, ?_⟩
  rw [e]
  exact ⟨.ref _, _, I.lnew (t' := s.toks) (r.append r2) (by rw [List.length_append]; omega), rfl, q _ I.fresh⟩
abbrev rAddA (K : PySem.W.Frag) : R2 := fun x y H Q => rI0 (fun i j => .int (i + j)) x y H Q ∨ (∃ i j, x = .str i ∧ y = .str j ∧ i.length + j.length ≤ sizeLine ∧ Q (.str (i ++ j)) H) ∨ rCatL K x y H Q ∨ rCatT K x y H Q
theorem op_addA : OpR X (binaryOp .Add) (rAddA X.K) := OpR.or op_add (OpR.or op_add_str (OpR.or op_catL op_catT))
theorem ops_add : OpS C oAdd (rAddA C.K) := by
  intro x y st ι H v u Q exP hS rx ry hP
  cases x <;> cases y <;> try exact no_case hP
  · cases rx; cases ry
    exact .inl ⟨_, _, rfl, rfl, post_ok hS hP _ (.int _)⟩
  · cases rx; cases ry
    rename_i x y
    by_cases hf : fits (x.length + y.length) = true
    · have hP : PostR C ι H (okV C Q) exP (if fits (x.length + y.length) = true then .ok (.str (x ++ y)) st else .fail) := hP
      rw [if_pos hf] at hP
      exact .inr (.inl ⟨_, _, rfl, rfl, fits_line hf, post_ok hS hP _ (.str _)⟩)
    · have hP : PostR C ι H (okV C Q) exP (if fits (x.length + y.length) = true then .ok (.str (x ++ y)) st else .fail) := hP
      rw [if_neg hf] at hP
      exact no_case hP
  · rename_i xs ys
    obtain ⟨a, vs, rfl, ha, ra⟩ := rx.sqt
    obtain ⟨b, ws, rfl, hb, rb⟩ := ry.sqt
    have hP : PostR C ι H (okV C Q) exP (if (!xs.isEmpty && fits (xs.length + ys.length)) = true then .ok (.tup (xs ++ ys)) st else .fail) := hP
    by_cases hf : (!xs.isEmpty && fits (xs.length + ys.length)) = true
    · rw [if_pos hf] at hP
      rw [Bool.and_eq_true] at hf
      have l1 := ra.length
      have l2 := rb.length
      have hz := fits_line hf.2
      refine .inr (.inr (.inr ⟨a, b, vs, ws, rfl, rfl, ha, hb, fun z => ?_, by omega, fun z => ?_, fun _ => new_tup hS (ra.append rb) hP⟩))
      · subst z
        cases ra
        simp at hf
      · subst z
        cases rb
        rw [List.append_nil] at hP
        exact post_ok hS hP _ rx
    · rw [if_neg hf] at hP
      exact no_case hP
  · rename_i xs ys
    obtain ⟨a, vs, rfl, ha, ra⟩ := rx.sql
    obtain ⟨b, ws, rfl, hb, rb⟩ := ry.sql
    have hP : PostR C ι H (okV C Q) exP (if fits (xs.length + ys.length) = true then .ok (.lst (xs ++ ys)) st else .fail) := hP
    by_cases hf : fits (xs.length + ys.length) = true
    · rw [if_pos hf] at hP
      have l1 := ra.length
      have l2 := rb.length
      have hz := fits_line hf
      exact .inr (.inr (.inl ⟨a, b, vs, ws, rfl, rfl, ha, hb, by omega, new_lst hS (ra.append rb) hP⟩))
    · rw [if_neg hf] at hP
      exact no_case hP
theorem ops_int0 {f : D → D → Sto → R D} {g : Int → Int → D} {g' : Int → Int → V} (hf : ∀ x y st, f x y st = match x, y with
      | .int i, .int j => .ok (g i j) st
      | _, _ => .fail) (hg : ∀ i j ι H, Rp C ι H (g i j) (g' i j)) : OpS C f (rI0 g') := by
  intro x y st ι H v u Q exP hS rx ry hP
  rw [hf] at hP
  cases x <;> try exact no_case hP
  cases y <;> try exact no_case hP
  cases rx; cases ry
  exact ⟨_, _, rfl, rfl, post_ok hS hP _ (hg _ _ _ _)⟩
theorem ops_sub : OpS C oSub (rI0 fun i j => .int (i - j)) := ops_int0 (g := fun i j => .int (i - j)) (fun x y st => by cases x <;> cases y <;> rfl) fun _ _ _ _ => .int _
theorem ops_lt : OpS C oLt (rI0 fun i j => .bl (decide (i < j))) := ops_int0 (g := fun i j => .bl (decide (i < j))) (fun x y st => by cases x <;> cases y <;> rfl) fun _ _ _ _ => .bl _
theorem ops_le : OpS C oLe (rI0 fun i j => .bl (decide (i ≤ j))) := ops_int0 (g := fun i j => .bl (decide (i ≤ j))) (fun x y st => by cases x <;> cases y <;> rfl) fun _ _ _ _ => .bl _
theorem ops_gt : OpS C oGt (rI0 fun i j => .bl (decide (j < i))) := ops_int0 (g := fun i j => .bl (decide (j < i))) (fun x y st => by cases x <;> cases y <;> rfl) fun _ _ _ _ => .bl _
theorem ops_ge : OpS C oGe (rI0 fun i j => .bl (decide (j ≤ i))) := ops_int0 (g := fun i j => .bl (decide (j ≤ i))) (fun x y st => by cases x <;> cases y <;> rfl) fun _ _ _ _ => .bl _
/-- with a condition -/
theorem ops_intC {f : D → D → Sto → R D} {c : Int → Int → Bool} {P : Int → Int → Prop} {g : Int → Int → Int} (hf : ∀ x y st, f x y st = match x, y with
      | .int i, .int j => if c i j = true then .ok (.int (g i j)) st else .fail
      | _, _ => .fail) (hc : ∀ i j, c i j = true → P i j) : OpS C f (rI P fun i j => .int (g i j)) := by
  intro x y st ι H v u Q exP hS rx ry hP
  rw [hf] at hP
  cases x <;> try exact no_case hP
  cases y <;> try exact no_case hP
  cases rx; cases ry
  rename_i i j
  by_cases h : c i j = true
  · have hP : PostR C ι H (okV C Q) exP (if c i j = true then .ok (.int (g i j)) st else .fail) := hP
    rw [if_pos h] at hP
    exact ⟨_, _, rfl, rfl, hc _ _ h, post_ok hS hP _ (.int _)⟩
  · have hP : PostR C ι H (okV C Q) exP (if c i j = true then .ok (.int (g i j)) st else .fail) := hP
    rw [if_neg h] at hP
    exact no_case hP
def CMulA (i j : Int) : Prop := IntMulOk i j
theorem op_mulA : OpR X (binaryOp .Mult) (rI CMulA fun i j => .int (i * j)) := opI fun _ _ _ _ _ _ _ hc q => mul_int q hc
theorem small_iff {i : Int} (h : small i = true) : -(2 ^ 64) < i ∧ i < 2 ^ 64 := by
  unfold small at h
  rw [Bool.and_eq_true, decide_eq_true_eq, decide_eq_true_eq] at h
  exact h
theorem ops_mul : OpS C oMul (rI CMulA fun i j => .int (i * j)) := ops_intC (c := fun i j => small i || (small j || bitsOk i j)) (g := fun i j => i * j) (fun x y st => by cases x <;> cases y <;> rfl) fun i j h => by
  rw [Bool.or_eq_true, Bool.or_eq_true] at h
  rcases h with h | h | h
  · exact CMul.ok (.inl (small_iff h))
  · exact CMul.ok (.inr (small_iff h))
  · unfold bitsOk at h
    exact CMulW.ok (show i.natAbs.log2 + j.natAbs.log2 < 1000000 from of_decide_eq_true h)
theorem ops_div : OpS C oDiv (rI CDivW fun i j => .int (i / j)) := ops_intC (c := fun i j => decide (0 < j) && decide (j.natAbs.log2 < 9000)) (g := fun i j => i / j) (fun x y st => by cases x <;> cases y <;> rfl) fun i j h => by
  rw [Bool.and_eq_true, decide_eq_true_eq, decide_eq_true_eq] at h
  exact h
theorem ops_mod : OpS C oMod (rI (fun _ j => 0 < j) fun i j => .int (i % j)) := ops_intC (c := fun _ j => decide (0 < j)) (g := fun i j => i % j) (fun x y st => by cases x <;> cases y <;> rfl) fun i j h => of_decide_eq_true h
theorem ops_pow : OpS C oPow (rI CPow fun i j => .int (i ^ j.toNat)) := ops_intC (c := fun i j => decide (-16 ≤ i) && (decide (i ≤ 16) && (decide (0 ≤ j) && decide (j ≤ 64)))) (g := fun i j => i ^ j.toNat) (fun x y st => by cases x <;> cases y <;> rfl) fun i j h => by
  simp only [Bool.and_eq_true, decide_eq_true_eq] at h
  exact ⟨h.2.2.1, by omega, by omega⟩
theorem uns_neg : UnS C oNeg (rU fun i => .int (-i)) := by
  intro x st ι H v Q exP hS rx hP
  cases x <;> try exact no_case hP
  cases rx
  exact ⟨_, rfl, post_ok hS hP _ (.int _)⟩
theorem ops_eq : OpS C oEq (rEqD C.K) := by
  intro x y st ι H v u Q exP hS rx ry hP
  unfold oEq at hP
  split at hP
  · rename_i h
    rw [Bool.and_eq_true] at h
    exact ⟨_, _, rx.dp h.1, ry.dp h.2, lay_shaped (by decide) h.1, lay_shaped (by decide) h.2, post_ok hS hP _ (.bl _)⟩
  · exact no_case hP
theorem ops_ne : OpS C oNe (rNeD C.K) := by
  intro x y st ι H v u Q exP hS rx ry hP
  unfold oNe at hP
  split at hP
  · rename_i h
    rw [Bool.and_eq_true] at h
    exact ⟨_, _, rx.dp h.1, ry.dp h.2, lay_shaped (by decide) h.1, lay_shaped (by decide) h.2, post_ok hS hP _ (.bl _)⟩
  · exact no_case hP
theorem isN_ok {st : Sto} {ι : Io} {H : Hp} {d : D} {v : V} {b : Bool} (hS : RepS C st ι H) (h : isN d st = some b) (r : Rp C ι H d v) : decide (v = .non) = b := by
  have ne : ∀ {w : V}, w ≠ .non → false = b → decide (w = .non) = b := fun n e => by
    rw [← e]
    exact decide_eq_false n
  cases r with
  | non => exact Option.some.inj h
  | bl x => exact ne (fun z => by cases z) (Option.some.inj h)
  | int x => exact ne (fun z => by cases z) (Option.some.inj h)
  | str x => exact ne (fun z => by cases z) (Option.some.inj h)
  | tup _ _ _ => exact ne (fun z => by cases z) (Option.some.inj h)
  | lst _ _ _ => exact ne (fun z => by cases z) (Option.some.inj h)
  | tupK _ _ => exact ne (fun z => by cases z) (Option.some.inj h)
  | lstK _ _ => exact ne (fun z => by cases z) (Option.some.inj h)
  | clo _ _ _ _ _ => exact ne (fun z => by cases z) (Option.some.inj h)
  | obj h1 f =>
    rename_i i x
    cases q : st[i]? with
    | none =>
      simp only [isN, q] at h
      cases h
    | some ob =>
      simp only [isN, q] at h
      cases ob with
      | dead => cases h
      | lst l =>
        obtain ⟨a, vs, e, _, _⟩ := hS.at_ _ _ _ q h1
        rw [f a e]
        exact ne (fun z => by cases z) (by simpa using h)
theorem ops_isN : OpS C oIsN (fun x y H Q => y = .non ∧ Q (.bl (decide (x = .non))) H) := by
  intro x y st ι H v u Q exP hS rx ry hP
  unfold oIsN at hP
  split at hP
  · rename_i b e
    cases ry
    refine ⟨rfl, ?_⟩
    rw [isN_ok hS e rx]
    exact post_ok hS hP _ (.bl _)
  · exact no_case hP
theorem ops_notN : OpS C oNotN (fun x y H Q => y = .non ∧ Q (.bl (!decide (x = .non))) H) := by
  intro x y st ι H v u Q exP hS rx ry hP
  unfold oNotN at hP
  split at hP
  · rename_i b e
    cases ry
    refine ⟨rfl, ?_⟩
    rw [isN_ok hS e rx]
    exact post_ok hS hP _ (.bl _)
  · exact no_case hP
end

/-! ### tests -/
section
variable {C : Ct} {W : WX} {X : Cx} {a b c : Expr} {ma mb mc : ME} {ta tb : MT} {pos : Pos}
theorem rd_tB {σ : L2.St} {H : Hp} {Q : Bool → Hp → Prop} {t : TE} (ht : ∀ Q', rdE C W ma σ H Q' → t σ H Q') (h : rdT C W (tB ma) σ H Q) : t σ H fun x H' => ∃ k, x = .bl k ∧ Q k H' := by
  obtain ⟨ρ, st, ι, hE, hS, hP⟩ := h
  refine ht _ (rd_seq hE hS hP fun x st1 ι1 H1 v1 _ hS1 _ rx hP1 => ?_)
  cases x <;> try exact no_case hP1
  cases rx
  exact ⟨_, rfl, post_ok hS1 hP1⟩
theorem st_cmp {op : CmpOp} {f : D → D → Sto → R D} {r : R2} (hr : OpR X (compareOp op) r) (ho : OpS C f r) (ha : SE C X W a ma) (hb : SE C X W b mb) (hm : behindInMarks op b = false) : ST C X W (.Compare a [op] [b] pos) (tB (mBin f ma mb)) :=
  pt_imp (pt_cmpR hr ha hb hm) fun _ _ _ h => rd_tB (fun _ h => rd_bin ho h) h
theorem st_val (ha : SE C X W a ma) (he : ∀ whole, isTrue a X.env whole = (do let v ← whole; standAt a.pos; holding [v] (truthy v))) : ST C X W a (tB ma) :=
  pt_imp (pt_val ha he) fun σ H Q h => rd_tB (t := rdE C W ma) (fun _ h => h) h
theorem st_not (ha : ST C X W a ta) : ST C X W (.UnaryOp .Not a pos) (tNot ta) := pt_imp (pt_not ha) fun σ H Q ⟨ρ, st, ι, hE, hS, hP⟩ =>
  rd_seqT hE hS hP fun b st1 ι1 H1 _ hS1 _ hP1 => post_ok hS1 hP1
theorem rd_bool {σ : L2.St} {H : Hp} {ι : Io} {ρ : Envr} {st : Sto} {c : Bool} {m : MT} {okP : Bool → Sto → Io → Hp → Prop} {Q : Bool → Hp → Prop} (hE : EnvR C ι H ρ σ) (hS : RepS C st ι H) (h : PostR C ι H (okB Q) (exW C.K W σ) (m ρ st)) : rdT C W m σ H Q := ⟨ρ, st, ι, hE, hS, h⟩
theorem sw_and1 (ha : ST C X W a ta) : SW C X W (.BoolOp .And [a] pos) ta := pw_and1 ha
theorem sw_or1 (ha : ST C X W a ta) : SW C X W (.BoolOp .Or [a] pos) ta := pw_or1 ha
theorem sw_and {rest : List Expr} (ha : ST C X W a ta) (hb : SW C X W (.BoolOp .And (b :: rest) pos) tb) : SW C X W (.BoolOp .And (a :: b :: rest) pos) (tAnd ta tb) :=
  pw_imp (pw_and ha hb) fun σ H Q ⟨ρ, st, ι, hE, hS, hP⟩ => rd_seqT hE hS hP fun k st1 ι1 H1 hE1 hS1 _ hP1 => by
    cases k with
    | true =>
      rw [if_pos rfl] at hP1 ⊢
      exact ⟨ρ, st1, ι1, hE1, hS1, hP1⟩
    | false =>
      rw [if_neg Bool.false_ne_true] at hP1 ⊢
      exact post_ok hS1 hP1
theorem sw_or {rest : List Expr} (ha : ST C X W a ta) (hb : SW C X W (.BoolOp .Or (b :: rest) pos) tb) : SW C X W (.BoolOp .Or (a :: b :: rest) pos) (tOr ta tb) :=
  pw_imp (pw_or ha hb) fun σ H Q ⟨ρ, st, ι, hE, hS, hP⟩ => rd_seqT hE hS hP fun k st1 ι1 H1 hE1 hS1 _ hP1 => by
    cases k with
    | true =>
      rw [if_pos rfl] at hP1 ⊢
      exact post_ok hS1 hP1
    | false =>
      rw [if_neg Bool.false_ne_true] at hP1 ⊢
      exact ⟨ρ, st1, ι1, hE1, hS1, hP1⟩
theorem se_if (hc : ST C X W c ta) (ha : SE C X W a ma) (hb : SE C X W b mb) : SE C X W (.IfExp c a b pos) (mIf ta ma mb) :=
  pe_imp (pe_ifExp hc ha hb) fun σ H Q ⟨ρ, st, ι, hE, hS, hP⟩ => rd_seqT hE hS hP fun k st1 ι1 H1 hE1 hS1 _ hP1 => by
    cases k with
    | true =>
      rw [if_pos rfl] at hP1 ⊢
      exact ⟨ρ, st1, ι1, hE1, hS1, hP1⟩
    | false =>
      rw [if_neg Bool.false_ne_true] at hP1 ⊢
      exact ⟨ρ, st1, ι1, hE1, hS1, hP1⟩
theorem se_and {rest : List Expr} (ha : SE C X W a ma) (hb : SE C X W (.BoolOp .And (b :: rest) pos) mb) : SE C X W (.BoolOp .And (a :: b :: rest) pos) (mAndV ma mb) :=
  pe_imp (pe_and ha hb) fun σ H Q ⟨ρ, st, ι, hE, hS, hP⟩ => rd_seq hE hS hP fun d st1 ι1 H1 v1 hE1 hS1 _ rx hP1 => by
    cases d <;> try exact no_case hP1
    cases rx
    rename_i k
    refine ⟨k, rfl, ?_⟩
    cases k with
    | true =>
      rw [if_pos rfl]
      exact ⟨ρ, st1, ι1, hE1, hS1, hP1⟩
    | false =>
      rw [if_neg Bool.false_ne_true]
      exact post_ok hS1 hP1 _ (.bl _)
theorem se_or {rest : List Expr} (ha : SE C X W a ma) (hb : SE C X W (.BoolOp .Or (b :: rest) pos) mb) : SE C X W (.BoolOp .Or (a :: b :: rest) pos) (mOrV ma mb) :=
  pe_imp (pe_or ha hb) fun σ H Q ⟨ρ, st, ι, hE, hS, hP⟩ => rd_seq hE hS hP fun d st1 ι1 H1 v1 hE1 hS1 _ rx hP1 => by
    cases d <;> try exact no_case hP1
    cases rx
    rename_i k
    refine ⟨k, rfl, ?_⟩
    cases k with
    | true =>
      rw [if_pos rfl]
      exact post_ok hS1 hP1 _ (.bl _)
    | false =>
      rw [if_neg Bool.false_ne_true]
      exact ⟨ρ, st1, ι1, hE1, hS1, hP1⟩
theorem se_one {op : BoolOp} (ha : SE C X W a ma) : SE C X W (.BoolOp op [a] pos) ma := pe_one ha
theorem se_not (ha : SE C X W a ma) : SE C X W (.UnaryOp .Not a pos) (mNotV ma) := pe_imp (pe_not ha) fun σ H Q ⟨ρ, st, ι, hE, hS, hP⟩ =>
  rd_seq hE hS hP fun d st1 ι1 H1 v1 hE1 hS1 _ rx hP1 => by
    cases d <;> try exact no_case hP1
    cases rx
    exact ⟨_, rfl, post_ok hS1 hP1 _ (.bl _)⟩
theorem rd_chain {f g : D → D → Sto → R D} {r r' : R2} (hf : OpS C f r) (hg : OpS C g r') (hr : ∀ (x y : V) (H : Hp) (Q Q' : VK), (∀ v H', Q v H' → Q' v H') → r x y H Q → r x y H Q') {σ : L2.St} {H : Hp} {Q : VK} (h : rdE C W (mChain f g ma mb mc) σ H Q) :
    tChain r r' (rdE C W ma) (rdE C W mb) (rdE C W mc) σ H Q := by
  obtain ⟨ρ, st, ι, hE, hS, hP⟩ := h
  refine rd_seq hE hS hP fun x st1 ι1 H1 v1 hE1 hS1 _ rx hP1 => rd_seq hE1 hS1 hP1 fun y st2 ι2 H2 v2 hE2 hS2 e2 ry hP2 => ?_
  refine hf x y st2 ι2 H2 v1 v2 _ (exW C.K W σ) hS2 (rx.ext e2) ry (hP2.bd.imp (fun d st3 ι3 H3 e3 hS3 hP3 v3 r3 => ?_) fun _ _ _ z => z)
  cases d <;> try exact no_case hP3
  cases r3
  rename_i k
  refine ⟨k, rfl, ?_⟩
  cases k with
  | false =>
    rw [if_neg Bool.false_ne_true]
    exact post_ok hS3 hP3 _ (.bl _)
  | true =>
    rw [if_pos rfl]
    exact rd_seq (hE2.ext e3) hS3 hP3 fun w st4 ι4 H4 v4 hE4 hS4 e4 rw hP4 => hg y w st4 ι4 H4 v2 v4 Q _ hS4 (ry.ext (e3.trans e4)) rw hP4
theorem se_chain {op op' : CmpOp} {f g : D → D → Sto → R D} {r r' : R2} (ho : OpR X (compareOp op) r) (ho' : OpR X (compareOp op') r') (hf : OpS C f r) (hg : OpS C g r') (hr : ∀ (x y : V) (H : Hp) (Q Q' : VK), (∀ v H', Q v H' → Q' v H') → r x y H Q → r x y H Q')
    (ha : SE C X W a ma) (hb : SE C X W b mb) (hc : SE C X W c mc) (hm : lastMarks [op, op'] [b, c] = false) : SE C X W (.Compare a [op, op'] [b, c] pos) (mChain f g ma mb mc) :=
  pe_imp (pe_chain ho ho' ha hb hc hm) fun _ _ _ h => rd_chain hf hg hr h
theorem st_chain {op op' : CmpOp} {f g : D → D → Sto → R D} {r r' : R2} (ho : OpR X (compareOp op) r) (ho' : OpR X (compareOp op') r') (hf : OpS C f r) (hg : OpS C g r') (hr : ∀ (x y : V) (H : Hp) (Q Q' : VK), (∀ v H', Q v H' → Q' v H') → r x y H Q → r x y H Q')
    (ha : SE C X W a ma) (hb : SE C X W b mb) (hc : SE C X W c mc) (hm : lastMarks [op, op'] [b, c] = false) : ST C X W (.Compare a [op, op'] [b, c] pos) (tB (mChain f g ma mb mc)) :=
  pt_imp (pt_chain ho ho' ha hb hc hm) fun _ _ _ h => rd_tB (fun _ h => rd_chain hf hg hr h) h
theorem mono_I0 {g : Int → Int → V} : ∀ (x y : V) (H : Hp) (Q Q' : VK), (∀ v H', Q v H' → Q' v H') → rI0 g x y H Q → rI0 g x y H Q' := fun _ _ _ _ _ k ⟨i, j, e1, e2, q⟩ => ⟨i, j, e1, e2, k _ _ q⟩

/-! ### displays, argument lists -/
theorem sa_nil : SA C X W [] aNil := pa_imp pa_nil fun σ H Q ⟨ρ, st, ι, hE, hS, hP⟩ => post_ok hS hP _ .nil
theorem sa_cons {es : List Expr} {mr : MA} (ha : SE C X W a ma) (hr : SA C X W es mr) (hs : starEach (a :: es) X.env = (false, eval a X.env) :: starEach es X.env := by rfl) : SA C X W (a :: es) (aCons ma mr) :=
  pa_imp (pa_cons ha hr hs) fun σ H Q ⟨ρ, st, ι, hE, hS, hP⟩ => rd_seq hE hS hP fun d st1 ι1 H1 v1 hE1 hS1 _ rx hP1 => rd_seqA hE1 hS1 hP1 fun ds st2 ι2 H2 vs hE2 hS2 e2 rs hP2 => post_ok hS2 hP2 _ (.cons (rx.ext e2) rs)
theorem se_tup {es : List Expr} {x1 : _} {mr : MA} (h : SA C X W es mr) : SE C X W (.Tuple es x1 pos) (mTup mr) := pe_imp (pe_tup h) fun σ H Q ⟨ρ, st, ι, hE, hS, hP⟩ =>
  rd_seqA hE hS hP fun ds st1 ι1 H1 vs hE1 hS1 _ rs hP1 => by
    by_cases hf : fits ds.length = true
    · rw [if_pos hf] at hP1
      have l := rs.length
      have z := fits_line hf
      exact ⟨by omega, new_tup hS1 rs hP1⟩
    · rw [if_neg hf] at hP1
      exact no_case hP1
theorem se_lst {es : List Expr} {mr : MA} (h : SA C X W es mr) : SE C X W (.List es pos) (mLst mr) := pe_imp (pe_lst h) fun σ H Q ⟨ρ, st, ι, hE, hS, hP⟩ =>
  rd_seqA hE hS hP fun ds st1 ι1 H1 vs hE1 hS1 _ rs hP1 => by
    by_cases hf : fits ds.length = true
    · rw [if_pos hf] at hP1
      have l := rs.length
      have z := fits_line hf
      exact ⟨by omega, new_lst hS1 rs hP1⟩
    · rw [if_neg hf] at hP1
      exact no_case hP1
/-- the store grows -/
def Io.grow (ι : Io) (p : Addr) : Io := ⟨ι.v ++ [some p], ι.h⟩
theorem Ext.grow {ι : Io} {H : Hp} {p : Addr} {o : HO} (n : H p = none) : Ext ι H (ι.grow p) (upd H p o) :=
  ⟨⟨fun i x h => .inl (by
    have hi := (List.getElem?_eq_some_iff.mp h).1
    show (ι.v ++ [some p])[i]? = some x
    rw [List.getElem?_append_left hi]
    exact h), fun a u na h _ => ⟨by rw [upd_ne (ne_of_none h n)]; exact h, by
    refine ⟨fun z => ?_, na.h⟩
    rcases List.mem_append.mp z with z | z
    · exact na.v z
    · have z : some a = some p := by simpa using z
      cases z
      rw [n] at h
      cases h⟩⟩, rfl, fun a u _ h _ => by rw [upd_ne (ne_of_none h n)]; exact h⟩
theorem RepS.grow {st : Sto} {ι : Io} {H : Hp} {p : Addr} {ds : List D} {vs : List V} (S : RepS C st ι H) (n : H p = none) (r : Rps C ι H ds vs) : RepS C (st ++ [.lst ds]) (ι.grow p) (upd H p (.lst vs)) := by
  have st' : ∀ b u, H b = some u → upd H p (.lst vs) b = some u := fun b u h => by
    rw [upd_ne (ne_of_none h n)]
    exact h
  have np : ∀ (i : Nat) (a : Addr), ι.v[i]? = some (some a) → a ≠ p := fun i a h z => by
    subst z
    exact (S.notIn n).v (List.mem_of_getElem? h)
  have cut : ∀ {i : Nat} {x : Option Addr}, (ι.grow p).v[i]? = some x → ι.v[i]? = some x ∨ (i = ι.v.length ∧ x = some p) := fun {i x} h => by
    have h : (ι.v ++ [some p])[i]? = some x := h
    by_cases hi : i < ι.v.length
    · rw [List.getElem?_append_left hi] at h
      exact .inl h
    · rw [List.getElem?_append_right (by omega)] at h
      have h2 : i - ι.v.length = 0 := by
        have := (List.getElem?_eq_some_iff.mp h).1
        simp at this
        omega
      rw [h2] at h
      have h : some (some p) = some x := h
      exact .inr ⟨by omega, (Option.some.inj h).symm⟩
  have l := S.len
  refine ⟨by simp [Io.grow, l], fun i j a h1 h2 => ?_, fun i ob x h1 h2 => ?_, S.tabs.ext st', fun i a h => ?_, fun a h => let ⟨u, h1, h2⟩ := S.th a h; ⟨u, st' a u h1, h2⟩, fun a h z => ?_⟩
  · rcases cut h1 with h1 | ⟨h1, e1⟩ <;> rcases cut h2 with h2 | ⟨h2, e2⟩
    · exact S.inj i j a h1 h2
    · exact absurd (Option.some.inj e2) (np i a h1)
    · exact absurd (Option.some.inj e1) (np j a h2)
    · omega
  · rcases cut h2 with h2 | ⟨h2, e2⟩
    · have hi := (List.getElem?_eq_some_iff.mp h2).1
      rw [List.getElem?_append_left (by omega)] at h1
      exact (S.at_ i ob x h1 h2).tr (Ext.grow n).toTr fun a u _ h => st' a u h
    · rw [List.getElem?_append_right (by omega)] at h1
      have h3 : i - st.length = 0 := by omega
      rw [h3] at h1
      have h1 : some (Ob.lst ds) = some ob := h1
      cases h1
      exact ⟨p, vs, e2, upd_same, r.ext (Ext.grow n)⟩
  · rcases cut h with h | ⟨_, e⟩
    · obtain ⟨u, h1, h2⟩ := S.tf i a h
      exact ⟨u, st' a u h1, h2⟩
    · cases e
      exact ⟨_, upd_same, trivial⟩
  · have z : some a ∈ ι.v ++ [some p] := z
    rcases List.mem_append.mp z with z | z
    · exact S.ap a h z
    · have z : some a = some p := by simpa using z
      cases z
      exact (S.notIn n).h h
theorem se_lstM {es : List Expr} {mr : MA} (h : SA C X W es mr) : SE C X W (.List es pos) (mLstM mr) := pe_imp (pe_lst h) fun σ H Q ⟨ρ, st, ι, hE, hS, hP⟩ =>
  rd_seqA hE hS hP fun ds st1 ι1 H1 vs hE1 hS1 _ rs hP1 => by
    by_cases hf : fits ds.length = true
    · rw [if_pos hf] at hP1
      have l := rs.length
      have z := fits_line hf
      refine ⟨by omega, fun p n => hP1 _ _ (Ext.grow n) (hS1.grow n rs) _ (.obj (x := some p) ?_ fun a e => by cases e; rfl)⟩
      have l2 := hS1.len
      show (ι1.v ++ [some p])[st1.length]? = _
      rw [List.getElem?_append_right (by omega), l2, Nat.sub_self]
      rfl
    · rw [if_neg hf] at hP1
      exact no_case hP1
end
end CV
/-! CVd: items, calls, statements, loops, comprehensions, defs. -/
namespace CV
open PySem PySem.Spec PyProof.Rows L2

section
variable {C : Ct}
/-! ### items -/
theorem Rps.atI {K : Ct} {ι : Io} {H : Hp} {ds : List D} {vs : List V} {i : Int} {d : D} (r : Rps K ι H ds vs) (h : L2.atI ds i = some d) : ∃ v, L2.atI vs i = some v ∧ Rp K ι H d v := by
  unfold L2.atI at h ⊢
  rw [← r.length]
  cases q : ixN ds.length i with
  | none =>
    rw [q] at h
    cases h
  | some j =>
    rw [q] at h
    exact r.get h
/-- the list that a datum of the store is -/
theorem obj_at {st : Sto} {ι : Io} {H : Hp} {i : Nat} {l : List D} {v : V} (hS : RepS C st ι H) (h : getO st i = some l) (r : Rp C ι H (.obj i) v) : ∃ a vs, ι.v[i]? = some (some a) ∧ v = .ref a ∧ H a = some (.lst vs) ∧ Rps C ι H l vs := by
  cases r with
  | obj h1 f =>
    rename_i x
    unfold getO at h
    cases q : st[i]? with
    | none =>
      rw [q] at h
      cases h
    | some ob =>
      rw [q] at h
      cases ob with
      | dead => cases h
      | lst l' =>
        cases h
        obtain ⟨a, vs, e, h2, h3⟩ := hS.at_ _ _ _ q h1
        cases e
        exact ⟨a, vs, h1, f a rfl, h2, h3⟩
theorem listD_at {st : Sto} {ι : Io} {H : Hp} {d : D} {l : List D} {v : V} (hS : RepS C st ι H) (h : listD d st = some l) (r : Rp C ι H d v) : ∃ a vs, v = .ref a ∧ (SqL C.K H a vs ∨ SqT C.K H a vs) ∧ Rps C ι H l vs := by
  cases d <;> try cases h
  · obtain ⟨a, vs, e, h1, h2⟩ := r.sqt
    exact ⟨a, vs, e, .inr h1, h2⟩
  · obtain ⟨a, vs, e, h1, h2⟩ := r.sql
    exact ⟨a, vs, e, .inl h1, h2⟩
  · obtain ⟨a, vs, _, e, h1, h2⟩ := obj_at hS h r
    exact ⟨a, vs, e, .inl (.of h1), h2⟩
abbrev rIxA (K : PySem.W.Frag) : R2 := fun x y H Q => rIxL K x y H Q ∨ rIxT K x y H Q
theorem ix_A {X : Cx} : IxR X (rIxA X.K) := ix_list.or ix_tup
theorem ops_ix : OpS C oIx (rIxA C.K) := by
  intro x y st ι H v u Q exP hS rx ry hP
  unfold oIx at hP
  split at hP
  · rename_i l i e
    cases ry
    split at hP
    · rename_i d e2
      obtain ⟨a, vs, rfl, h1, h2⟩ := listD_at hS e rx
      obtain ⟨w, h3, h4⟩ := h2.atI e2
      rcases h1 with h1 | h1
      · exact .inl ⟨a, vs, i, w, rfl, rfl, h1, h3, post_ok hS hP _ h4⟩
      · exact .inr ⟨a, vs, i, w, rfl, rfl, h1, h3, post_ok hS hP _ h4⟩
    · exact no_case hP
  · exact no_case hP
end
section
variable {C : Ct} {W : WX} {X : Cx} {a b c : Expr} {ma mb mc : ME} {pos : Pos}
theorem se_ix (ha : SE C X W a ma) (hb : SE C X W b mb) (hk : X.K = C.K) (hs : PlainIx b) : SE C X W (.Subscript a b pos) (mBin oIx ma mb) :=
  pe_imp (pe_ix ix_A ha hb hs) fun _ _ _ h => by
    rw [hk]
    exact rd_bin ops_ix h
end

/-! ### a def's promise -/
def spU (C : Ct) (n : Nat) (f : FnS) : Sp := fun vs H Q E => ∃ ds st ι, ds.length = n ∧ Rps C ι H ds vs ∧ RepS C st ι H ∧ PostR C ι H (okV C Q) (fun e dd H' => E (.ref (He.ga C.K e)) dd H') (f ds st)
/-- a def of the module, by its name -/
structure FS (C : Ct) (P : Program) (w : World) (mg : Str → Option Value) (base : Heap) (x : Str) (k n : Nat) (f : FnS) : Prop where
  ex : ∃ (a : Addr) (fd : FuncData) (ps : List Str), mg x = some (.ref a) ∧ PySem.W.keepIn C.K (.ref a) = true ∧ Binds C.K fd ps [] ∧ FnOk P w C.K mg base (L2.CX P w) k a fd ps (spU C n f)
  len : ∀ ds st, ds.length ≠ n → f ds st = .fail
section
variable {C : Ct} {W : WX} {X : Cx} {pos p : Pos}
theorem se_call {x : Str} {k n : Nat} {f : FnS} {e : Expr} {es : List Expr} {ma : MA} (F : FS C X.prog X.w X.mg X.base x k n f) (hk : X.K = C.K) (hr : Room k X.A) (tk : Takes X W) (hg : Gl X x) (ha : SA C X W (e :: es) ma) (hdb : (x == ("__debug__" : Str)) = false := by decide)
    (he : starEach (e :: es) X.env = (false, eval e X.env) :: starEach es X.env := by rfl) (hpl : (backTo pos (starEach es X.env)).any (·.1) = false := by rfl) : SE C X W (.Call (.Name x p) (e :: es) [] pos) (mCall f ma) := by
  obtain ⟨⟨a, fd, ps, hm, hkp, hb, F1⟩, hlen⟩ := F
  rw [← hk] at hkp hb F1
  refine pe_imp (pe_callS (E := WE W) F1 hr hg hm hkp hb (fun σ => passAt tk σ) ha hdb he hpl) fun σ H Q ⟨ρ, st, ι, hE, hS, hP⟩ => ?_
  refine rd_seqA hE hS hP fun ds st1 ι1 H1 vs hE1 hS1 _ rs hP1 => ?_
  by_cases hl : ds.length = n
  · exact ⟨ds, st1, ι1, hl, rs, hS1, hP1⟩
  · rw [hlen _ _ hl] at hP1
    exact no_case hP1
theorem pe_callS0 {CX : CXT} {k : Nat} {f : Addr} {fd : FuncData} {ps : List Str} {sp : Sp} {E : L2.St → XK} {x : Str} (F : FnOk X.prog X.w X.K X.mg X.base CX k f fd ps sp) (hr : Room k X.A) (hg : Gl X x) (hm : X.mg x = some (.ref f)) (hk : PySem.W.keepIn X.K (.ref f) = true) (hb : Binds X.K fd ps []) (hx : ∀ σ, PassesAt CX X σ (E σ))
    (hdb : (x == ("__debug__" : Str)) = false := by decide) : PE X (.Call (.Name x p) [] [] pos) (fun σ H Q => sp [] H Q (E σ)) := by
  refine ⟨fun pins s σ H Q I h => ?_⟩
  refine wpAny_Call_Name_kw (ld_glob I hg hm ?_ hdb)
  exact PySem.W.callWith_K0 I.kIn hk (run_fnS (us := []) F hr hb (hx σ) I .nil h)
theorem se_call0 {x : Str} {k n : Nat} {f : FnS} (F : FS C X.prog X.w X.mg X.base x k n f) (hk : X.K = C.K) (hr : Room k X.A) (tk : Takes X W) (hg : Gl X x) (hdb : (x == ("__debug__" : Str)) = false := by decide) : SE C X W (.Call (.Name x p) [] [] pos) (mCall f aNil) := by
  obtain ⟨⟨a, fd, ps, hm, hkp, hb, F1⟩, hlen⟩ := F
  rw [← hk] at hkp hb F1
  refine pe_imp (pe_callS0 (E := WE W) F1 hr hg hm hkp hb (fun σ => passAt tk σ) hdb) fun σ H Q ⟨ρ, st, ι, hE, hS, hP⟩ => ?_
  have hP : PostR C ι H (okV C Q) (exW C.K W σ) (f [] st) := hP
  by_cases hl : ([] : List D).length = n
  · exact ⟨[], st, ι, hl, .nil, hS, hP⟩
  · rw [hlen _ _ hl] at hP
    exact no_case hP
end

/-! ### statements -/
def PostS (C : Ct) (W : WX) (ι : Io) (H : Hp) (Dn : Ends) : RS → Prop
  | .nx ρ st => ∀ ι' H' σ', Ext ι H ι' H' → RepS C st ι' H' → EnvR C ι' H' ρ σ' → Dn.nx σ' H'
  | .bk ρ st => ∀ ι' H' σ', Ext ι H ι' H' → RepS C st ι' H' → EnvR C ι' H' ρ σ' → Dn.bk σ' H'
  | .ct ρ st => ∀ ι' H' σ', Ext ι H ι' H' → RepS C st ι' H' → EnvR C ι' H' ρ σ' → Dn.ct σ' H'
  | .rt d st => ∀ ι' H' v, Ext ι H ι' H' → RepS C st ι' H' → Rp C ι' H' d v → Dn.rt v H'
  | .exn e st => ∀ ι' H' dd σ', Ext ι H ι' H' → RepS C st ι' H' → W (.ref (He.ga C.K e)) dd σ' H'
  | .fail => False
theorem PostS.ext {C : Ct} {W : WX} {ι ι1 : Io} {H H1 : Hp} {Dn : Ends} {r : RS} (e : Ext ι H ι1 H1) (h : PostS C W ι H Dn r) : PostS C W ι1 H1 Dn r := by
  cases r with
  | nx ρ st => exact fun ι' H' σ' e' => h ι' H' σ' (e.trans e')
  | bk ρ st => exact fun ι' H' σ' e' => h ι' H' σ' (e.trans e')
  | ct ρ st => exact fun ι' H' σ' e' => h ι' H' σ' (e.trans e')
  | rt d st => exact fun ι' H' v e' => h ι' H' v (e.trans e')
  | exn x st => exact fun ι' H' dd σ' e' => h ι' H' dd σ' (e.trans e')
  | fail => exact h
/-- the meaning's expression, read ahead of what follows it -/
theorem PostS.bs {C : Ct} {W : WX} {ι : Io} {H : Hp} {Dn : Ends} {α : Type} {r : R α} {f : α → Sto → RS} (σ : L2.St) (h : PostS C W ι H Dn (r.bs f)) : PostR C ι H (fun a st1 ι1 H1 => PostS C W ι1 H1 Dn (f a st1)) (exW C.K W σ) r := by
  cases r with
  | ok a st => exact fun ι' H' e' s => PostS.ext e' h
  | exn x st => exact fun ι' H' dd e' s => h ι' H' dd σ e' s
  | fail => exact h
def rdS (C : Ct) (W : WX) (m : MS) : TS := fun Dn σ H => ∃ ρ st ι, EnvR C ι H ρ σ ∧ RepS C st ι H ∧ PostS C W ι H Dn (m ρ st)
abbrev SS (C : Ct) (X : Cx) (W : WX) (s : Stmt) (m : MS) : Prop := PS X s (rdS C W m)
abbrev SSs (C : Ct) (X : Cx) (W : WX) (s : List Stmt) (m : MS) : Prop := PSs X s (rdS C W m)
theorem ps_imp {X : Cx} {e : Stmt} {t t' : TS} (h : PS X e t) (k : ∀ Dn σ H, t' Dn σ H → t Dn σ H) : PS X e t' := ⟨fun pins s σ H Dn I q => h.run pins s σ H Dn I (k Dn σ H q)⟩
theorem pss_imp {X : Cx} {e : List Stmt} {t t' : TS} (h : PSs X e t) (k : ∀ Dn σ H, t' Dn σ H → t Dn σ H) : PSs X e t' := ⟨fun pins s σ H Dn I q => h.run pins s σ H Dn I (k Dn σ H q)⟩
section
variable {C : Ct} {W : WX} {X : Cx} {pos : Pos} {σ : L2.St} {H : Hp} {ρ : Envr} {st : Sto} {ι : Io} {Dn : Ends}
theorem rs_seq {m : ME} {f : D → Sto → RS} {Q : VK} (hE : EnvR C ι H ρ σ) (hS : RepS C st ι H) (hP : PostS C W ι H Dn ((m ρ st).bs f))
    (k : ∀ d st1 ι1 H1 v1, EnvR C ι1 H1 ρ σ → RepS C st1 ι1 H1 → Ext ι H ι1 H1 → Rp C ι1 H1 d v1 → PostS C W ι1 H1 Dn (f d st1) → Q v1 H1) : rdE C W m σ H Q :=
  ⟨ρ, st, ι, hE, hS, (hP.bs σ).imp (fun d st1 ι1 H1 e s q v r => k d st1 ι1 H1 v (hE.ext e) s e r q) fun _ _ _ z => z⟩
theorem rs_seqT {m : MT} {f : Bool → Sto → RS} {Q : Bool → Hp → Prop} (hE : EnvR C ι H ρ σ) (hS : RepS C st ι H) (hP : PostS C W ι H Dn ((m ρ st).bs f))
    (k : ∀ b st1 ι1 H1, EnvR C ι1 H1 ρ σ → RepS C st1 ι1 H1 → Ext ι H ι1 H1 → PostS C W ι1 H1 Dn (f b st1) → Q b H1) : rdT C W m σ H Q :=
  ⟨ρ, st, ι, hE, hS, (hP.bs σ).imp (fun b st1 ι1 H1 e s q => k b st1 ι1 H1 (hE.ext e) s e q) fun _ _ _ z => z⟩
theorem rs_seqA {m : MA} {f : List D → Sto → RS} {Q : List V → Hp → Prop} (hE : EnvR C ι H ρ σ) (hS : RepS C st ι H) (hP : PostS C W ι H Dn ((m ρ st).bs f))
    (k : ∀ ds st1 ι1 H1 vs, EnvR C ι1 H1 ρ σ → RepS C st1 ι1 H1 → Ext ι H ι1 H1 → Rps C ι1 H1 ds vs → PostS C W ι1 H1 Dn (f ds st1) → Q vs H1) : rdA C W m σ H Q :=
  ⟨ρ, st, ι, hE, hS, (hP.bs σ).imp (fun ds st1 ι1 H1 e s q vs r => k ds st1 ι1 H1 vs (hE.ext e) s e r q) fun _ _ _ z => z⟩
theorem ss_nil : SSs C X W [] sNil := pss_imp pss_nil fun Dn σ H ⟨ρ, st, ι, hE, hS, hP⟩ => hP ι H σ (Ext.refl _ _) hS hE
theorem ss_cons {s : Stmt} {r : List Stmt} {ms mr : MS} (h1 : SS C X W s ms) (h2 : SSs C X W r mr) : SSs C X W (s :: r) (sCons ms mr) :=
  pss_imp (pss_cons h1 h2) fun Dn σ H ⟨ρ, st, ι, hE, hS, hP⟩ => ⟨ρ, st, ι, hE, hS, by
    unfold sCons at hP
    cases q : ms ρ st with
    | nx ρ' st' =>
      rw [q] at hP
      exact fun ι' H' σ' e' s' r' => ⟨ρ', st', ι', r', s', hP.ext e'⟩
    | bk ρ' st' =>
      rw [q] at hP
      exact hP
    | ct ρ' st' =>
      rw [q] at hP
      exact hP
    | rt d st' =>
      rw [q] at hP
      exact hP
    | exn e st' =>
      rw [q] at hP
      exact hP
    | fail =>
      rw [q] at hP
      exact hP⟩
theorem ss_one {s : Stmt} {ms : MS} (h1 : SS C X W s ms) : SSs C X W [s] ms := pss_one h1
theorem ss_pass : SS C X W (.Pass pos) sNil := ps_imp ps_pass fun Dn σ H ⟨ρ, st, ι, hE, hS, hP⟩ => hP ι H σ (Ext.refl _ _) hS hE
theorem ss_break : SS C X W (.Break pos) sBrk := ps_imp ps_break fun Dn σ H ⟨ρ, st, ι, hE, hS, hP⟩ => hP ι H σ (Ext.refl _ _) hS hE
theorem ss_continue : SS C X W (.Continue pos) sCnt := ps_imp ps_continue fun Dn σ H ⟨ρ, st, ι, hE, hS, hP⟩ => hP ι H σ (Ext.refl _ _) hS hE
theorem ss_expr {a : Expr} {ma : ME} (ha : SE C X W a ma) (hs : swapsWith a none pos.line X.env = pure false := by rfl) : SS C X W (.Expr a pos) (sExpr ma) :=
  ps_imp (ps_expr ha hs) fun Dn σ H ⟨ρ, st, ι, hE, hS, hP⟩ => rs_seq hE hS hP fun d st1 ι1 H1 v1 hE1 hS1 _ _ hP1 => hP1 ι1 H1 σ (Ext.refl _ _) hS1 hE1
theorem ss_ret {a : Expr} {ma : ME} (ha : SE C X W a ma) : SS C X W (.Return (some a) pos) (sRet ma) :=
  ps_imp (ps_ret ha) fun Dn σ H ⟨ρ, st, ι, hE, hS, hP⟩ => rs_seq hE hS hP fun d st1 ι1 H1 v1 hE1 hS1 _ rx hP1 => hP1 ι1 H1 v1 (Ext.refl _ _) hS1 rx
theorem ss_retN : SS C X W (.Return none pos) sRetN := ps_imp ps_retN fun Dn σ H ⟨ρ, st, ι, hE, hS, hP⟩ => hP ι H .non (Ext.refl _ _) hS .non
theorem ss_if {c : Expr} {a b : List Stmt} {mc : MT} {ma mb : MS} (hc : ST C X W c mc) (ha : SSs C X W a ma) (hb : SSs C X W b mb) : SS C X W (.If c a b pos) (sIf mc ma mb) :=
  ps_imp (ps_if hc ha hb) fun Dn σ H ⟨ρ, st, ι, hE, hS, hP⟩ => rs_seqT hE hS hP fun k st1 ι1 H1 hE1 hS1 _ hP1 => by
    cases k with
    | true =>
      rw [if_pos rfl] at hP1 ⊢
      exact ⟨ρ, st1, ι1, hE1, hS1, hP1⟩
    | false =>
      rw [if_neg Bool.false_ne_true] at hP1 ⊢
      exact ⟨ρ, st1, ι1, hE1, hS1, hP1⟩

/-! ### targets -/
/-- only these slots may differ -/
structure At (sl : List Nat) (σ σ' : L2.St) : Prop where
  len : σ'.length = σ.length
  out : ∀ i, i ∉ sl → σ'[i]? = σ[i]?
theorem At.refl {sl : List Nat} {σ : L2.St} : At sl σ σ := ⟨rfl, fun _ _ => rfl⟩
theorem At.trans {sl : List Nat} {σ σ1 σ2 : L2.St} (a : At sl σ σ1) (b : At sl σ1 σ2) : At sl σ σ2 := ⟨b.len.trans a.len, fun i h => (b.out i h).trans (a.out i h)⟩
theorem At.mono {sl sl' : List Nat} {σ σ' : L2.St} (a : At sl σ σ') (h : ∀ i ∈ sl, i ∈ sl') : At sl' σ σ' := ⟨a.len, fun i hi => a.out i fun z => hi (h i z)⟩
theorem At.set {i : Nat} {σ : L2.St} {x : Option V} : At [i] σ (σ.set i x) := ⟨by simp, fun j h => by
  rw [List.getElem?_set_ne]
  intro e
  exact h (by simp [e])⟩
theorem wipe_get {σ : L2.St} : ∀ {vs : List Nat} {i : Nat}, (wipe σ vs)[i]? = if i ∈ vs then (if i < σ.length then some none else none) else σ[i]?
  | [], i => by simp [wipe]
  | v :: vs, i => by
    unfold wipe
    by_cases hi : v = i
    · subst hi
      rw [if_pos List.mem_cons_self]
      by_cases hl : v < σ.length
      · rw [if_pos hl, List.getElem?_set_self (by rw [wipe_length]; exact hl)]
      · rw [if_neg hl, List.getElem?_eq_none (by simpa [wipe_length] using hl)]
    · rw [List.getElem?_set_ne hi, wipe_get (vs := vs)]
      by_cases hm : i ∈ vs
      · rw [if_pos hm, if_pos (List.mem_cons_of_mem _ hm)]
      · rw [if_neg hm, if_neg (by simp only [List.mem_cons, not_or]; exact ⟨fun e => hi e.symm, hm⟩)]
theorem At.wipe {vs : List Nat} {σ σ' : L2.St} (a : At vs σ σ') : wipe σ' vs = wipe σ vs := by
  apply List.ext_getElem?
  intro i
  rw [wipe_get, wipe_get, a.len]
  by_cases h : i ∈ vs
  · rw [if_pos h, if_pos h]
  · rw [if_neg h, if_neg h, a.out i h]
theorem wipe_wipe {vs : List Nat} {σ : L2.St} : wipe (wipe σ vs) vs = wipe σ vs := by
  apply List.ext_getElem?
  intro i
  simp only [wipe_get, wipe_length]
  by_cases h : i ∈ vs <;> simp [h]
def okG (C : Ct) (sl : List Nat) (σ : L2.St) (Q : L2.St → Hp → Prop) : Envr → Sto → Io → Hp → Prop := fun ρ' _ ι' H' => ∀ σ', EnvR C ι' H' ρ' σ' → At sl σ σ' → Q σ' H'
def rdG (C : Ct) (W : WX) (sl : List Nat) (g : MG) : TG := fun v σ H Q => ∃ d ρ st ι, EnvR C ι H ρ σ ∧ RepS C st ι H ∧ Rp C ι H d v ∧ PostR C ι H (okG C sl σ Q) (exW C.K W σ) (g d ρ st)
def rdGs (C : Ct) (W : WX) (sl : List Nat) (g : List MG) : TGs := fun vs σ H Q => ∃ ds ρ st ι, EnvR C ι H ρ σ ∧ RepS C st ι H ∧ Rps C ι H ds vs ∧ PostR C ι H (okG C sl σ Q) (exW C.K W σ) (gNames g ds ρ st)
abbrev SG (C : Ct) (X : Cx) (W : WX) (sl : List Nat) (e : Expr) (g : MG) : Prop := PG X e (rdG C W sl g)
abbrev SGs (C : Ct) (X : Cx) (W : WX) (sl : List Nat) (e : List Expr) (g : List MG) : Prop := PGs X e (rdGs C W sl g)
theorem pg_imp {e : Expr} {t t' : TG} (h : PG X e t) (k : ∀ v σ H Q, t' v σ H Q → t v σ H Q) : PG X e t' := ⟨fun pins s σ H v u Q I r q => h.run pins s σ H v u Q I r (k v σ H Q q)⟩
theorem pgs_imp {e : List Expr} {t t' : TGs} (h : PGs X e t) (k : ∀ v σ H Q, t' v σ H Q → t v σ H Q) : PGs X e t' := ⟨fun pins s σ H v u Q I r q => h.run pins s σ H v u Q I r (k v σ H Q q)⟩
theorem sg_name {i : Nat} {e : Expr} (h : PG X e (L2.gName i)) : SG C X W [i] e (gName i) := pg_imp h fun v σ H Q ⟨d, ρ, st, ι, hE, hS, r, hP⟩ =>
  hP ι H (Ext.refl _ _) hS _ (hE.set r i) At.set
theorem sgs_nil : SGs C X W [] [] [] := pgs_imp pgs_nil fun vs σ H Q ⟨ds, ρ, st, ι, hE, hS, r, hP⟩ => by
  cases ds with
  | nil =>
    cases r
    exact ⟨rfl, hP ι H (Ext.refl _ _) hS _ hE At.refl⟩
  | cons d ds => exact no_case hP
/-- a wish that does not look at the slots -/
def Blind (W : WX) : Prop := ∀ cls d σ σ' H, W cls d σ H → W cls d σ' H
theorem sgs_cons {e : Expr} {es : List Expr} {sl sl' : List Nat} {g : MG} {gs : List MG} (hW : Blind W) (h1 : SG C X W sl e g) (h2 : SGs C X W sl' es gs) (hs : (assignEach (e :: es) X.env).map (·.2) = assign e X.env :: (assignEach es X.env).map (·.2) := by rfl) : SGs C X W (sl ++ sl') (e :: es) (g :: gs) :=
  pgs_imp (pgs_cons h1 h2 hs) fun vs σ H Q ⟨ds, ρ, st, ι, hE, hS, r, hP⟩ => by
    cases ds with
    | nil => exact no_case hP
    | cons d ds =>
      cases r with
      | cons r rs =>
        refine ⟨_, _, rfl, d, ρ, st, ι, hE, hS, r, ?_⟩
        have hP : PostR C ι H (okG C (sl ++ sl') σ Q) (exW C.K W σ) ((g d ρ st).bd fun ρ st => gNames gs ds ρ st) := hP
        refine hP.bd.imp (fun ρ1 st1 ι1 H1 e1 s1 q σ1 r1 a1 => ⟨ds, ρ1, st1, ι1, r1, s1, rs.ext e1, ?_⟩) fun _ _ _ z => z
        exact q.imp (fun ρ2 st2 ι2 H2 e2 s2 q2 σ2 r2 a2 => q2 σ2 r2 ((a1.mono fun i h => List.mem_append_left _ h).trans (a2.mono fun i h => List.mem_append_right _ h))) fun _ _ _ z => hW _ _ _ _ _ z
theorem sg_tup {es : List Expr} {k : _} {sl : List Nat} {gs : List MG} (hk : X.K = C.K) (hc : X.calm = true) (h : SGs C X W sl es gs) (hn : (assignEach es X.env).length = gs.length := by rfl) (hst : (assignEach es X.env).findIdx? (·.1) = none := by rfl) : SG C X W sl (.Tuple es k pos) (gTup gs) :=
  pg_imp (pg_tup hc h hn hst) fun v σ H Q ⟨d, ρ, st, ι, hE, hS, r, hP⟩ => by
    cases d <;> try exact no_case hP
    obtain ⟨a, vs, e, h1, h2⟩ := r.sqt
    rename_i ds
    have hP : PostR C ι H (okG C sl σ Q) (exW C.K W σ) (if (ds.length == gs.length) = true then gNames gs ds ρ st else .fail) := hP
    by_cases hl : (ds.length == gs.length) = true
    · rw [if_pos hl] at hP
      exact ⟨a, vs, e, by rw [hk]; exact h1, by rw [← h2.length]; exact eq_of_beq hl, ds, ρ, st, ι, hE, hS, h2, hP⟩
    · rw [if_neg hl] at hP
      exact no_case hP
theorem ss_asg {tg a : Expr} {sl : List Nat} {ma : ME} {g : MG} (ha : SE C X W a ma) (hg : SG C X W sl tg g) (hs : swapsWithSole [tg] a pos.line X.env = pure false := by rfl) (hw : swappedStores [tg] a X.env = pure none := by rfl)
    (h1 : (assignEach [tg] X.env).map (·.2) = [assign tg X.env] := by rfl) : SS C X W (.Assign [tg] a pos) (sAsg ma g) :=
  ps_imp (ps_asg ha hg hs hw h1) fun Dn σ H ⟨ρ, st, ι, hE, hS, hP⟩ => rs_seq hE hS hP fun d st1 ι1 H1 v1 hE1 hS1 _ rx hP1 =>
    ⟨d, ρ, st1, ι1, hE1, hS1, rx, (hP1.bs σ).imp (fun ρ2 st2 ι2 H2 _ s2 q σ2 r2 _ => q ι2 H2 σ2 (Ext.refl _ _) s2 r2) fun _ _ _ z => z⟩
end
end CV
/-! CVe: what is walked, loops, comprehensions, defs. -/
namespace CV
open PySem PySem.Spec PyProof.Rows L2

/-! ### while -/
section
variable {C : Ct} {W : WX} {X : Cx} {pos : Pos}
theorem ss_while {c : Expr} {body : List Stmt} {mc : MT} {mb : MS} (hp : PassesOwn (model X.prog X.w) X.A X.env X.xe) (hc : ST C X W c mc) (hb : SSs C X W body mb) : SS C X W (.While c body [] pos) (sWhile mc mb) :=
  ps_imp (ps_while hp hc hb) fun Dn σ H h => by
    refine ⟨fun n σ H => rdS C W (mWhile n mc mb) Dn σ H, ⟨turns, h⟩, fun n σ H ⟨ρ, st, ι, hE, hS, hP⟩ => ?_⟩
    cases n with
    | zero => exact (show False from hP).elim
    | succ n =>
      refine rs_seqT hE hS hP fun k st1 ι1 H1 hE1 hS1 _ hP1 => ?_
      cases k with
      | false =>
        rw [if_neg Bool.false_ne_true] at hP1 ⊢
        exact hP1 ι1 H1 σ (Ext.refl _ _) hS1 hE1
      | true =>
        rw [if_pos rfl] at hP1 ⊢
        refine ⟨fun σ' H' => rdS C W (mWhile n mc mb) Dn σ' H', fun σ' H' q => ⟨n, Nat.lt_succ_self n, q⟩, ρ, st1, ι1, hE1, hS1, ?_⟩
        cases q : mb ρ st1 with
        | nx ρ' st' =>
          rw [q] at hP1
          exact fun ι' H' σ' e' s' r' => ⟨ρ', st', ι', r', s', hP1.ext e'⟩
        | ct ρ' st' =>
          rw [q] at hP1
          exact fun ι' H' σ' e' s' r' => ⟨ρ', st', ι', r', s', hP1.ext e'⟩
        | bk ρ' st' =>
          rw [q] at hP1
          exact hP1
        | rt d st' =>
          rw [q] at hP1
          exact hP1
        | exn e st' =>
          rw [q] at hP1
          exact hP1
        | fail =>
          rw [q] at hP1
          exact hP1
end

/-! ### what is walked -/
/-- an iterator that gives just these -/
structure Wk (C : Ct) (ι0 : Io) (H0 : Hp) (J : It) (ds : List D) : Prop where
  go : ∀ (i : Nat) (d : D) (ι : Io) (H : Hp), ds[i]? = some d → Tr ι0 H0 ι H → J.go i H ∧ ∀ x H', J.yld i H x H' → Ext ι H ι H' ∧ (∀ st, RepS C st ι H → RepS C st ι H' ∧ Rp C ι H' d x)
  stop : ∀ (ι : Io) (H : Hp), Tr ι0 H0 ι H → J.stop ds.length H
def okI (C : Ct) (R : It → Hp → Prop) : List D → Sto → Io → Hp → Prop := fun ds _ ι H => ∀ J, Wk C ι H J ds → R J H
def rdI (C : Ct) (W : WX) (m : MI) : TI := fun σ H R => ∃ ρ st ι, EnvR C ι H ρ σ ∧ RepS C st ι H ∧ PostR C ι H (okI C R) (exW C.K W σ) (m ρ st)
abbrev SI (C : Ct) (X : Cx) (W : WX) (tg e : Expr) (m : MI) : Prop := PI X tg e (rdI C W m)
theorem pi_imp {X : Cx} {tg e : Expr} {t t' : TI} (h : PI X tg e t) (k : ∀ σ H R, t' σ H R → t σ H R) : PI X tg e t' := ⟨fun pins s σ H R I q => h.run pins s σ H R I (k σ H R q)⟩
section
variable {C : Ct} {W : WX} {X : Cx} {pos : Pos} {tg : Expr}
/-- a list or a tuple, by what comes -/
theorem pi_both {l : Expr} {tl : TE} (hl : PE X l tl) : PI X tg l (fun σ H R => tl σ H fun x H1 => (∃ a, x = .ref a ∧ (∃ xs, SqL X.K H1 a xs) ∧ R (Itl X.K a) H1) ∨ (∃ a, x = .ref a ∧ (∃ xs, SqT X.K H1 a xs) ∧ R (Itt X.K a) H1)) := by
  refine ⟨fun pins s σ H R I h => thn (hl.run pins s σ H _ I h) fun v s1 ⟨x, H1, I1, r1, q1⟩ => ?_⟩
  have fresh : ∀ b ∈ [s1.heap.objs.size], FpOk X pins H1 b := fun b hb => by
    have e := List.mem_singleton.mp hb
    subst e
    exact I1.fpOk (Nat.le_refl _) (I1.hok.fresh (Nat.le_refl _))
  rcases q1 with ⟨a, rfl, ⟨xs, hq⟩, q⟩ | ⟨a, rfl, ⟨xs, hq⟩, q⟩
  · cases r1
    obtain ⟨its, rv, p, _⟩ := I1.list hq
    exact wpAny_pyIter_list p.isList ⟨_, [s1.heap.objs.size], _, _, H1, rfl, I1.kept (t' := s1.toks) (fun b o e => Heap.get?_push_of_some _ e), turn_list a _, ⟨_, Heap.get?_push_size _ rfl, rfl, rfl⟩, fresh, q⟩
  · cases r1
    obtain ⟨its, rv, p, _⟩ := I1.tuple hq
    exact wpAny_pyIter_tuple (show s1.heap.IsTuple a its.toArray from p) ⟨_, [s1.heap.objs.size], _, _, H1, rfl, I1.kept (t' := s1.toks) (fun b o e => Heap.get?_push_of_some _ e), turn_tuple a _, ⟨_, Heap.get?_push_size _ rfl, rfl, rfl⟩, fresh, q⟩
/-- what a pure sequence is, now and later -/
theorem Rp.stays {ι : Io} {H : Hp} {ds : List D} {v : V} (r : Rp C ι H (.lst ds) v) : ∃ a vs, v = .ref a ∧ Rps C ι H ds vs ∧ ∀ ι' H', Tr ι H ι' H' → SqL C.K H' a vs ∧ Rps C ι' H' ds vs := by
  cases r with
  | lst n h r => exact ⟨_, _, rfl, r, fun ι' H' e => ⟨.inl (e.rd (fun _ z => by cases z) n h).1, r.tr e⟩⟩
  | lstK h r => exact ⟨_, _, rfl, r, fun ι' H' e => ⟨h H', r.tr e⟩⟩
theorem Rp.staysT {ι : Io} {H : Hp} {ds : List D} {v : V} (r : Rp C ι H (.tup ds) v) : ∃ a vs, v = .ref a ∧ Rps C ι H ds vs ∧ ∀ ι' H', Tr ι H ι' H' → SqT C.K H' a vs ∧ Rps C ι' H' ds vs := by
  cases r with
  | tup n h r => exact ⟨_, _, rfl, r, fun ι' H' e => ⟨.inl (e.rd (fun _ z => by cases z) n h).1, r.tr e⟩⟩
  | tupK h r => exact ⟨_, _, rfl, r, fun ι' H' e => ⟨h H', r.tr e⟩⟩
theorem wk_list {ι : Io} {H : Hp} {ds : List D} {a : Addr} {vs : List V} (hl : ds.length = vs.length) (k : ∀ ι' H', Tr ι H ι' H' → SqL C.K H' a vs ∧ Rps C ι' H' ds vs) : Wk C ι H (Itl C.K a) ds where
  go := fun i d ι' H' hd e => by
    obtain ⟨h1, h2⟩ := k ι' H' e
    obtain ⟨v, hv, rv⟩ := h2.get hd
    refine ⟨⟨vs, v, h1, hv⟩, fun x H2 ⟨e2, hx⟩ => ?_⟩
    subst e2
    have e3 := hx vs h1
    rw [hv] at e3
    cases e3
    exact ⟨Ext.refl _ _, fun st S => ⟨S, rv⟩⟩
  stop := fun ι' H' e => ⟨vs, (k ι' H' e).1, by rw [hl]; exact Nat.le_refl _⟩
theorem wk_tup {ι : Io} {H : Hp} {ds : List D} {a : Addr} {vs : List V} (hl : ds.length = vs.length) (k : ∀ ι' H', Tr ι H ι' H' → SqT C.K H' a vs ∧ Rps C ι' H' ds vs) : Wk C ι H (Itt C.K a) ds where
  go := fun i d ι' H' hd e => by
    obtain ⟨h1, h2⟩ := k ι' H' e
    obtain ⟨v, hv, rv⟩ := h2.get hd
    refine ⟨⟨vs, v, h1, hv⟩, fun x H2 ⟨e2, hx⟩ => ?_⟩
    subst e2
    have e3 := hx vs h1
    rw [hv] at e3
    cases e3
    exact ⟨Ext.refl _ _, fun st S => ⟨S, rv⟩⟩
  stop := fun ι' H' e => ⟨vs, (k ι' H' e).1, by rw [hl]; exact Nat.le_refl _⟩
theorem si_seq {a : Expr} {ma : ME} (hk : X.K = C.K) (ha : SE C X W a ma) : SI C X W tg a (iSeq ma) := pi_imp (pi_both ha) fun σ H R ⟨ρ, st, ι, hE, hS, hP⟩ =>
  rd_seq hE hS hP fun d st1 ι1 H1 v1 hE1 hS1 _ rx hP1 => by
    cases d <;> try exact no_case hP1
    · obtain ⟨a, vs, e, rs, k⟩ := rx.staysT
      refine .inr ⟨a, e, ⟨vs, by rw [hk]; exact (k _ _ (Tr.refl _ _)).1⟩, ?_⟩
      rw [hk]
      exact post_ok hS1 hP1 _ (wk_tup rs.length k)
    · obtain ⟨a, vs, e, rs, k⟩ := rx.stays
      refine .inl ⟨a, e, ⟨vs, by rw [hk]; exact (k _ _ (Tr.refl _ _)).1⟩, ?_⟩
      rw [hk]
      exact post_ok hS1 hP1 _ (wk_list rs.length k)
theorem rangeD_get {lo : Int} {n i : Nat} {d : D} (h : (rangeD lo n)[i]? = some d) : i < n ∧ d = .int (lo + (i : Int)) := by
  unfold rangeD at h
  rw [List.getElem?_map] at h
  cases q : (List.range n)[i]? with
  | none =>
    rw [q] at h
    cases h
  | some k =>
    rw [q] at h
    obtain ⟨h1, h2⟩ := List.getElem?_eq_some_iff.mp q
    rw [List.getElem_range] at h2
    rw [List.length_range] at h1
    subst h2
    exact ⟨h1, (Option.some.inj h).symm⟩
theorem wk_range {ι : Io} {H : Hp} {lo : Int} {n : Nat} : Wk C ι H (Itr lo n) (rangeD lo n) where
  go := fun i d ι' H' hd e => by
    obtain ⟨h1, h2⟩ := rangeD_get hd
    subst h2
    refine ⟨h1, fun x H2 ⟨e1, e2⟩ => ?_⟩
    subst e1 e2
    exact ⟨Ext.refl _ _, fun st S => ⟨S, .int _⟩⟩
  stop := fun ι' H' e => by
    show n ≤ (rangeD lo n).length
    simp [rangeD]
theorem inLine_iff {i : Int} (h : inLine i = true) : -1000000 ≤ i ∧ i ≤ 1000000 := by
  unfold inLine at h
  rw [Bool.and_eq_true, decide_eq_true_eq, decide_eq_true_eq] at h
  exact h
theorem si_range1 {a : Expr} {p : Pos} {ma : MA} (hg : Gl X "range") (hm : X.mg "range" = none) (ha : SA C X W [a] ma) (hs : starEach [a] X.env = [(false, eval a X.env)] := by rfl) : SI C X W tg (.Call (.Name "range" p) [a] [] pos) (iRange1 ma) :=
  pi_imp (pi_range1 hg hm ha hs) fun σ H R ⟨ρ, st, ι, hE, hS, hP⟩ => rd_seqA hE hS hP fun ds st1 ι1 H1 vs hE1 hS1 _ rs hP1 => by
    rcases ds with _ | ⟨d, _ | ⟨d2, r⟩⟩
    · exact no_case hP1
    · cases d <;> try exact no_case hP1
      rename_i n
      cases rs with
      | cons r1 r2 =>
        cases r2
        cases r1
        have hP1 : PostR C ι1 H1 (okI C R) (exW C.K W σ) (if inLine n = true then .ok (rangeD 0 n.toNat) st1 else .fail) := hP1
        by_cases hn : inLine n = true
        · rw [if_pos hn] at hP1
          have := inLine_iff hn
          exact ⟨n, rfl, by omega, by omega, post_ok hS1 hP1 _ wk_range⟩
        · rw [if_neg hn] at hP1
          exact no_case hP1
    · exact no_case (by cases d <;> exact hP1)
theorem si_range2 {a b : Expr} {p : Pos} {ma : MA} (hg : Gl X "range") (hm : X.mg "range" = none) (ha : SA C X W [a, b] ma) (hs : starEach [a, b] X.env = [(false, eval a X.env), (false, eval b X.env)] := by rfl) (hs2 : starEach [b] X.env = [(false, eval b X.env)] := by rfl) :
    SI C X W tg (.Call (.Name "range" p) [a, b] [] pos) (iRange2 ma) :=
  pi_imp (pi_range2 hg hm ha hs hs2) fun σ H R ⟨ρ, st, ι, hE, hS, hP⟩ => rd_seqA hE hS hP fun ds st1 ι1 H1 vs hE1 hS1 _ rs hP1 => by
    rcases ds with _ | ⟨d, _ | ⟨d2, _ | ⟨d3, r⟩⟩⟩
    · exact no_case hP1
    · exact no_case (by cases d <;> exact hP1)
    · cases d <;> try exact no_case hP1
      cases d2 <;> try exact no_case hP1
      rename_i m n
      cases rs with
      | cons r1 r2 =>
        cases r2 with
        | cons r2 r3 =>
          cases r3
          cases r1
          cases r2
          have hP1 : PostR C ι1 H1 (okI C R) (exW C.K W σ) (if (inLine m && inLine n) = true then .ok (rangeD m (n - m).toNat) st1 else .fail) := hP1
          by_cases hn : (inLine m && inLine n) = true
          · rw [if_pos hn] at hP1
            rw [Bool.and_eq_true] at hn
            have h1 := inLine_iff hn.1
            have h2 := inLine_iff hn.2
            exact ⟨m, n, rfl, ⟨by omega, by omega, by omega, by omega⟩, post_ok hS1 hP1 _ wk_range⟩
          · rw [if_neg hn] at hP1
            exact no_case hP1
    · exact no_case (by cases d <;> try exact hP1
                        cases d2 <;> exact hP1)

/-! ### for -/
/-- the rest of a walk -/
def Rest (C : Ct) (ι : Io) (H : Hp) (J : It) (i : Nat) (ds : List D) : Prop := (∀ (j : Nat) (d : D) (ι' : Io) (H' : Hp), ds[j]? = some d → Tr ι H ι' H' → J.go (i + j) H' ∧ ∀ x H2, J.yld (i + j) H' x H2 → Ext ι' H' ι' H2 ∧ (∀ st, RepS C st ι' H' → RepS C st ι' H2 ∧ Rp C ι' H2 d x)) ∧
  ∀ (ι' : Io) (H' : Hp), Tr ι H ι' H' → J.stop (i + ds.length) H'
theorem Wk.rest {ι : Io} {H : Hp} {J : It} {ds : List D} (w : Wk C ι H J ds) : Rest C ι H J 0 ds := ⟨fun j d ι' H' h e => by rw [Nat.zero_add]; exact w.go j d ι' H' h e, fun ι' H' e => by rw [Nat.zero_add]; exact w.stop ι' H' e⟩
theorem Rest.tr {ι ι1 : Io} {H H1 : Hp} {J : It} {i : Nat} {ds : List D} (r : Rest C ι H J i ds) (e : Tr ι H ι1 H1) : Rest C ι1 H1 J i ds := ⟨fun j d ι' H' h e' => r.1 j d ι' H' h (e.trans e'), fun ι' H' e' => r.2 ι' H' (e.trans e')⟩
theorem Rest.ext {ι ι1 : Io} {H H1 : Hp} {J : It} {i : Nat} {ds : List D} (r : Rest C ι H J i ds) (e : Ext ι H ι1 H1) : Rest C ι1 H1 J i ds := r.tr e.toTr
theorem Rest.tail {ι : Io} {H : Hp} {J : It} {i : Nat} {d : D} {ds : List D} (r : Rest C ι H J i (d :: ds)) : Rest C ι H J (i + 1) ds := ⟨fun j d' ι' H' h e' => by
  have q := r.1 (j + 1) d' ι' H' (by simpa using h) e'
  have e : i + (j + 1) = i + 1 + j := by omega
  rw [e] at q
  exact q, fun ι' H' e' => by
  have q := r.2 ι' H' e'
  have e : i + (d :: ds).length = i + 1 + ds.length := by simp; omega
  rw [e] at q
  exact q⟩
theorem ss_for {iter : Expr} {body : List Stmt} {mi : MI} {sl : List Nat} {g : MG} {mb : MS} (hp : PassesOwn (model X.prog X.w) X.A X.env X.xe) (hc : X.calm = true) (hi : SI C X W tg iter mi) (hg : SG C X W sl tg g) (hb : SSs C X W body mb)
    (hs : ∀ x, foldedSetIterable iter X.env x = pure x := by intro _; rfl) : SS C X W (.For tg iter body [] pos) (sFor mi g mb) :=
  ps_imp (ps_for hp hc hi hg hb hs) fun Dn σ H ⟨ρ, st, ι, hE, hS, hP⟩ => by
    refine ⟨ρ, st, ι, hE, hS, (hP.bs σ).imp (fun ds st1 ι1 H1 e1 hS1 hP1 J wk => ?_) fun _ _ _ z => z⟩
    refine ⟨fun i n σ H => ∃ ρ st ι ds, EnvR C ι H ρ σ ∧ RepS C st ι H ∧ n = ds.length ∧ Rest C ι H J i ds ∧ PostS C W ι H Dn (sForL g mb ds ρ st), ⟨ds.length, ρ, st1, ι1, ds, hE.ext e1, hS1, rfl, wk.rest, hP1⟩, ?_⟩
    rintro i n σ H ⟨ρ, st, ι, ds, hE, hS, rfl, rs, hP⟩
    cases ds with
    | nil =>
      refine .inl ⟨?_, hP ι H σ (Ext.refl _ _) hS hE⟩
      have q := rs.2 ι H (Tr.refl _ _)
      rw [List.length_nil, Nat.add_zero] at q
      exact q
    | cons d ds =>
      obtain ⟨go, yl⟩ := rs.1 0 d ι H rfl (Tr.refl _ _)
      rw [Nat.add_zero] at go yl
      refine .inr ⟨go, fun σ' H' => ∃ ρ st ι, EnvR C ι H' ρ σ' ∧ RepS C st ι H' ∧ Rest C ι H' J (i + 1) ds ∧ PostS C W ι H' Dn (sForL g mb ds ρ st), fun σ' H' ⟨ρ, st, ι, a, b, c, d⟩ => ⟨ds.length, Nat.lt_succ_self _, ρ, st, ι, ds, a, b, rfl, c, d⟩, fun x H2 y => ?_⟩
      obtain ⟨e2, k2⟩ := yl x H2 y
      obtain ⟨hS2, rx⟩ := k2 st hS
      have hP2 : PostS C W ι H2 Dn (sForL g mb (d :: ds) ρ st) := hP.ext e2
      refine ⟨d, ρ, st, ι, hE.ext e2, hS2, rx, (PostS.bs (f := fun ρ st => match mb ρ st with
        | .nx ρ st => sForL g mb ds ρ st
        | .ct ρ st => sForL g mb ds ρ st
        | .bk ρ st => .nx ρ st
        | .rt d st => .rt d st
        | .exn e st => .exn e st
        | .fail => .fail) σ hP2).imp (fun ρ3 st3 ι3 H3 e3 hS3 hP3 σ3 hE3 _ => ⟨ρ3, st3, ι3, hE3, hS3, ?_⟩) fun _ _ _ z => z⟩
      have rt : Rest C ι3 H3 J (i + 1) ds := rs.tail.ext (e2.trans e3)
      cases q : mb ρ3 st3 with
      | nx ρ' st' =>
        simp only [q] at hP3
        exact fun ι' H' σ' e' s' r' => ⟨ρ', st', ι', r', s', rt.ext e', hP3.ext e'⟩
      | ct ρ' st' =>
        simp only [q] at hP3
        exact fun ι' H' σ' e' s' r' => ⟨ρ', st', ι', r', s', rt.ext e', hP3.ext e'⟩
      | bk ρ' st' =>
        simp only [q] at hP3
        exact hP3
      | rt d st' =>
        simp only [q] at hP3
        exact hP3
      | exn e st' =>
        simp only [q] at hP3
        exact hP3
      | fail =>
        simp only [q] at hP3
        exact hP3
end
end CV
/-! CVf: list comprehensions. -/
namespace CV
open PySem PySem.Spec PyProof.Rows L2

/-- an object that is hidden for a while: a list under way -/
def hideA (ι : Io) (p : Addr) : Io := ⟨ι.v, p :: ι.h⟩
section
variable {C : Ct} {ι : Io} {H : Hp} {p : Addr} {st : Sto}
theorem NI.ofHide {a : Addr} (n : NI a (hideA ι p)) : NI a ι := ⟨n.v, fun z => n.h (List.mem_cons_of_mem _ z)⟩
theorem NI.hide {a : Addr} (n : NI a ι) (h : a ≠ p) : NI a (hideA ι p) := ⟨n.v, fun z => (List.mem_cons.mp z).elim h n.h⟩
theorem NI.ne {a : Addr} (n : NI a (hideA ι p)) : a ≠ p := fun z => n.h (by rw [z]; exact List.mem_cons_self)
theorem Tr.hide {o : HO} (n : H p = none) : Tr ι H (hideA ι p) (upd H p o) := ⟨fun _ _ h => .inl h, fun a u na h _ => ⟨by rw [upd_ne (ne_of_none h n)]; exact h, na.hide (ne_of_none h n)⟩⟩
theorem Tr.unhide : Tr (hideA ι p) H ι H := ⟨fun _ _ h => .inl h, fun a u na h _ => ⟨h, na.ofHide⟩⟩
theorem Tr.push {o : HO} : Tr (hideA ι p) H (hideA ι p) (upd H p o) := ⟨fun _ _ h => .inl h, fun a u na h _ => ⟨by rw [upd_ne na.ne]; exact h, na⟩⟩
theorem RepS.hide {vs : List V} (S : RepS C st ι H) (n : H p = none) : RepS C st (hideA ι p) (upd H p (.lst vs)) := by
  have st' : ∀ b u, H b = some u → upd H p (.lst vs) b = some u := fun b u h => by
    rw [upd_ne (ne_of_none h n)]
    exact h
  refine ⟨S.len, S.inj, fun i ob x h1 h2 => (S.at_ i ob x h1 h2).tr (Tr.hide n) fun a u _ h => st' a u h, S.tabs.ext st', fun i a h => let ⟨u, h1, h2⟩ := S.tf i a h; ⟨u, st' a u h1, h2⟩, fun a h => ?_, fun a h => ?_⟩
  · rcases List.mem_cons.mp h with z | z
    · rw [z]
      exact ⟨_, upd_same, trivial⟩
    · obtain ⟨u, h1, h2⟩ := S.th a z
      exact ⟨u, st' a u h1, h2⟩
  · rcases List.mem_cons.mp h with z | z
    · rw [z]
      exact (S.notIn n).v
    · exact S.ap a z
theorem RepS.unhide (S : RepS C st (hideA ι p) H) : RepS C st ι H :=
  ⟨S.len, S.inj, fun i ob x h1 h2 => (S.at_ i ob x h1 h2).tr Tr.unhide fun _ _ _ h => h, S.tabs, S.tf, fun a h => S.th a (List.mem_cons_of_mem _ h), fun a h => S.ap a (List.mem_cons_of_mem _ h)⟩
/-- tables and code objects are no lists -/
theorem tabs_put {vs : List V} {o : HO} (t : Tbs C H) (hp : H p = some (.lst vs)) : Tbs C (upd H p o) := fun q hq =>
  (t q hq).ext (fun ps h => by rw [upd_ne (ne_of h hp (fun z => by cases z))]; exact h) fun b q h => by rw [upd_ne (ne_of h hp (fun z => by unfold LamX.CodeO at z; cases z))]; exact h
theorem RepS.push {vs ws : List V} (S : RepS C st (hideA ι p) H) (hp : H p = some (.lst vs)) : RepS C st (hideA ι p) (upd H p (.lst ws)) := by
  have np : ∀ (i : Nat) (a : Addr), ι.v[i]? = some (some a) → a ≠ p := fun i a h z => by
    subst z
    exact S.ap a List.mem_cons_self (List.mem_of_getElem? h)
  refine ⟨S.len, S.inj, fun i ob x h1 h2 => (S.at_ i ob x h1 h2).tr Tr.push fun a u ex h => ?_, tabs_put S.tabs hp, fun i a h => ?_, fun a h => ?_, S.ap⟩
  · rw [upd_ne (np i a (by rw [← ex]; exact h2))]
    exact h
  · obtain ⟨u, h1, h2⟩ := S.tf i a h
    exact ⟨u, by rw [upd_ne (np i a h)]; exact h1, h2⟩
  · obtain ⟨u, h1, h2⟩ := S.th a h
    by_cases e : a = p
    · rw [e]
      exact ⟨_, upd_same, trivial⟩
    · exact ⟨u, by rw [upd_ne e]; exact h1, h2⟩
/-- a step of the hidden state, seen from outside -/
theorem Ext.over {ι0 ι2 : Io} {H0 H2 : Hp} (e0 : Ext ι0 H0 ι H) (n : H0 p = none) (e : Ext (hideA ι p) H ι2 H2) : ι2 = hideA ⟨ι2.v, ι.h⟩ p ∧ Ext ι0 H0 ⟨ι2.v, ι.h⟩ H2 := by
  have hd : ι2.h = p :: ι.h := e.hd
  refine ⟨by unfold hideA; rw [← hd], ⟨⟨fun i x h => ?_, fun a o na h t => ?_⟩, e0.hd, fun a o m h t => ?_⟩⟩
  · rcases e0.io i x h with h1 | h1
    · exact e.io i x h1
    · rcases e.io i none h1 with h2 | h2 <;> exact .inr h2
  · obtain ⟨h1, n1⟩ := e0.keep a o na h t
    obtain ⟨h2, n2⟩ := e.keep a o (n1.hide (ne_of_none h n)) h1 t
    exact ⟨h2, ⟨n2.v, fun z => n2.h (by rw [hd]; exact List.mem_cons_of_mem _ z)⟩⟩
  · exact e.hid a o (List.mem_cons_of_mem _ (by rw [e0.hd]; exact m)) (e0.hid a o m h t) t
theorem Ext.pushed {ι0 : Io} {H0 : Hp} {o : HO} (e0 : Ext ι0 H0 ι H) (n : H0 p = none) : Ext ι0 H0 ι (upd H p o) :=
  ⟨⟨e0.io, fun a u na h t => by
    obtain ⟨h1, n1⟩ := e0.keep a u na h t
    exact ⟨by rw [upd_ne (ne_of_none h n)]; exact h1, n1⟩⟩, e0.hd, fun a u m h t => by
    rw [upd_ne (ne_of_none h n)]
    exact e0.hid a u m h t⟩
theorem Ext.inner {ι0 : Io} {H0 : Hp} (e0 : Ext ι0 H0 ι H) (n : H0 p = none) : Tr ι0 H0 (hideA ι p) H := ⟨e0.io, fun a o na h t => by
  obtain ⟨h1, n1⟩ := e0.keep a o na h t
  exact ⟨h1, n1.hide (ne_of_none h n)⟩⟩
end

/-- nothing is let out -/
abbrev W0 : WX := fun _ _ _ _ => False
/-- the items that a comprehension gives, all told -/
def okLc (P : List D → Sto → Prop) : R (List D) → Prop
  | .ok r st => P r st
  | _ => False
section
variable {C : Ct} {W : WX} {X : Cx} {pos : Pos} {tg : Expr}
theorem lc_step {g : MG} {t : MT} {e : ME} {ρ : Envr} {d : D} {ds : List D} {st : Sto} {P : List D → Sto → Prop} (h : okLc P (lcL g t e ρ (d :: ds) st)) :
    ∃ ρ' st1, g d ρ st = .ok ρ' st1 ∧ ((∃ st2, t ρ' st1 = .ok false st2 ∧ okLc P (lcL g t e ρ ds st2)) ∨ (∃ st2 x st3, t ρ' st1 = .ok true st2 ∧ e ρ' st2 = .ok x st3 ∧ okLc (fun r st => P (x :: r) st) (lcL g t e ρ ds st3))) := by
  unfold lcL at h
  cases h1 : g d ρ st with
  | exn a b => simp only [h1] at h; exact h.elim
  | fail => simp only [h1] at h; exact h.elim
  | ok ρ' st1 =>
    refine ⟨ρ', st1, rfl, ?_⟩
    cases h2 : t ρ' st1 with
    | exn a b => simp only [h1, h2] at h; exact h.elim
    | fail => simp only [h1, h2] at h; exact h.elim
    | ok b st2 =>
      cases b with
      | false =>
        simp only [h1, h2] at h
        exact .inl ⟨st2, rfl, h⟩
      | true =>
        cases h3 : e ρ' st2 with
        | exn a b => simp only [h1, h2, h3] at h; exact h.elim
        | fail => simp only [h1, h2, h3] at h; exact h.elim
        | ok x st3 =>
          refine .inr ⟨st2, x, st3, rfl, h3, ?_⟩
          cases h4 : lcL g t e ρ ds st3 with
          | exn a b => simp only [h1, h2, h3, h4] at h; exact h.elim
          | fail => simp only [h1, h2, h3, h4] at h; exact h.elim
          | ok r st4 =>
            simp only [h1, h2, h3, h4] at h
            exact h
/-- a list comprehension, its list wanted as the walk leaves it -/
theorem rd_lcG {mi : MI} {vs sl : List Nat} {g : MG} {t : MT} {e : ME} {σ : L2.St} {H : Hp} {Q : VK} {ρ : Envr} {st : Sto} {ι : Io} {okP : D → Sto → Io → Hp → Prop} {F : List D → Sto → R D} (hsl : ∀ i ∈ sl, i ∈ vs) (hE : EnvR C ι H ρ σ) (hS : RepS C st ι H)
    (hP : PostR C ι H okP (exW C.K W σ) ((mi ρ st).bd fun ds st => if fits ds.length then (match lcL g t e (wipeE ρ vs) ds st with
      | .ok r st => F r st
      | _ => .fail) else .fail))
    (hF : ∀ (r : List D) (st' : Sto) (ι1 ι' : Io) (H1 H' : Hp) (p : Addr) (ws : List V), H1 p = none → NI p ι1 → Ext ι1 H1 ι' H' → RepS C st' (hideA ι' p) H' → H' p = some (.lst ws) → Rps C (hideA ι' p) H' r ws → PostR C ι1 H1 okP (exW C.K W σ) (F r st') → Q (.ref p) H') :
    tLc (rdI C W mi) (rdG C W0 sl g) (rdT C W0 t) (rdE C W0 e) vs σ H Q := by
  refine ⟨ρ, st, ι, hE, hS, hP.bd.imp (fun ds st1 ι1 H1 e1 hS1 hP1 J wk p hp => ?_) fun _ _ _ z => z⟩
  have hf : fits ds.length = true := by
    by_cases z : fits ds.length = true
    · exact z
    · rw [if_neg z] at hP1
      exact no_case hP1
  rw [if_pos hf] at hP1
  have npI : NI p ι1 := hS1.notIn hp
  have hfin : okLc (fun r st' => ∀ ι' H' ws, Ext ι1 H1 ι' H' → RepS C st' (hideA ι' p) H' → H' p = some (.lst ws) → Rps C (hideA ι' p) H' r ws → Q (.ref p) H') (lcL g t e (wipeE ρ vs) ds st1) := by
    cases q : lcL g t e (wipeE ρ vs) ds st1 with
    | ok r st' =>
      simp only [q] at hP1
      exact fun ι' H' ws e' s hp' r' => hF r st' ι1 ι' H1 H' p ws hp npI e' s hp' r' hP1
    | exn a b =>
      simp only [q] at hP1
      exact no_case hP1
    | fail =>
      simp only [q] at hP1
      exact no_case hP1
  have hE1 := (hE.ext e1).wipe vs
  -- the state ahead of a turn
  let Lp : Nat → List D → Hp → Prop := fun i ds' H => ∃ st ι acc vacc, Ext ι1 H1 ι H ∧ RepS C st (hideA ι p) H ∧ H p = some (.lst vacc) ∧ Rps C (hideA ι p) H acc vacc ∧ acc.length + ds'.length ≤ ds.length ∧ Rest C ι1 H1 J i ds' ∧
    okLc (fun r st' => ∀ ι' H' ws, Ext ι1 H1 ι' H' → RepS C st' (hideA ι' p) H' → H' p = some (.lst ws) → Rps C (hideA ι' p) H' (acc ++ r) ws → Q (.ref p) H') (lcL g t e (wipeE ρ vs) ds' st)
  refine ⟨fun i m H => ∃ ds', m = ds'.length ∧ Lp i ds' H, ⟨ds.length, ds, rfl, st1, ι1, [], [], Ext.new hp, hS1.hide hp, upd_same, .nil, by simp, wk.rest, hfin⟩, ?_⟩
  rintro i m H2 ⟨ds', rfl, st2, ι2, acc, vacc, e2, hS2, hp2, hacc, hlen, rest, fin⟩
  cases ds' with
  | nil =>
    refine .inl ⟨?_, ?_⟩
    · have q := rest.2 ι2 H2 e2.toTr
      rw [List.length_nil, Nat.add_zero] at q
      exact q
    · have fin : ∀ ι' H' ws, Ext ι1 H1 ι' H' → RepS C st2 (hideA ι' p) H' → H' p = some (.lst ws) → Rps C (hideA ι' p) H' (acc ++ []) ws → Q (.ref p) H' := fin
      refine fin ι2 H2 _ e2 hS2 hp2 ?_
      rw [List.append_nil]
      exact hacc
  | cons d ds' =>
    obtain ⟨go, yl⟩ := rest.1 0 d (hideA ι2 p) H2 rfl (e2.inner hp)
    rw [Nat.add_zero] at go yl
    obtain ⟨ρ', st3, hg, fin⟩ := lc_step fin
    refine .inr ⟨go, fun H => Lp (i + 1) ds' H, fun H' q => ⟨ds'.length, Nat.lt_succ_self _, ds', rfl, q⟩, fun x H3 y => ?_⟩
    obtain ⟨e3, k3⟩ := yl x H3 y
    obtain ⟨hS3, rx⟩ := k3 st2 hS2
    have t3 : Tr ι1 H1 (hideA ι2 p) H3 := (e2.inner hp).trans e3.toTr
    have hp3 : H3 p = some (.lst vacc) := e3.hid p _ List.mem_cons_self hp2 (fun _ z => by cases z)
    refine ⟨d, wipeE ρ vs, st2, hideA ι2 p, hE1.tr t3, hS3, rx, ?_⟩
    rw [hg]
    intro ι4 H4 e4 hS4 σ4 hE4 at4
    refine ⟨by rw [(at4.mono hsl).wipe, wipe_wipe], ρ', st3, ι4, hE4, hS4, ?_⟩
    have e24 : Ext (hideA ι2 p) H2 ι4 H4 := e3.trans e4
    rcases fin with ⟨st5, ht, fin⟩ | ⟨st5, x5, st6, ht, he, fin⟩
    · rw [ht]
      intro ι5 H5 e5 hS5
      obtain ⟨q5, o5⟩ := e2.over hp (e24.trans e5)
      rw [q5] at hS5
      show Lp (i + 1) ds' H5
      have hp5 : H5 p = some (.lst vacc) := (e24.trans e5).hid p _ List.mem_cons_self hp2 (fun _ z => by cases z)
      refine ⟨st5, _, acc, vacc, o5, hS5, hp5, ?_, ?_, rest.tail, fin⟩
      · have r := hacc.tr (e24.trans e5).toTr
        rw [q5] at r
        exact r
      · have hl : acc.length + (ds'.length + 1) ≤ ds.length := hlen
        omega
    · rw [ht]
      intro ι5 H5 e5 hS5
      refine ⟨ρ', st5, ι5, hE4.ext e5, hS5, ?_⟩
      rw [he]
      intro ι6 H6 e6 hS6 v6 r6
      obtain ⟨q6, o6⟩ := e2.over hp (e24.trans (e5.trans e6))
      have hp6 : H6 p = some (.lst vacc) := (e24.trans (e5.trans e6)).hid p _ List.mem_cons_self hp2 (fun _ z => by cases z)
      have hacc6 := hacc.tr (e24.trans (e5.trans e6)).toTr
      rw [q6] at hS6 r6 hacc6
      have hl : acc.length + (ds'.length + 1) ≤ ds.length := hlen
      have hll := hacc.length
      have hsz := fits_lt hf
      refine ⟨vacc, hp6, by omega, st6, _, acc ++ [x5], vacc ++ [v6], o6.pushed hp, hS6.push hp6, upd_same, (hacc6.append (.cons r6 .nil)).tr Tr.push, by simp; omega, rest.tail, ?_⟩
      cases q : lcL g t e (wipeE ρ vs) ds' st6 with
      | ok r st' =>
        rw [q] at fin
        have fin : ∀ ι' H' ws, Ext ι1 H1 ι' H' → RepS C st' (hideA ι' p) H' → H' p = some (.lst ws) → Rps C (hideA ι' p) H' (acc ++ x5 :: r) ws → Q (.ref p) H' := fin
        intro ι' H' ws e' s' hp' r'
        refine fin ι' H' ws e' s' hp' ?_
        rw [List.append_assoc] at r'
        exact r'
      | exn a b =>
        rw [q] at fin
        exact fin.elim
      | fail =>
        rw [q] at fin
        exact fin.elim
theorem rd_lc {mi : MI} {vs sl : List Nat} {g : MG} {t : MT} {e : ME} {σ : L2.St} {H : Hp} {Q : VK} (hsl : ∀ i ∈ sl, i ∈ vs) (h : rdE C W (mLc mi vs g t e) σ H Q) :
    tLc (rdI C W mi) (rdG C W0 sl g) (rdT C W0 t) (rdE C W0 e) vs σ H Q := by
  obtain ⟨ρ, st, ι, hE, hS, hP⟩ := h
  refine rd_lcG (okP := okV C Q) (F := fun r st => .ok (.lst r) st) hsl hE hS hP fun r st' ι1 ι' H1 H' p ws hp np e' S hp' rs hP1 => ?_
  exact hP1 ι' H' e' S.unhide _ (.lst ⟨S.ap p List.mem_cons_self, by rw [e'.hd]; exact np.h⟩ (.inl hp') (rs.tr Tr.unhide))
theorem stt_nil {X : Cx} : PTs X [] (rdT C W tYes) := ⟨fun pins s σ H Q I ⟨ρ, st, ι, hE, hS, hP⟩ => pts_nil.run pins s σ H Q I (post_ok hS hP)⟩
theorem stt_one {X : Cx} {c : Expr} {t : MT} (h : ST C X W c t) : PTs X [c] (rdT C W t) := pts_one h
theorem se_lc {elt iter : Expr} {ifs : List Expr} {scope : Scope} {own : List (Str × Nat)} {sl : List Nat} {mi : MI} {g : MG} {t : MT} {e : ME} (hc : X.calm = true) (hN : X.N.Nodup) (hsl : ∀ i ∈ sl, i ∈ own.map (·.2)) (hi : SI C X W tg iter mi) (ok : BlkOk X.N X.env.scope scope own)
    (hg : ∀ (s : Shared) (H : Hp) (c : Addr) (cl : List (Str × Addr)) (fp : List Addr), SG C (X.blk s H scope (compEnvC scope cl c X.env) fp) W0 sl tg g)
    (ht : ∀ (s : Shared) (H : Hp) (c : Addr) (cl : List (Str × Addr)) (fp : List Addr), PTs (X.blk s H scope (compEnvC scope cl c X.env) fp) ifs (rdT C W0 t))
    (he : ∀ (s : Shared) (H : Hp) (c : Addr) (cl : List (Str × Addr)) (fp : List Addr), SE C (X.blk s H scope (compEnvC scope cl c X.env) fp) W0 elt e) (hs : ∀ x, foldedSetIterable iter X.env x = pure x := by intro _; rfl) :
    SE C X W (.ListComp elt [⟨tg, iter, ifs, 0⟩] scope pos) (mLc mi (own.map (·.2)) g t e) := pe_imp (pe_lc hc hN hi ok hg ht he hs) fun σ H Q h => rd_lc hsl h
/-- name = [..] on one line -/
theorem ss_setLc {i : Nat} {y : Str} {py spos : Pos} {elt iter : Expr} {ifs : List Expr} {scope : Scope} {own : List (Str × Nat)} {sl : List Nat} {mi : MI} {g : MG} {t : MT} {e : ME} (hc : X.calm = true) (hN : X.N.Nodup) (hsl : ∀ i ∈ sl, i ∈ own.map (·.2)) (hy : X.N[i]? = some y) (hyl : X.env.scope.names.lookup y = some .local)
    (hsw : swapsWith (.ListComp elt [⟨tg, iter, ifs, 0⟩] scope pos) (some (.Name y py)) spos.line X.env = pure true) (hi : SI C X W tg iter mi) (ok : BlkOk X.N X.env.scope scope own)
    (hg : ∀ (s : Shared) (H : Hp) (c : Addr) (cl : List (Str × Addr)) (fp : List Addr), SG C (X.blk s H scope (compEnvC scope cl c X.env) fp) W0 sl tg g)
    (ht : ∀ (s : Shared) (H : Hp) (c : Addr) (cl : List (Str × Addr)) (fp : List Addr), PTs (X.blk s H scope (compEnvC scope cl c X.env) fp) ifs (rdT C W0 t))
    (he : ∀ (s : Shared) (H : Hp) (c : Addr) (cl : List (Str × Addr)) (fp : List Addr), SE C (X.blk s H scope (compEnvC scope cl c X.env) fp) W0 elt e) (hs : ∀ x, foldedSetIterable iter X.env x = pure x := by intro _; rfl) :
    SS C X W (.Assign [.Name y py] (.ListComp elt [⟨tg, iter, ifs, 0⟩] scope pos) spos) (sAsg (mLc mi (own.map (·.2)) g t e) (gName i)) :=
  ps_imp (ps_setLc hc hN hy hyl hsw hi ok hg ht he hs) fun Dn σ H ⟨ρ, st, ι, hE, hS, hP⟩ => rd_lc hsl (rs_seq hE hS hP fun d st1 ι1 H1 v1 hE1 hS1 _ rx hP1 => hP1 ι1 H1 _ (Ext.refl _ _) hS1 (hE1.set rx i))
end
end CV
/-! CVg: generator expressions, turn by turn. -/
namespace CV
open PySem PySem.Spec PyProof.Rows L2
open PySem.W.X (SegX)

/-! ### one turn of a generator -/
section
variable {prog : Program} {w : World} {A : Around} {c : Code} {fs : List Frame} {s : Shared} {P : End → Shared → Prop}
theorem xs_wrap {α : Type} {m : Sem α} {K : α → Sem PySem.Fin} {J : Value → Sem PySem.Fin} {gd : Bool → Bool} {lv : List Value → List Value}
    (h : wpAny (model prog w) (A.over c fs) m (fun a s' => SegX (model prog w) A c (K a) fs s' P) (fun x s' => SegX (model prog w) A c (J x) fs s' P) s) : SegX (model prog w) A c (m.wrap K J gd lv) fs s P := by
  rintro Γ p rfl hΓ
  obtain ⟨e, s', hr, hq⟩ := runs_wrap_of_wp (Φ := fun e s' => e.quiet = true ∧ P e s') K J gd lv m (h (Γ.over fs) p (hΓ.over fs)) (fun a p' s' h' => h' Γ p' rfl hΓ) (fun x p' s' h' => h' Γ p' rfl hΓ)
  exact ⟨e, s', hr, hq⟩
theorem xs_bindw {α β : Type} {m : Sem α} {K : α → Sem β} {K' : β → Sem PySem.Fin} {J : Value → Sem PySem.Fin} {gd : Bool → Bool} {lv : List Value → List Value}
    (h : wpAny (model prog w) (A.over c fs) m (fun a s' => SegX (model prog w) A c ((K a).wrap K' J gd lv) fs s' P) (fun x s' => SegX (model prog w) A c (J x) fs s' P) s) : SegX (model prog w) A c ((m >>= K).wrap K' J gd lv) fs s P := by
  rw [Sem.bind_eq_wrap', Sem.wrap_wrap]
  exact xs_wrap h
theorem xs_at {p' : Pos} {k : Unit → Sem PySem.Fin} (h : SegX (model prog w) A c (k ()) fs s P) : SegX (model prog w) A c (.at p' k) fs s P :=
  xs_wrap (m := standAt p') (K := k) (J := .raise) (gd := id) (lv := id) (wpAny_standAt h)
theorem xs_again {c' : Code} (hq : c'.quiet = true) (h : SegX (model prog w) A c' ((model prog w).den c') fs s P) : SegX (model prog w) A c (.pure (.again c')) fs s P := PySem.W.X.s_again prog w A c fs P s c' hq h
theorem xs_end (r : Result) (h : P (.ret r) s) : SegX (model prog w) A c (leafOf r) [] s P := PySem.W.X.s_end prog w A c P s r _ rfl h
theorem xs_mono {M : Model} {t : Sem PySem.Fin} {P' : End → Shared → Prop} (h : SegX M A c t fs s P) (k : ∀ e s', e.quiet = true → P e s' → P' e s') : SegX M A c t fs s P' := fun Γ p hc hΓ =>
  let ⟨e, s', hr, hq, hp⟩ := h Γ p hc hΓ
  ⟨e, s', hr, hq, k e s' hq hp⟩
/-- a generator goes on up to its next stop -/
def Go1 (M : Model) (A : Around) (gs : GenState) (s : Shared) (P : End → Shared → Prop) : Prop := match gs with
  | .fresh c => SegX M A c (M.den c) [] s P
  | .suspended k _ c _ fs _ => SegX M A c (k (.send .none)) fs s P
  | _ => False
theorem resume1 {α : Type} {gs : GenState} {g : Nat} {l : List Value} {k : GenResult → Sem α} {Q : α → Shared → Prop} {E : Value → Shared → Prop} (hg : s.gens[g]? = some gs) (hgo : Go1 (model prog w) A gs (s.setGen g .running) P)
    (hP : ∀ e s1, e.quiet = true → P e s1 → wpAny (model prog w) A (k e.result) Q E (s1.setGen g e.genState)) : wpAny (model prog w) A (.resume g (.send .none) l k) Q E s := by
  intro Γ p hΓ
  cases gs with
  | fresh c => exact PySem.W.X.wake_any α prog w hg (.inl ⟨rfl, rfl, rfl, rfl⟩) (fun Γ => Γ.In A) (fun _ h => h) (xs_mono (show SegX _ A c (denote table c) [] _ P from hgo) fun e s' hq hp Γ p hC => hP e s' hq hp Γ p hC) Γ p hΓ
  | suspended k₀ l₀ c₀ p₀ fs₀ cl => exact PySem.W.X.wake_any α prog w hg (.inr ⟨k₀, l₀, p₀, cl, rfl, rfl⟩) (fun Γ => Γ.In A) (fun _ h => h) (xs_mono hgo fun e s' hq hp Γ p hC => hP e s' hq hp Γ p hC) Γ p hΓ
  | running => exact hgo.elim
  | finished => exact hgo.elim
/-- next of a generator -/
theorem next1 {a : Addr} {g : Nat} {gs : GenState} {Q : Option Value → Shared → Prop} {E : Value → Shared → Prop} (hh : A.handled = none) (hl : s.heap.NoLimit) (hroom : A.depth < recursionLimit) (hg : s.heap.IsGen a g) (hgs : s.gens[g]? = some gs)
    (hgo : Go1 (model prog w) A.in1 gs (s.setGen g .running) P)
    (hP : ∀ e s1, e.quiet = true → P e s1 → match e with
      | .ret r => r = .ok .next ∧ ∀ h', (∀ b o, s1.heap.get? b = some o → h'.get? b = some o) → Q none { s1.setGen g .finished with heap := h' }
      | .susp v .. => Q (some v) (s1.setGen g e.genState)) : wpAny (model prog w) A (pyNext (.ref a)) Q E s := by
  unfold pyNext
  refine wpAny_bind (wpAny_attempt (wpAny_callSpecial?_slot (name := Str.ofString "__next__") hg.typeIs slot_gen_next
    (wpAny_call_entry slot_gen_next hg.typeIs entry_gen_next ?_ (args_gen_next _))))
  show wpAny _ A.in1 (Builtin.Generator.genWake (.ref a) (.send .none)) _ _ s
  unfold Builtin.Generator.genWake
  refine wpAny_bind (wpAny_holding (wpAny_genNumber hg (wpAny_bind (wpAny_genState hgs ?_))))
  cases gs with
  | running => exact hgo.elim
  | finished => exact hgo.elim
  | _ =>
    refine wpAny_bind (wpAny_roomToWake hl hroom ?_)
    show wpAny _ A.in1 (.resume g (.send .none) [] _) _ _ s
    refine resume1 hgs hgo fun e s₁ hq hp => ?_
    have h1 := hP e s₁ hq hp
    cases e with
    | ret r =>
      obtain ⟨rfl, h1⟩ := h1
      show wpAny _ A.in1 (newExc (.type "StopIteration") [] >>= _) _ _ _
      refine wpAny_bind ?_
      simp only [newExc, newTuple]
      refine wpAny_bind (wpAny_newObj_type ?_ (by size_fits))
      refine wpAny_bind (m := firstArgMember _ _) (wpAny_of_eq (a := Value.none) (by first | rfl | (simp only [firstArgMember]; rfl)) ?_)
      refine wpAny_newObj_type ?_ (by size_fits)
      simp only [raiseNew]
      refine wpAny_bind (wpAny_bind (wpAny_handled ?_))
      first | rw [show A.in1.handled = none from hh] | rw [hh]
      refine wpAny_throw ?_
      refine wpAny_bind (wpAny_isInstance (T := "StopIteration") (b := true) ⟨_, Heap.get?_push_size _ rfl, rfl⟩ isSubtype_stop ?_)
      exact wpAny_pure (h1 _ fun b o hb => Heap.get?_push_of_some _ (Heap.get?_push_of_some _ hb))
    | susp v gg l k c p fs =>
      exact wpAny_pure ⟨v, rfl, wpAny_pure h1⟩
end

/-! ### the context of its turns -/
abbrev gxC (X : Cx) (A' : Around) (s : Shared) (H : Hp) (cenv : Env) (fp : List Addr) (pn : List (Addr × Obj)) : Cx :=
  { X with A := A', s_0 := s, H_0 := H, env := cenv, outer := X.stack, stack := cenv :: X.stack, ex := fp, fn := fun _ => false, pn := pn, xe := fun _ _ => False }
/-- a generator expression's names: own ones at slots, captured ones -/
structure GxOk (N : List Str) (sc scope : Scope) (own : List Nat) : Prop where
  kind : scope.kind = .function
  co : scope.isCoroutine = false
  cell : ∀ y ∈ scope.names, y.2 ≠ .cell
  dot : scope.names.lookup (".0" : Str) = some NameKind.local
  wiped : ∀ (i : Nat) (x : Str), N[i]? = some x → scope.names.lookup x = some .local → i ∈ own
  free : ∀ y ∈ scope.names, y.2 = .free → sc.names.lookup y.1 = some .cell ∨ sc.names.lookup y.1 = some .free
def gxB (N : List Str) (sc scope : Scope) (own : List Nat) : Bool :=
  decide (scope.kind = .function) && (!scope.isCoroutine && ((scope.names.all fun y => !decide (y.2 = .cell)) && (decide (scope.names.lookup (".0" : Str) = some NameKind.local) &&
    (((List.range N.length).all fun i => match N[i]? with
      | some x => !decide (scope.names.lookup x = some .local) || own.contains i
      | none => true) && (scope.names.all fun y => !decide (y.2 = .free) || (decide (sc.names.lookup y.1 = some .cell) || decide (sc.names.lookup y.1 = some .free)))))))
theorem gxOk_by {N : List Str} {sc scope : Scope} {own : List Nat} (h : gxB N sc scope own = true) : GxOk N sc scope own := by
  unfold gxB at h
  simp only [Bool.and_eq_true, Bool.not_eq_true', decide_eq_true_eq, List.all_eq_true, Bool.or_eq_true, decide_eq_false_iff_not] at h
  obtain ⟨h1, h2, h3, h4, h5, h6⟩ := h
  refine ⟨h1, h2, h3, h4, fun i x e1 e2 => ?_, fun y hy e => (h6 y hy).elim (fun z => absurd e z) id⟩
  have hi := h5 i (List.mem_range.mpr (List.getElem?_eq_some_iff.mp e1).1)
  rw [e1] at hi
  simp only [Bool.or_eq_true, Bool.not_eq_true', decide_eq_false_iff_not] at hi
  rcases hi with z | z
  · exact absurd e2 z
  · simpa using z
section
variable {X : Cx} {pins : List (Addr × Obj)} {σ : L2.St} {H : Hp} {s : Shared}
theorem GxOk.has {scope : Scope} {own : List Nat} (G : GxOk X.N X.env.scope scope own) (ok : X.Ok) : ∀ y ∈ scope.names, y.2 = .free → ∃ c, X.env.cells.lookup y.1 = some c := fun y hy e => by
  rcases G.free y hy e with k | k
  · exact ok.has _ (.inl k)
  · exact ok.has _ (.inr k)
/-- the same but for what lies around -/
theorem Inv.around {A1 A2 : Around} {s0 : Shared} {H0 : Hp} {cenv : Env} {fp : List Addr} {pn : List (Addr × Obj)} (I : Inv (gxC X A1 s0 H0 cenv fp pn) pins σ H s) (hh : A2.handled = none) (hf : A2.frames = some (cenv :: X.stack)) : Inv (gxC X A2 s0 H0 cenv fp pn) pins σ H s :=
  ⟨⟨I.ok.mod, I.ok.kind, I.ok.glob, I.ok.blt, I.ok.above, I.ok.inj, I.ok.has, I.ok.cab, fun _ => hh, hf, I.ok.stk, I.ok.exf, I.ok.bs, I.ok.bsz, I.ok.noex, I.ok.exfs, I.ok.funs, I.ok.frf⟩, I.os, I.bare, I.base, I.loc, I.cell, I.free, I.freeC, I.pin, I.hok, I.len⟩
/-- some objects that nobody tracks have changed -/
theorem Inv.chg {s' : Shared} {ch : List Addr} (I : Inv X pins σ H s) (k : ∀ b o, b ∉ ch → s.heap.get? b = some o → s'.heap.get? b = some o) (hf : ∀ b ∈ ch, FpOk X pins H b) (ht : ∀ b ∈ ch, ∃ o, s'.heap.get? b = some o) (ho : s'.os = s.os) (hg : AllBare s'.gens) : Inv X pins σ H s' := by
  have nit : ∀ b u, H b = some u → b ∉ ch := fun b u e z => by
    have q := (hf b z).1
    rw [q] at e; cases e
  have J : Inv X pins σ H { s with heap := s'.heap, gens := s'.gens, drawn := s'.drawn, toks := s'.toks } := by
    refine I.step (g' := s'.gens) (d' := s'.drawn) (ch := ch) (fun b hb => ⟨(hf b hb).2.2.2.1, (hf b hb).2.1, (hf b hb).2.2.2.2.1, (hf b hb).2.2.2.2.2⟩) (fun b o _ _ hc e _ => k b o hc e) (fun b o _ _ hc e _ => ⟨o.slots, k b o hc e⟩)
      (fun _ _ _ _ n => n) (fun b o hc e => ⟨o, k b o hc e⟩) (fun _ _ e => e) (fun _ _ _ e => e) (fun b ps e => ⟨#[], by rw [e]; simp⟩) (fun m hm => ?_) (fun b u e => ?_) hg
    · obtain ⟨o, es, ep, ho, r⟩ := hm
      exact ⟨o, es, ep, k _ o (fun z => (hf _ z).2.1 rfl) ho, r⟩
    · refine (I.hok b u e).stay (fun c v hc q => k c v ?_ q) (fun _ q => q) fun _ _ q => q
      rcases hc with z | z
      · rw [z]
        exact nit b u e
      · exact nit _ _ z
  have es : ({ s with heap := s'.heap, gens := s'.gens, drawn := s'.drawn, toks := s'.toks } : Shared) = s' := by
    cases s'
    cases ho
    rfl
  rw [es] at J
  exact J
/-- the turns' context, as it stands when the generator is new -/
theorem gx_start {scope : Scope} {own : List Nat} {A' : Around} {code : Value} {fp : List Addr} {it : Addr} {h5 : Heap} {gs : Array GenState} {tk : Nat} {pn : List (Addr × Obj)} (I : Inv X pins σ H s) (G : GxOk X.N X.env.scope scope own) (hd : A'.handled = none)
    (hfr : A'.frames = some (genEnv scope (cloFrom X.env.cells scope.names []) s.heap.objs.size code builtinsNs X.env :: X.stack)) (hfp : ∀ b ∈ fp, FpOk X pins H b ∧ b < s.heap.objs.size)
    (hn : h5.Ns s.heap.objs.size fun y => if y = (".0" : Str) then some (.ref it) else none) (kp : ∀ b o, s.heap.get? b = some o → h5.get? b = some o) (hg : AllBare gs) (hpn : ∀ p ∈ pn, h5.get? p.1 = some p.2 ∧ s.heap.objs.size < p.1 ∧ ∀ v, p.2.data ≠ .cell v) :
    Inv (gxC X A' s H (genEnv scope (cloFrom X.env.cells scope.names []) s.heap.objs.size code builtinsNs X.env) fp pn) [] (wipe σ own) H { s with heap := h5, gens := gs, toks := tk } := by
  have hfree := G.has I.ok
  have cm : ∀ {y c}, (cloFrom X.env.cells scope.names []).lookup y = some c → X.env.cells.lookup y = some c := fun {y c} e => by
    rcases cloFrom_mem (PySem.mem_of_lookup e) with hm | ⟨h1, h2⟩
    · cases hm
    · obtain ⟨c1, hc⟩ := hfree _ h1 rfl
      have hc : X.env.cells.lookup y = some c1 := hc
      have e2 : c = c1 := by
        rw [h2, hc] <;> rfl
      rw [e2]
      exact hc
  have look : ∀ {y}, scope.names.lookup y = some .free → ∃ c, (cloFrom X.env.cells scope.names []).lookup y = some c := fun {y} hl => by
    have hy : (y, NameKind.free) ∈ scope.names := PySem.mem_of_lookup hl
    exact mem_lookup (cloFrom_has (cells := X.env.cells) (acc := []) hy)
  have cellK : ∀ {c : Addr} {v : Option Value}, s.heap.IsCell c v → h5.IsCell c v := fun {c v} ⟨o, ho, hd⟩ => ⟨o, kp _ _ ho, hd⟩
  have clt : ∀ {y c}, X.env.cells.lookup y = some c → c < s.heap.objs.size := fun {y c} e => by
    obtain ⟨w, z⟩ := I.cell _ _ e
    exact z.lt
  have pinsE : ∀ p : Addr × Obj, p ∈ ([] : List (Addr × Obj)) → False := fun p hp => by simp at hp
  refine ⟨⟨I.ok.mod, G.kind, I.ok.glob, rfl, Nat.le_refl _, fun y z c e1 e2 => I.ok.inj y z c (cm e1) (cm e2), fun y hy => ?_, fun y c z _ => ?_, fun _ => hd, hfr, .inr ⟨rfl, rfl⟩, fun b hb => ⟨Nat.ne_of_lt (hfp b hb).2, fun y c e z => (hfp b hb).1.2.2.2.2.1 y c (cm e) z⟩, I.bs, Nat.le_trans I.ok.bsz I.sz,
      fun b o e hb => ?_, fun b hb z => ?_, I.stack, I.stkFree⟩,
    rfl, hg, Un.kept kp, ⟨_, hn, fun i y v e1 e2 e3 => ?_⟩, fun y c e => ?_, I.hok.fresh (Nat.le_refl _), fun y c e => I.freeC y c (cm e), fun q hq => ?_, I.hok.kept kp, by rw [wipe_length]; exact I.len⟩
  · have hy : scope.names.lookup y = some .cell ∨ scope.names.lookup y = some .free := hy
    rcases hy with hy | hy
    · exact absurd rfl (G.cell _ (PySem.mem_of_lookup hy))
    · exact look hy
  · have z : false = true := z
    cases z
  · rcases (hfp b hb).1.2.2.2.1 with z | z
    · exact I.ok.noex b o e z
    · exact absurd (Nat.lt_of_lt_of_le (Heap.lt_size e) (Nat.le_trans I.ok.bsz z)) (Nat.lt_irrefl _)
  · rcases List.mem_cons.mp (I.stkSub b z) with z | z
    · exact (hfp b hb).1.2.1 z
    · exact (hfp b hb).1.2.2.1 z
  · obtain ⟨e2, hne⟩ := wipe_some e2
    have e3 : Vis scope y := e3
    rcases e3 with k | k | k
    · exact absurd (G.wiped i y e1 k) hne
    · exact absurd rfl (G.cell _ (PySem.mem_of_lookup k))
    · obtain ⟨m, hn, hl⟩ := I.loc
      have hvis : Vis X.env.scope y := (G.free _ (PySem.mem_of_lookup k) rfl).elim (fun k => .inr (.inl k)) (fun k => .inr (.inr k))
      obtain ⟨w', r, q⟩ := hl i y v e1 e2 hvis
      obtain ⟨c2, h2⟩ := look k
      refine ⟨w', r, .inr ⟨.inr k, c2, h2, ?_⟩⟩
      have c1 := cm h2
      rcases q with ⟨k', _⟩ | ⟨_, c3, e', z⟩
      · have k' : X.env.scope.names.lookup y = some .local := k'
        rcases G.free _ (PySem.mem_of_lookup k) rfl with k2 | k2 <;> rw [show X.env.scope.names.lookup y = _ from k2] at k' <;> cases k'
      · rw [c1] at e'
        cases e'
        exact cellK z
  · obtain ⟨w', z⟩ := I.cell y c (cm e)
    exact ⟨w', cellK z⟩
  · have hq : q ∈ pn ++ [] := hq
    rw [List.append_nil] at hq
    obtain ⟨h1, h2, h3⟩ := hpn q hq
    exact ⟨h1, I.hok.fresh (Nat.le_of_lt h2), Nat.ne_of_gt h2, fun z => by
      rcases List.mem_cons.mp (I.stkSub _ z) with e | e
      · have h4 := I.lt
        rw [← e] at h4
        exact Nat.lt_irrefl _ (Nat.lt_trans h2 h4)
      · exact I.nofs (Nat.le_of_lt h2) e, h3⟩
end
end CV
/-! CVh: a generator expression that is alive; how it is made. -/
namespace CV
open PySem PySem.Spec PyProof.Rows L2
open PySem.W.X (SegX)

/-- all items that a generator expression gives, each with the store behind it -/
def lcS (g : MG) (t : MT) (e : ME) (ρ : Envr) : List D → Sto → R (List (D × Sto))
  | [], st => .ok [] st
  | d :: ds, st => match g d ρ st with
    | .ok ρ' st1 => (match t ρ' st1 with
      | .ok true st2 => (match e ρ' st2 with
        | .ok x st3 => (match lcS g t e ρ ds st3 with
          | .ok r st4 => .ok ((x, st3) :: r) st4
          | _ => .fail)
        | _ => .fail)
      | .ok false st2 => lcS g t e ρ ds st2
      | _ => .fail)
    | _ => .fail
theorem lcS_step {g : MG} {t : MT} {e : ME} {ρ : Envr} {d : D} {ds : List D} {st stF : Sto} {os : List (D × Sto)} (h : lcS g t e ρ (d :: ds) st = .ok os stF) :
    ∃ ρ' st1, g d ρ st = .ok ρ' st1 ∧ ((∃ st2, t ρ' st1 = .ok false st2 ∧ lcS g t e ρ ds st2 = .ok os stF) ∨ (∃ st2 x st3 os', t ρ' st1 = .ok true st2 ∧ e ρ' st2 = .ok x st3 ∧ os = (x, st3) :: os' ∧ lcS g t e ρ ds st3 = .ok os' stF)) := by
  unfold lcS at h
  cases h1 : g d ρ st with
  | exn a b => simp only [h1] at h; cases h
  | fail => simp only [h1] at h; cases h
  | ok ρ' st1 =>
    refine ⟨ρ', st1, rfl, ?_⟩
    cases h2 : t ρ' st1 with
    | exn a b => simp only [h1, h2] at h; cases h
    | fail => simp only [h1, h2] at h; cases h
    | ok b st2 =>
      cases b with
      | false =>
        simp only [h1, h2] at h
        exact .inl ⟨st2, rfl, h⟩
      | true =>
        cases h3 : e ρ' st2 with
        | exn a b => simp only [h1, h2, h3] at h; cases h
        | fail => simp only [h1, h2, h3] at h; cases h
        | ok x st3 =>
          cases h4 : lcS g t e ρ ds st3 with
          | exn a b => simp only [h1, h2, h3, h4] at h; cases h
          | fail => simp only [h1, h2, h3, h4] at h; cases h
          | ok r st4 =>
            simp only [h1, h2, h3, h4] at h
            cases h
            exact .inr ⟨st2, x, st3, r, rfl, h3, rfl, h4⟩

/-- what stands when it goes on: cp, the walker's own objects -/
structure ResC (X : Cx) (k n5 : Nat) (cp : List (Addr × Obj)) (H : Hp) (s1 s : Shared) (A' : Around) : Prop where
  room : Room (k + 1) A'
  frames : A'.frames = some X.stack
  own : ∀ p ∈ cp, n5 ≤ p.1 ∧ H p.1 = none ∧ s.heap.get? p.1 = some p.2 ∧ ∀ v, p.2.data ≠ .cell v
  keep : ∀ b o, b ∉ cp.map (·.1) → s1.heap.get? b = some o → s.heap.get? b = some o
  os : s.os = s1.os
  bare : AllBare s.gens
def KeptC (cp : List (Addr × Obj)) (s2 : Shared) (H2 : Hp) : Prop := ∀ p ∈ cp, s2.heap.get? p.1 = some p.2 ∧ H2 p.1 = none
/-- it gives os and ends -/
def Alive (C : Ct) (X : Cx) (k : Nat) (a : Addr) (gi : Nat) (pins : List (Addr × Obj)) (σ : L2.St) (n5 : Nat) (stF : Sto) : List (D × Sto) → Io → Hp → Shared → GenState → Prop
  | [], ι, H, s1, gs => ∀ A' cp s, ResC X k n5 cp H s1 s A' → Go1 (model X.prog X.w) A' gs s fun e s2 => e = .ret (.ok .next) ∧ ∃ ι2 H2, Ext ι H ι2 H2 ∧ RepS C stF ι2 H2 ∧ Inv X pins σ H2 s2 ∧ KeptC cp s2 H2
  | (x, st2) :: os, ι, H, s1, gs => ∀ A' cp s, ResC X k n5 cp H s1 s A' → Go1 (model X.prog X.w) A' gs s fun e s2 => ∃ v l kk c p fs y ι2 H2, e = .susp v false l kk c p fs ∧ RelV y v ∧ Rp C ι2 H2 x y ∧ Ext ι H ι2 H2 ∧ RepS C st2 ι2 H2 ∧
      Inv X pins σ H2 s2 ∧ s2.heap.IsGen a gi ∧ KeptC cp s2 H2 ∧ Alive C X k a gi pins σ n5 stF os ι2 H2 s2 (.suspended kk l c p fs (false || fs.any Frame.guarded))
def PostA (C : Ct) (X : Cx) (k : Nat) (a : Addr) (gi : Nat) (pins : List (Addr × Obj)) (σ : L2.St) (n5 : Nat) (stF : Sto) (cp : List (Addr × Obj)) : List (D × Sto) → Io → Hp → End → Shared → Prop
  | [], ι, H => fun e s2 => e = .ret (.ok .next) ∧ ∃ ι2 H2, Ext ι H ι2 H2 ∧ RepS C stF ι2 H2 ∧ Inv X pins σ H2 s2 ∧ KeptC cp s2 H2
  | (x, st2) :: os, ι, H => fun e s2 => ∃ v l kk c p fs y ι2 H2, e = .susp v false l kk c p fs ∧ RelV y v ∧ Rp C ι2 H2 x y ∧ Ext ι H ι2 H2 ∧ RepS C st2 ι2 H2 ∧
      Inv X pins σ H2 s2 ∧ s2.heap.IsGen a gi ∧ KeptC cp s2 H2 ∧ Alive C X k a gi pins σ n5 stF os ι2 H2 s2 (.suspended kk l c p fs (false || fs.any Frame.guarded))
section
variable {C : Ct} {X : Cx} {k : Nat} {a : Addr} {gi : Nat} {pins : List (Addr × Obj)} {σ : L2.St} {n5 : Nat} {stF : Sto}
theorem PostA.ext {cp : List (Addr × Obj)} {os : List (D × Sto)} {ι ι1 : Io} {H H1 : Hp} {e : End} {s2 : Shared} (x : Ext ι H ι1 H1) (h : PostA C X k a gi pins σ n5 stF cp os ι1 H1 e s2) : PostA C X k a gi pins σ n5 stF cp os ι H e s2 := by
  cases os with
  | nil =>
    obtain ⟨h1, ι2, H2, h2, r⟩ := h
    exact ⟨h1, ι2, H2, x.trans h2, r⟩
  | cons p os =>
    obtain ⟨v, l, kk, c, p', fs, y, ι2, H2, h1, h2, h3, h4, r⟩ := h
    exact ⟨v, l, kk, c, p', fs, y, ι2, H2, h1, h2, h3, x.trans h4, r⟩
theorem Alive.mk {os : List (D × Sto)} {ι : Io} {H : Hp} {s1 : Shared} {gs : GenState} (h : ∀ A' cp s, ResC X k n5 cp H s1 s A' → Go1 (model X.prog X.w) A' gs s (PostA C X k a gi pins σ n5 stF cp os ι H)) : Alive C X k a gi pins σ n5 stF os ι H s1 gs := by
  cases os with
  | nil => exact h
  | cons p os => exact h
theorem Alive.go {os : List (D × Sto)} {ι : Io} {H : Hp} {s1 : Shared} {gs : GenState} (h : Alive C X k a gi pins σ n5 stF os ι H s1 gs) : ∀ A' cp s, ResC X k n5 cp H s1 s A' → Go1 (model X.prog X.w) A' gs s (PostA C X k a gi pins σ n5 stF cp os ι H) := by
  cases os with
  | nil => exact h
  | cons p os => exact h

variable {tg elt iter : Expr} {ifs : List Expr} {scope : Scope} {gpos : Pos} {it : Addr} {cenv : Env} {s4 : Shared} {H4 : Hp} {fp : List Addr} {go : Obj} {J : It} {tn : Nat → Heap → Prop} {own sl : List Nat} {g : MG} {t : MT} {e : ME} {ρ : Envr}
/-- the code of a turn -/
abbrev gxLoop (tg elt iter : Expr) (ifs : List Expr) (scope : Scope) (gpos : Pos) (it : Addr) (cenv : Env) : Code := .compLoop (.GeneratorExp elt [⟨tg, iter, ifs, 0⟩] scope gpos) 0 (.ref it) .none cenv
/-- what stays the same through all turns -/
structure GxFix (C : Ct) (X : Cx) (k : Nat) (a : Addr) (gi : Nat) (pins : List (Addr × Obj)) (σ : L2.St) (n5 : Nat) (tg elt : Expr) (ifs : List Expr) (it : Addr) (cenv : Env) (s4 : Shared) (H4 : Hp) (fp : List Addr) (go : Obj) (J : It) (tn : Nat → Heap → Prop) (own sl : List Nat) (g : MG) (t : MT) (e : ME) : Prop where
  calm : X.calm = true
  I : Inv X pins σ H4 s4
  hfp : ∀ b ∈ fp, FpOk X pins H4 b ∧ b < s4.heap.objs.size
  T : Turn X.prog X.w X.K tg J fp it tn
  hsl : ∀ i ∈ sl, i ∈ own
  hg : ∀ A'', Room k A'' → SG C (gxC X A'' s4 H4 cenv fp [(a, go)]) W0 sl tg g
  ht : ∀ A'', Room k A'' → PTs (gxC X A'' s4 H4 cenv fp [(a, go)]) ifs (rdT C W0 t)
  he : ∀ A'', Room k A'' → SE C (gxC X A'' s4 H4 cenv fp [(a, go)]) W0 elt e
  loc : cenv.locals = s4.heap.objs.size
  frame : cenv.frame = some cenv.locals
  cells : ∀ y c, cenv.cells.lookup y = some c → c < s4.heap.objs.size
  co : cenv.scope.isCoroutine = false
  al : s4.heap.objs.size < a
  n5 : a < n5
  gen : ∀ h : Heap, h.get? a = some go → h.IsGen a gi
theorem den_gxLoop : (model X.prog X.w).den (gxLoop tg elt iter ifs scope gpos it cenv) = ((compTurn (.GeneratorExp elt [⟨tg, iter, ifs, 0⟩] scope gpos) 0 (.ref it) .none cenv).onRaise (leaving cenv)) := rfl
theorem over_gx {A' : Around} (hf : cenv.frame = some cenv.locals) : A'.over (gxLoop tg elt iter ifs scope gpos it cenv) [] = A'.deeper cenv := by rfl
theorem gx_turn (F : GxFix C X k a gi pins σ n5 tg elt ifs it cenv s4 H4 fp go J tn own sl g t e) : ∀ (ds : List D) (os : List (D × Sto)) (i : Nat) (st : Sto) (ι : Io) (H : Hp) (A' : Around) (cp : List (Addr × Obj)) (s : Shared),
    lcS g t e (wipeE ρ own) ds st = .ok os stF → Room (k + 1) A' → A'.frames = some X.stack → (∀ p ∈ cp, n5 ≤ p.1) → Inv (gxC X (A'.deeper cenv) s4 H4 cenv fp [(a, go)]) cp (wipe σ own) H s → tn i s.heap → (∀ b ∈ fp, H b = none) →
    EnvR C ι H (wipeE ρ own) (wipe σ own) → RepS C st ι H → Rest C ι H J i ds → SegX (model X.prog X.w) A' (gxLoop tg elt iter ifs scope gpos it cenv) ((model X.prog X.w).den (gxLoop tg elt iter ifs scope gpos it cenv)) [] s (PostA C X k a gi pins σ n5 stF cp os ι H) := by
  intro ds
  induction ds with
  | nil =>
    intro os i st ι H A' cp s hl hr hf hcp I hst hfn hE hS rest
    have hl : R.ok ([] : List (D × Sto)) st = .ok os stF := hl
    cases hl
    have stat : ∀ b ∈ fp, FpOk (gxC X (A'.deeper cenv) s4 H4 cenv fp [(a, go)]) cp H b := fun b hb => ⟨hfn b hb, (I.ok.exf b hb).1, I.ok.exfs b hb, .inl hb, (fun x c e => (I.ok.exf b hb).2 x c e), fun p hp z => by
      have hb2 := (F.hfp b hb).2
      have hp : p ∈ [(a, go)] ++ cp := hp
      rcases List.mem_append.mp hp with hp | hp
      · have e1 : p = (a, go) := by simpa using hp
        rw [← z, e1] at hb2
        exact Nat.lt_irrefl _ (Nat.lt_trans hb2 F.al)
      · have h1 := hcp p hp
        rw [z] at h1
        exact Nat.lt_irrefl _ (Nat.lt_of_lt_of_le (Nat.lt_trans (Nat.lt_trans hb2 F.al) F.n5) h1)⟩
    rw [den_gxLoop, compTurn_gen, Sem.onRaise_eq_wrap]
    refine xs_bindw (wpAny_standAt ?_)
    refine xs_bindw ?_
    rw [over_gx F.frame]
    have stop := rest.2 ι H (Tr.refl _ _)
    rw [List.length_nil, Nat.add_zero] at stop
    refine thnF (F.T.done (gxC X (A'.deeper cenv) s4 H4 cenv fp [(a, go)]) rfl rfl rfl F.calm i cp s _ H (fun _ _ => False) I stat hst stop) fun r s6 ⟨hr6, I6⟩ => ?_
    subst hr6
    refine xs_end (.ok .next) ⟨rfl, ι, H, Ext.refl _ _, hS, F.I.call' (ch := fp) I6.os I6.base I6.hok I6.bare fun b hb => ⟨(F.hfp b hb).1.2.2.2.1, (F.hfp b hb).1.2.1, (F.hfp b hb).1.2.2.2.2.1, (F.hfp b hb).1.2.2.2.2.2⟩, fun p hp => ?_⟩
    obtain ⟨h1, h2, _⟩ := I6.pin p (List.mem_append_right _ hp)
    exact ⟨h1, h2⟩
  | cons d ds ih =>
    intro os i st ι H A' cp s hl hr hf hcp I hst hfn hE hS rest
    have statG : ∀ {cp : List (Addr × Obj)} {σ' : L2.St} {H' : Hp} {s' : Shared}, (∀ p ∈ cp, n5 ≤ p.1) → Inv (gxC X (A'.deeper cenv) s4 H4 cenv fp [(a, go)]) cp σ' H' s' → (∀ b ∈ fp, H' b = none) → ∀ b ∈ fp, FpOk (gxC X (A'.deeper cenv) s4 H4 cenv fp [(a, go)]) cp H' b := fun {cp σ' H' s'} hcp I hfn b hb => ⟨hfn b hb, (I.ok.exf b hb).1, I.ok.exfs b hb, .inl hb, (fun x c e => (I.ok.exf b hb).2 x c e), fun p hp z => by
      have hb2 := (F.hfp b hb).2
      have hp : p ∈ [(a, go)] ++ cp := hp
      rcases List.mem_append.mp hp with hp | hp
      · have e1 : p = (a, go) := by simpa using hp
        rw [← z, e1] at hb2
        exact Nat.lt_irrefl _ (Nat.lt_trans hb2 F.al)
      · have h1 := hcp p hp
        rw [z] at h1
        exact Nat.lt_irrefl _ (Nat.lt_of_lt_of_le (Nat.lt_trans (Nat.lt_trans hb2 F.al) F.n5) h1)⟩
    have hrD := hr.deeper cenv
    obtain ⟨go1, yl⟩ := rest.1 0 d ι H rfl (Tr.refl _ _)
    rw [Nat.add_zero] at go1 yl
    obtain ⟨ρ', st3, hg, fin⟩ := lcS_step hl
    rw [den_gxLoop, compTurn_gen, Sem.onRaise_eq_wrap]
    refine xs_bindw (wpAny_standAt ?_)
    refine xs_bindw ?_
    rw [over_gx F.frame]
    refine thnF (F.T.item (gxC X (A'.deeper cenv) s4 H4 cenv fp [(a, go)]) rfl rfl rfl F.calm i cp s _ H (fun _ _ => False) I (statG hcp I hfn) hst go1) fun r s6 ⟨u, hr6, h6⟩ => ?_
    subst hr6
    refine xs_bindw ?_
    rw [over_gx F.frame]
    refine thnF h6 fun _ s7 ⟨x, H7, I7, r7, y7, st7, n7⟩ => ?_
    obtain ⟨e7, k7⟩ := yl x H7 y7
    obtain ⟨hS7, rx⟩ := k7 st hS
    have hE7 := hE.ext e7
    have I7' := I7.pinned (statG hcp I7 n7) (F.T.obj _ _ st7)
    refine xs_bindw ?_
    rw [over_gx F.frame]
    refine thnF ((F.hg (A'.deeper cenv) hrD).run _ s7 _ H7 x u (fun σ8 H8 => ∃ ι8, Ext ι H7 ι8 H8 ∧ RepS C st3 ι8 H8 ∧ EnvR C ι8 H8 ρ' σ8 ∧ At sl (wipe σ own) σ8) I7' r7 ⟨d, wipeE ρ own, st, ι, hE7, hS7, rx, ?_⟩) fun _ s8 ⟨σ8, H8, I8, ι8, e8, hS8, hE8, at8⟩ => ?_
    · rw [hg]
      exact fun ι' H' e' s' σ' r' a' => ⟨ι', e', s', r', a'⟩
    have hw8 : wipe σ8 own = wipe σ own := by rw [(at8.mono F.hsl).wipe, wipe_wipe]
    have hl8 : (wipe σ own).length = σ8.length := by rw [← hw8, wipe_length]
    have hk8 : ∀ (j : Nat) v, (wipe σ own)[j]? = some (some v) → σ8[j]? = some (some v) := fun j v e => by
      rw [← hw8] at e
      exact (wipe_some e).1
    have pin' : ∀ {σ' : L2.St} {H' : Hp} {s' : Shared}, Inv (gxC X (A'.deeper cenv) s4 H4 cenv fp [(a, go)]) (cp ++ pinsAt fp s7.heap) σ' H' s' → ∀ b ∈ fp, ∀ o, s7.heap.get? b = some o → s'.heap.get? b = some o ∧ H' b = none := fun {σ' H' s'} I' b hb o e =>
      let z := I'.pin (b, o) (List.mem_append_right _ (List.mem_append_right _ (mem_pinsAt hb e)))
      ⟨z.1, z.2.1⟩
    have nfp : ∀ {σ' : L2.St} {H' : Hp} {s' : Shared}, Inv (gxC X (A'.deeper cenv) s4 H4 cenv fp [(a, go)]) (cp ++ pinsAt fp s7.heap) σ' H' s' → ∀ b ∈ fp, H' b = none := fun {σ' H' s'} I' b hb => by
      obtain ⟨o, e, _⟩ := F.T.obj _ _ st7 b hb
      exact (pin' I' b hb o e).2
    have hw : ∀ {ι' : Io} {H' : Hp}, Tr ι H ι' H' → EnvR C ι' H' (wipeE ρ own) (wipe σ own) := fun {ι' H'} e => hE.tr e
    refine xs_bindw ?_
    rw [over_gx F.frame]
    refine thnF ((F.ht (A'.deeper cenv) hrD).run _ s8 σ8 H8 (fun b H9 => ∃ ι9 st9, t ρ' st3 = .ok b st9 ∧ Ext ι8 H8 ι9 H9 ∧ RepS C st9 ι9 H9) I8 ⟨ρ', st3, ι8, hE8, hS8, ?_⟩) fun b s9 ⟨H9, I9, ι9, st9, ht9, e9, hS9⟩ => ?_
    · rcases fin with ⟨st5, ht, _⟩ | ⟨st5, x5, st6, os', ht, _, _, _⟩ <;> rw [ht] <;> exact fun ι' H' e' s' => ⟨ι', _, rfl, e', s'⟩
    have e79 := e7.trans (e8.trans e9)
    cases b with
    | false =>
      simp only [Bool.false_eq_true, if_false]
      rcases fin with ⟨st5, ht, fin⟩ | ⟨st5, x5, st6, os', ht, _, _, _⟩
      · rw [ht] at ht9
        cases ht9
        refine xs_again rfl (xs_mono (ih os (i + 1) st9 ι9 H9 A' cp s9 fin hr hf hcp (I9.unpinned.weak hl8 hk8) (F.T.keep _ _ _ st7 fun b hb o e => (pin' I9 b hb o e).1) (nfp I9) (hw e79.toTr) hS9 (rest.tail.ext e79)) fun e s' _ h => PostA.ext e79 h)
      · rw [ht] at ht9
        cases ht9
    | true =>
      simp only [if_true]
      rcases fin with ⟨st5, ht, fin⟩ | ⟨st5, x5, st6, os', ht, he, hos, fin⟩
      · rw [ht] at ht9
        cases ht9
      · rw [ht] at ht9
        cases ht9
        subst hos
        have hy : ∀ v, yieldOut cenv v = yieldValue v := fun v => by simp only [yieldOut, F.co, Bool.false_eq_true, if_false]
        simp only [hy]
        rw [Sem.bind_eq_wrap', Sem.bind_eq_wrap', Sem.wrap_wrap, Sem.wrap_wrap]
        refine xs_wrap ?_
        rw [over_gx F.frame]
        refine thnF ((F.he (A'.deeper cenv) hrD).run _ s9 σ8 H9 (fun v H10 => ∃ ι10, Ext ι9 H9 ι10 H10 ∧ RepS C st6 ι10 H10 ∧ Rp C ι10 H10 x5 v) I9 ⟨ρ', st9, ι9, hE8.ext e9, hS9, ?_⟩) fun z s10 ⟨y, H10, I10, r10, ι10, e10, hS10, rx10⟩ => ?_
        · rw [he]
          exact fun ι' H' e' s' v r => ⟨ι', e', s', r⟩
        have e710 := e79.trans e10
        have pinC : ∀ p ∈ cp, s10.heap.get? p.1 = some p.2 ∧ H10 p.1 = none := fun p hp => by
          obtain ⟨h1, h2, _⟩ := I10.pin p (List.mem_append_right _ (List.mem_append_left _ hp))
          exact ⟨h1, h2⟩
        refine xs_at (PySem.W.X.s_yield _ _ _ _ _ _ _ _ _ _ rfl rfl fun p => ⟨_, _, _, _, _, _, y, ι10, H10, rfl, r10, rx10, e710, hS10, F.I.call' (ch := fp) I10.os I10.base I10.hok I10.bare fun b hb => ⟨(F.hfp b hb).1.2.2.2.1, (F.hfp b hb).1.2.1, (F.hfp b hb).1.2.2.2.2.1, (F.hfp b hb).1.2.2.2.2.2⟩,
          F.gen _ (I10.pin (a, go) (List.mem_append_left _ (List.mem_singleton.mpr rfl))).1, pinC, Alive.mk fun A2 cp2 s2 hc2 => ?_⟩)
        -- it goes on later
        have I11 := (I10.unpinned.unpinned (pins := [])).weak hl8 hk8
        have I12 : Inv (gxC X (A'.deeper cenv) s4 H4 cenv fp [(a, go)]) [] (wipe σ own) H10 s2 := by
          refine Inv.chg (ch := cp2.map (·.1)) I11 hc2.keep (fun b hb => ?_) (fun b hb => ?_) hc2.os hc2.bare
          · obtain ⟨p, hp, rfl⟩ := List.mem_map.mp hb
            obtain ⟨h1, h2, h3, h4⟩ := hc2.own p hp
            have hgt : s4.heap.objs.size < p.1 := Nat.lt_of_lt_of_le (Nat.lt_trans F.al F.n5) h1
            refine ⟨h2, fun z => ?_, fun z => ?_, .inr (Nat.le_of_lt hgt), fun x c e z => ?_, fun q hq z => ?_⟩
            · have z : p.1 = cenv.locals := z
              rw [F.loc] at z
              exact Nat.ne_of_gt hgt z
            · have z : p.1 ∈ frs X.stack := z
              rcases List.mem_cons.mp (F.I.stkSub _ z) with e | e
              · have h5 := F.I.lt
                rw [← e] at h5
                exact Nat.lt_irrefl _ (Nat.lt_trans h5 hgt)
              · exact F.I.nofs (Nat.le_of_lt hgt) e
            · have := F.cells x c e
              rw [z] at this
              exact Nat.lt_irrefl _ (Nat.lt_trans this hgt)
            · have hq : q ∈ [(a, go)] ++ ([] : List (Addr × Obj)) := hq
              have e1 : q = (a, go) := by simpa using hq
              rw [e1] at z
              have h6 := Nat.lt_of_lt_of_le F.n5 h1
              rw [← z] at h6
              exact Nat.lt_irrefl _ h6
          · obtain ⟨p, hp, rfl⟩ := List.mem_map.mp hb
            exact ⟨_, (hc2.own p hp).2.2.1⟩
        have I13 := Inv.around I12 (A2 := A2.deeper cenv) (show A2.handled = none from hc2.room.hd) (Around.frames_deeper hc2.frames)
        have I14 : Inv (gxC X (A2.deeper cenv) s4 H4 cenv fp [(a, go)]) cp2 (wipe σ own) H10 s2 := I13.pins_of fun p hp => by
          obtain ⟨h1, h2, h3, h4⟩ := hc2.own p hp
          have hgt : s4.heap.objs.size < p.1 := Nat.lt_of_lt_of_le (Nat.lt_trans F.al F.n5) h1
          refine ⟨h3, h2, fun z => ?_, fun z => ?_, h4⟩
          · have z : p.1 = cenv.locals := z
            rw [F.loc] at z
            exact Nat.ne_of_gt hgt z
          · have z : p.1 ∈ frs X.stack := z
            rcases List.mem_cons.mp (F.I.stkSub _ z) with e | e
            · have h5 := F.I.lt
              rw [← e] at h5
              exact Nat.lt_irrefl _ (Nat.lt_trans h5 hgt)
            · exact F.I.nofs (Nat.le_of_lt hgt) e
        refine xs_again rfl (ih os' (i + 1) st6 ι10 H10 A2 cp2 s2 fin hc2.room hc2.frames (fun p hp => (hc2.own p hp).1) I14 (F.T.keep _ _ _ st7 fun b hb o e => ?_) (nfp I10) (hw e710.toTr) hS10 (rest.tail.ext e710))
        refine hc2.keep b o (fun z => ?_) (pin' I10 b hb o e).1
        obtain ⟨p, hp, rfl⟩ := List.mem_map.mp z
        have h1 := (hc2.own p hp).1
        exact Nat.lt_irrefl _ (Nat.lt_of_lt_of_le (Nat.lt_trans (Nat.lt_trans (F.hfp _ hb).2 F.al) F.n5) h1)
end
end CV
/-! CVi: how a generator expression is made. -/
namespace CV
open PySem PySem.Spec PyProof.Rows L2
open PySem.W.X (SegX)

theorem lcS_noexn {g : MG} {t : MT} {e : ME} {ρ : Envr} {x : Str} {st' : Sto} : ∀ {ds : List D} {st : Sto}, lcS g t e ρ ds st = .exn x st' → False
  | [], st, h => by cases h
  | d :: ds, st, h => by
    unfold lcS at h
    cases h1 : g d ρ st with
    | exn a b => simp only [h1] at h; cases h
    | fail => simp only [h1] at h; cases h
    | ok ρ' st1 =>
      cases h2 : t ρ' st1 with
      | exn a b => simp only [h1, h2] at h; cases h
      | fail => simp only [h1, h2] at h; cases h
      | ok b st2 =>
        cases b with
        | false =>
          simp only [h1, h2] at h
          exact lcS_noexn h
        | true =>
          cases h3 : e ρ' st2 with
          | exn a b => simp only [h1, h2, h3] at h; cases h
          | fail => simp only [h1, h2, h3] at h; cases h
          | ok x st3 =>
            cases h4 : lcS g t e ρ ds st3 <;> simp only [h1, h2, h3, h4] at h <;> cases h

section
variable {C : Ct} {st : Sto} {ι : Io} {H : Hp} {tb : Tb} {ps more : Array Value}
theorem mut_ne {P a : Addr} {o : HO} (hP : H P = some (.tbl ps)) (h : H a = some o) (m : ∀ ps, o ≠ .tbl ps) : a ≠ P := fun z => by
  rw [z, hP] at h
  cases h
  exact m _ rfl
theorem mut_tbl {o : HO} (m : Own o) : ∀ ps, o ≠ .tbl ps := fun ps z => by
  rw [z] at m
  exact m
/-- a code object more in a table: all else stays -/
theorem at_tab {P c : Addr} {q : Str} (hP : H P = some (.tbl ps)) (hc : H c = none) : ∀ b o, H b = some o → (∀ ps, o ≠ .tbl ps) → upd (upd H P (.tbl (ps ++ more))) c (LamX.CodeO c q) b = some o := fun b o h t => by
  rw [upd_ne (ne_of_none h hc), upd_ne (mut_ne hP h t)]
  exact h
theorem Ext.tab {P c : Addr} {q : Str} (hP : H P = some (.tbl ps)) (hc : H c = none) : Ext ι H ι (upd (upd H P (.tbl (ps ++ more))) c (LamX.CodeO c q)) :=
  ⟨⟨fun _ _ h => .inl h, fun a o n h t => ⟨at_tab hP hc a o h t, n⟩⟩, rfl, fun a o m h t => at_tab hP hc a o h t⟩
theorem code_ne {c : Addr} {q : Str} : ∀ ps : Array Value, LamX.CodeO c q ≠ .tbl ps := LamX.codeO_ne
/-- a place met again in the longer table is this place, or was there -/
theorem among_more {pos p' : Pos} {c cv : Value} : ∀ l : List Value, TriplesOk l → codeAmong p' (l ++ [rawInt pos.line, rawInt pos.col, c]) = some cv → codeAmong p' l = some cv ∨ (cv = c ∧ p'.line = pos.line ∧ p'.col = pos.col) := fun l h hc => by
  fun_induction TriplesOk l with
  | case1 =>
    simp only [List.nil_append, rawInt, codeAmong] at hc
    split at hc
    · rename_i q
      simp only [Bool.and_eq_true, beq_iff_eq] at q
      exact .inr ⟨(Option.some.inj hc).symm, by omega, by omega⟩
    · cases hc
  | case2 a t b u x rest ih =>
    simp only [List.cons_append, codeAmong] at hc ⊢
    split at hc
    · rename_i q
      rw [if_pos q]
      exact .inl hc
    · rename_i q
      rw [if_neg q]
      exact ih h hc
  | case3 l h1 h2 => exact h.elim
theorem tabs_more {c : Addr} {pos : Pos} (t : Tbs C H) (hm : tb ∈ C.T) (hu : ∀ t' ∈ C.T, t'.P = tb.P → t' = tb) (hP : H tb.P = some (.tbl ps)) (hc : H c = none) : Tbs C (upd (upd H tb.P (.tbl (ps ++ #[rawInt pos.line, rawInt pos.col, .ref c]))) c (LamX.CodeO c (tb.nm pos))) := fun t' ht' => by
  have nPc : tb.P ≠ c := ne_of_none hP hc
  by_cases e : t'.P = tb.P
  · rw [hu t' ht' e]
    obtain ⟨ps', h1, h2, h3⟩ := t tb hm
    rw [hP] at h1
    cases h1
    have eL : (ps ++ #[rawInt pos.line, rawInt pos.col, .ref c]).toList = ps.toList ++ [rawInt pos.line, rawInt pos.col, .ref c] := by simp
    refine ⟨_, by rw [upd_ne nPc, upd_same], by rw [eL]; exact PySem.TriplesOk_snoc _ _ _ _ h2, fun p' cv hcv => ?_⟩
    rw [eL] at hcv
    rcases among_more _ h2 hcv with z | ⟨z, z1, z2⟩
    · obtain ⟨c0, e1, e2⟩ := h3 p' cv z
      exact ⟨c0, e1, at_tab hP hc _ _ e2 code_ne⟩
    · have en : tb.nm p' = tb.nm pos := by
        unfold Tb.nm
        rw [z1, z2]
      exact ⟨c, z, by rw [en]; exact upd_same⟩
  · refine (t t' ht').ext (fun ps' h => ?_) fun b q h => at_tab hP hc _ _ h code_ne
    rw [upd_ne (ne_of_none h hc), upd_ne e]
    exact h
theorem RepS.tab {c : Addr} {q : Str} (S : RepS C st ι H) {P : Addr} (hP : H P = some (.tbl ps)) (hc : H c = none) (ht : Tbs C (upd (upd H P (.tbl (ps ++ more))) c (LamX.CodeO c q))) : RepS C st ι (upd (upd H P (.tbl (ps ++ more))) c (LamX.CodeO c q)) := by
  refine ⟨S.len, S.inj, fun i ob x h1 h2 => (S.at_ i ob x h1 h2).tr (Ext.tab hP hc).toTr fun a o ex h => ?_, ht, fun i a h => ?_, fun a h => ?_, S.ap⟩
  · subst ex
    obtain ⟨o', h3, m⟩ := S.tf i a h2
    rw [h] at h3
    cases h3
    exact at_tab hP hc _ _ h (mut_tbl m)
  · obtain ⟨o, h1, m⟩ := S.tf i a h
    exact ⟨o, at_tab hP hc _ _ h1 (mut_tbl m), m⟩
  · obtain ⟨o, h1, m⟩ := S.th a h
    exact ⟨o, at_tab hP hc _ _ h1 (mut_tbl m), m⟩
end

section
variable {C : Ct} {X : Cx} {k : Nat} {a : Addr} {gi : Nat} {pins : List (Addr × Obj)} {σ : L2.St} {n5 : Nat} {stF : Sto}
variable {tg elt iter : Expr} {ifs : List Expr} {scope : Scope} {gpos : Pos} {it : Addr} {cenv : Env} {s4 : Shared} {H4 : Hp} {fp : List Addr} {go : Obj} {J : It} {tn : Nat → Heap → Prop} {own sl : List Nat} {g : MG} {t : MT} {e : ME} {ρ : Envr}
theorem gx_resume (F : GxFix C X k a gi pins σ n5 tg elt ifs it cenv s4 H4 fp go J tn own sl g t e) {A1 A2 : Around} {σ' : L2.St} {H : Hp} {s1 s2 : Shared} {cp2 : List (Addr × Obj)} (I11 : Inv (gxC X A1 s4 H4 cenv fp [(a, go)]) [] σ' H s1) (hc2 : ResC X k n5 cp2 H s1 s2 A2) :
    Inv (gxC X (A2.deeper cenv) s4 H4 cenv fp [(a, go)]) cp2 σ' H s2 := by
  have far : ∀ p ∈ cp2, p.1 ≠ cenv.locals ∧ p.1 ∉ frs X.stack := fun p hp => by
    have hgt : s4.heap.objs.size < p.1 := Nat.lt_of_lt_of_le (Nat.lt_trans F.al F.n5) (hc2.own p hp).1
    refine ⟨fun z => ?_, fun z => ?_⟩
    · rw [F.loc] at z
      exact Nat.ne_of_gt hgt z
    · rcases List.mem_cons.mp (F.I.stkSub _ z) with e | e
      · have h5 := F.I.lt
        rw [← e] at h5
        exact Nat.lt_irrefl _ (Nat.lt_trans h5 hgt)
      · exact F.I.nofs (Nat.le_of_lt hgt) e
  have I12 : Inv (gxC X A1 s4 H4 cenv fp [(a, go)]) [] σ' H s2 := by
    refine Inv.chg (ch := cp2.map (·.1)) I11 hc2.keep (fun b hb => ?_) (fun b hb => ?_) hc2.os hc2.bare
    · obtain ⟨p, hp, rfl⟩ := List.mem_map.mp hb
      obtain ⟨h1, h2, h3, h4⟩ := hc2.own p hp
      have hgt : s4.heap.objs.size < p.1 := Nat.lt_of_lt_of_le (Nat.lt_trans F.al F.n5) h1
      refine ⟨h2, (far p hp).1, (far p hp).2, .inr (Nat.le_of_lt hgt), fun x c e z => ?_, fun q hq z => ?_⟩
      · have := F.cells x c e
        rw [z] at this
        exact Nat.lt_irrefl _ (Nat.lt_trans this hgt)
      · have hq : q ∈ [(a, go)] ++ ([] : List (Addr × Obj)) := hq
        have e1 : q = (a, go) := by simpa using hq
        rw [e1] at z
        have h6 := Nat.lt_of_lt_of_le F.n5 h1
        rw [← z] at h6
        exact Nat.lt_irrefl _ h6
    · obtain ⟨p, hp, rfl⟩ := List.mem_map.mp hb
      exact ⟨_, (hc2.own p hp).2.2.1⟩
  have I13 := Inv.around I12 (A2 := A2.deeper cenv) (show A2.handled = none from hc2.room.hd) (Around.frames_deeper hc2.frames)
  exact I13.pins_of fun p hp => by
    obtain ⟨h1, h2, h3, h4⟩ := hc2.own p hp
    exact ⟨h3, h2, (far p hp).1, (far p hp).2, h4⟩
theorem tn_resume (F : GxFix C X k a gi pins σ n5 tg elt ifs it cenv s4 H4 fp go J tn own sl g t e) {A2 : Around} {H : Hp} {s1 s2 : Shared} {cp2 : List (Addr × Obj)} {i : Nat} (h : tn i s1.heap) (hc2 : ResC X k n5 cp2 H s1 s2 A2) : tn i s2.heap := F.T.keep _ _ _ h fun b hb o e => by
  refine hc2.keep b o (fun z => ?_) e
  obtain ⟨p, hp, rfl⟩ := List.mem_map.mp z
  have h1 := (hc2.own p hp).1
  exact Nat.lt_irrefl _ (Nat.lt_of_lt_of_le (Nat.lt_trans (Nat.lt_trans (F.hfp _ hb).2 F.al) F.n5) h1)

variable {W : WX} {mi : MI} {c : Addr}
/-- what the parts of a generator expression are to be -/
structure GxParts (C : Ct) (X : Cx) (k : Nat) (W : WX) (tg elt iter : Expr) (ifs : List Expr) (scope : Scope) (own sl : List Nat) (mi : MI) (g : MG) (t : MT) (e : ME) : Prop where
  calm : X.calm = true
  G : GxOk X.N X.env.scope scope own
  hi : SI C X W tg iter mi
  hsl : ∀ i ∈ sl, i ∈ own
  hg : ∀ (s : Shared) (H : Hp) (A' : Around) (cl : List (Str × Addr)) (L : Addr) (code : Value) (fp : List Addr) (pn : List (Addr × Obj)), Room k A' → SG C (gxC X A' s H (genEnv scope cl L code builtinsNs X.env) fp pn) W0 sl tg g
  ht : ∀ (s : Shared) (H : Hp) (A' : Around) (cl : List (Str × Addr)) (L : Addr) (code : Value) (fp : List Addr) (pn : List (Addr × Obj)), Room k A' → PTs (gxC X A' s H (genEnv scope cl L code builtinsNs X.env) fp pn) ifs (rdT C W0 t)
  he : ∀ (s : Shared) (H : Hp) (A' : Around) (cl : List (Str × Addr)) (L : Addr) (code : Value) (fp : List Addr) (pn : List (Addr × Obj)), Room k A' → SE C (gxC X A' s H (genEnv scope cl L code builtinsNs X.env) fp pn) W0 elt e
  hs : ∀ v, genFold iter X.env v = pure v
/-- the table of the code object that runs -/
structure GxTab (C : Ct) (X : Cx) (c : Addr) (tb : Tb) : Prop where
  TB : LamX.TabB X.base X.mg c tb.P
  code : X.env.code = .ref c
  mem : tb ∈ C.T
  uq : ∀ t' ∈ C.T, t'.P = tb.P → t' = tb
  qual : X.env.qual = tb.q
theorem gx_new {ρ : Envr} {st : Sto} {ι : Io} {H : Hp} {s : Shared} {β : Type} {Kf : List (D × Sto) → Sto → R β} {okP : β → Sto → Io → Hp → Prop} {k0 : Nat} {Q' : Value → Shared → Prop} {tb : Tb} (hr : Room k0 X.A) (GT : GxTab C X c tb) (hgp : tb.lam.contains (gpos.line, gpos.col) = false) (Gp : GxParts C X k W tg elt iter ifs scope own sl mi g t e)
    (I : Inv X pins σ H s) (hE : EnvR C ι H ρ σ) (hS : RepS C st ι H) (hP : PostR C ι H okP (exW C.K W σ) ((mi ρ st).bd fun ds st => (lcS g t e (wipeE ρ own) ds st).bd Kf))
    (hQ : ∀ (s5 : Shared) (st5 : Sto) (ι5 : Io) (H5 : Hp) (a gi : Nat) (os : List (D × Sto)) (stF : Sto) (gs : GenState), Ext ι H ι5 H5 → RepS C st5 ι5 H5 → Inv X pins σ H5 s5 → s5.heap.IsGen a gi → s5.gens[gi]? = some gs → a < s5.heap.objs.size → Alive C X k a gi pins σ s5.heap.objs.size stF os ι5 H5 s5 gs →
      PostR C ι5 H5 okP (exW C.K W σ) (Kf os stF) → Q' (.ref a) s5) :
    wpAny (model X.prog X.w) X.A (eval (.GeneratorExp elt [⟨tg, iter, ifs, 0⟩] scope gpos) X.env) Q' X.xe s := by
  have hfree := Gp.G.has I.ok
  refine wpAny_GeneratorExp_make Gp.G.co (closure_ok hfree) Gp.G.cell Gp.G.dot Gp.G.kind (by have := hr.dp; omega) ?_ Gp.hs
  refine thn (Gp.hi.run pins s σ H (fun J H1 => ∃ ι1 st1 ds, mi ρ st = .ok ds st1 ∧ Ext ι H ι1 H1 ∧ RepS C st1 ι1 H1 ∧ Wk C ι1 H1 J ds) I ⟨ρ, st, ι, hE, hS, ?_⟩) fun xv s1 hx => thn hx fun itv s2 h2 => ?_
  · cases q : mi ρ st with
    | ok ds st1 => exact fun ι' H' e' s' J w => ⟨ι', st1, ds, rfl, e', s', w⟩
    | exn x st1 =>
      rw [q] at hP
      exact hP
    | fail =>
      rw [q] at hP
      exact hP
  obtain ⟨it, fp, tn, J, H2, rfl, I2, T, st2, f2, ι1, st1, ds, q1, e1, hS1, wk⟩ := h2
  rw [q1] at hP
  have hP : PostR C ι H okP (exW C.K W σ) ((lcS g t e (wipeE ρ own) ds st1).bd Kf) := hP
  have hP := hP.ext e1
  cases q2 : lcS g t e (wipeE ρ own) ds st1 with
  | exn x st1 => exact (lcS_noexn q2).elim
  | fail =>
    rw [q2] at hP
    exact hP.elim
  | ok os stF =>
    rw [q2] at hP
    have hP : PostR C ι1 H2 okP (exW C.K W σ) (Kf os stF) := hP
    obtain ⟨ps, hPt, ht, htab⟩ := hS1.tabs tb GT.mem
    have hPs : s2.heap.get? tb.P = some { cls := .none, data := .fields ps } := I2.hok tb.P _ hPt
    have cd : PySem.W.CodeHd s2.heap c tb.P := GT.TB.code.keeps I2.bk
    have fin : ∀ (code : Value) (h3 : Heap) (tk : Nat) (H4 : Hp), Heap.ExtBut tb.P s2.heap h3 → s2.heap.objs.size ≤ h3.objs.size → Inv X pins σ H4 { s2 with heap := h3, toks := tk } → Ext ι1 H2 ι1 H4 → RepS C st1 ι1 H4 → (∀ b, b < s2.heap.objs.size → H2 b = none → H4 b = none) →
        wpAny (model X.prog X.w) X.A (builtinsFor X.env.globals X.env.builtins) (fun bi s₄ => ∀ h', h'.Ns s₄.heap.objs.size (fun y => if y = (".0" : Str) then some (.ref it) else none) → Heap.SameBut s₄.heap.objs.size (s₄.heap.push { cls := .type "frame", data := .dict #[] }) h' →
          Q' (.ref h'.objs.size) { s₄ with
            gens := s₄.gens.push (.fresh (.compStart (.GeneratorExp elt [⟨tg, iter, ifs, 0⟩] scope gpos) 0 (.ref it) .none (genEnv scope (cloFrom X.env.cells scope.names []) s₄.heap.objs.size code bi X.env))),
            toks := s₄.toks + 1 + 1 + 1,
            heap := h'.push { cls := .type "generator", data := .fields #[.int s₄.gens.size 0, .str "<genexpr>" (s₄.toks + 1), .str (X.env.qual ++ "<genexpr>") (s₄.toks + 1 + 1)] } }) X.xe { s2 with heap := h3, toks := tk } := by
      intro code h3 tk H4 hx hsz I4 e4 hS4 hn4
      obtain ⟨bm, ob, b1, b2, b3, b4, b5, b6, b7, b8⟩ := GT.TB.bm
      have keep3 : ∀ b u, b ≠ tb.P → s2.heap.get? b = some u → h3.get? b = some u := fun b u hb e => hx b u hb e
      refine wpAny_builtinsFor (m := X.mg) (by rw [I2.ok.glob]; exact (I2.mod.glob.keeps I2.bk).extBut hx GT.TB.gP) b1 b2 (keep3 _ _ b4 (I2.bk _ _ b5)) b6 b7 b8 ?_
      intro h' hn' hs'
      generalize hs4 : ({ s2 with heap := h3, toks := tk } : Shared) = s4 at I4 hn' hs' ⊢
      have hh4 : s4.heap = h3 := by rw [← hs4]
      have sz5 : h'.objs.size = s4.heap.objs.size + 1 := by rw [hs'.1, Heap.size_push]
      have keep' : ∀ b o, s4.heap.get? b = some o → h'.get? b = some o := fun b o e => hs'.extBut b o (Nat.ne_of_lt (Heap.lt_size e)) (Heap.get?_push_of_some _ e)
      generalize hgo : ({ cls := .type "generator", data := .fields #[.int s4.gens.size 0, .str "<genexpr>" (s4.toks + 1), .str (X.env.qual ++ "<genexpr>") (s4.toks + 1 + 1)] } : Obj) = go
      have hgen : ∀ h : Heap, h.get? h'.objs.size = some go → h.IsGen h'.objs.size s4.gens.size := fun h e => ⟨go, _, _, e, by rw [← hgo], by rw [← hgo], by rw [← hgo]⟩
      have gnf : go.isFreed = false := by rw [← hgo]; rfl
      have gcell : ∀ v, go.data ≠ .cell v := fun v z => by
        rw [← hgo] at z
        cases z
      have hfp4 : ∀ b ∈ fp, FpOk X pins H4 b ∧ b < s4.heap.objs.size := fun b hb => by
        obtain ⟨o, e, _⟩ := T.obj _ _ st2 b hb
        have hlt := Heap.lt_size e
        exact ⟨⟨hn4 b hlt (f2 b hb).1, (f2 b hb).2⟩, by rw [hh4]; exact Nat.lt_of_lt_of_le hlt hsz⟩
      have keep5 : ∀ b o, s4.heap.get? b = some o → (h'.push go).get? b = some o := fun b o e => Heap.get?_push_of_some _ (keep' b o e)
      have hgp : (h'.push go).get? h'.objs.size = some go := Heap.get?_push_size _ gnf
      have bare5 : AllBare (s4.gens.push (.fresh (.compStart (.GeneratorExp elt [⟨tg, iter, ifs, 0⟩] scope gpos) 0 (.ref it) .none (genEnv scope (cloFrom X.env.cells scope.names []) s4.heap.objs.size code builtinsNs X.env)))) := AllBare.push I4.bare rfl
      have size5 : (h'.push go).objs.size = s4.heap.objs.size + 1 + 1 := by rw [Heap.size_push, sz5]
      have I5 : Inv X pins σ H4 { s4 with gens := s4.gens.push (.fresh (.compStart (.GeneratorExp elt [⟨tg, iter, ifs, 0⟩] scope gpos) 0 (.ref it) .none (genEnv scope (cloFrom X.env.cells scope.names []) s4.heap.objs.size code builtinsNs X.env))), toks := s4.toks + 1 + 1 + 1, heap := h'.push go } :=
        I4.call' (ch := []) rfl (Un.kept keep5) (I4.hok.kept keep5) bare5 fun b hb => absurd hb (by simp)
      have st5 : tn 0 (h'.push go) := T.keep _ _ _ st2 fun b hb o e => keep5 b o (by
        rw [hh4]
        exact keep3 b o (fun z => by have h9 := (f2 b hb).1; rw [z, hPt] at h9; cases h9) e)
      have J5 := gx_start (gs := s4.gens.push (.fresh (.compStart (.GeneratorExp elt [⟨tg, iter, ifs, 0⟩] scope gpos) 0 (.ref it) .none (genEnv scope (cloFrom X.env.cells scope.names []) s4.heap.objs.size code builtinsNs X.env)))) (tk := s4.toks + 1 + 1 + 1)
        (A' := X.A.deeper (genEnv scope (cloFrom X.env.cells scope.names []) s4.heap.objs.size code builtinsNs X.env)) (pn := [(h'.objs.size, go)]) I4 Gp.G (show X.A.handled = none from hr.hd) (Around.frames_deeper I4.ok.frames) hfp4 (hn'.push go) keep5 bare5
        (fun p hp => by
          rw [List.mem_singleton.mp hp]
          exact ⟨hgp, by rw [sz5]; exact Nat.lt_succ_self _, gcell⟩)
      have cm : ∀ {y c}, (cloFrom X.env.cells scope.names []).lookup y = some c → c < s4.heap.objs.size := fun {y c} e => by
        rcases cloFrom_mem (PySem.mem_of_lookup e) with hm | ⟨h1, h2⟩
        · cases hm
        · obtain ⟨c1, hc⟩ := hfree _ h1 rfl
          have hc : X.env.cells.lookup y = some c1 := hc
          have e2 : c = c1 := by
            rw [h2, hc] <;> rfl
          rw [e2]
          obtain ⟨w, z⟩ := I4.cell _ _ hc
          exact z.lt
      have F : GxFix C X k h'.objs.size s4.gens.size pins σ (h'.push go).objs.size tg elt ifs it (genEnv scope (cloFrom X.env.cells scope.names []) s4.heap.objs.size code builtinsNs X.env) s4 H4 fp go J tn own sl g t e :=
        ⟨Gp.calm, I4, hfp4, T, Gp.hsl, fun A'' hr'' => Gp.hg _ _ _ _ _ _ _ _ hr'', fun A'' hr'' => Gp.ht _ _ _ _ _ _ _ _ hr'', fun A'' hr'' => Gp.he _ _ _ _ _ _ _ _ hr'', rfl, rfl, fun y c e => cm e, Gp.G.co, by rw [sz5]; exact Nat.lt_succ_self _, by rw [Heap.size_push]; exact Nat.lt_succ_self _, hgen⟩
      refine hQ _ st1 ι1 H4 h'.objs.size s4.gens.size os stF _ (e1.trans e4) hS4 I5 (hgen _ hgp) (Array.getElem?_push_size ..) (by show _ < (h'.push go).objs.size; rw [Heap.size_push]; exact Nat.lt_succ_self _) ?_ (hP.ext e4)
      refine Alive.mk fun A2 cp2 s2 hc2 => ?_
      have I14 := gx_resume F J5 hc2
      have loop := gx_turn (iter := iter) (scope := scope) (gpos := gpos) F ds os 0 st1 ι1 H4 A2 cp2 s2 q2 hc2.room hc2.frames (fun p hp => (hc2.own p hp).1) I14 (tn_resume F st5 hc2) (fun b hb => (hfp4 b hb).1.1) ((hE.ext (e1.trans e4)).wipe own) hS4 (wk.rest.ext e4)
      show SegX _ A2 _ ((compStart (.GeneratorExp elt [⟨tg, iter, ifs, 0⟩] scope gpos) 0 (.ref it) .none _).onRaise (leaving _)) [] s2 _
      unfold compStart
      rw [Sem.onRaise_eq_wrap]
      show SegX _ A2 _ ((ask >>= _).wrap _ _ _ _) [] s2 _
      refine xs_bindw (wpAny_askSetting ?_)
      split
      · exact xs_again rfl loop
      · first
          | exact xs_bindw (wpAny_rule (xs_bindw (wpAny_standAt (xs_bindw (T.self _ 0 s2 _ _ (tn_resume F st5 hc2) (xs_again rfl loop))))))
          | (refine xs_bindw (wpAny_rule ?_); show SegX _ A2 _ ((standAt iter.pos >>= _).wrap _ _ _ _) [] s2 _; exact xs_bindw (wpAny_standAt (xs_bindw (T.self _ 0 s2 _ _ (tn_resume F st5 hc2) (xs_again rfl loop)))))
    refine ⟨I2.nolimit, ?_⟩
    cases hf : codeAmong gpos ps.toList with
    | none =>
      refine wpAny_genexprCodeX GT.code (cd.code hPs ht) (cd.tab hPs) hf fun c' h' tk hx hge hlt hco' hrec htab' _ => ?_
      obtain ⟨c2, oc, vs, t, e2, hoc, hd, hv⟩ := hrec
      cases e2
      have nC : H2 c' = none := I2.hok.fresh hge
      have en : X.env.qual ++ "<genexpr>" = tb.nm gpos := by
        unfold Tb.nm
        rw [hgp, if_neg Bool.false_ne_true, GT.qual]
      rw [en] at hv
      have I4 := LamX.inv_table (t' := tk) I2 hPt hx htab'.2 hge ⟨oc, vs, t, hoc, hd, hv⟩
      have hT := tabs_more (pos := gpos) hS1.tabs GT.mem GT.uq hPt nC
      exact fin _ h' tk _ hx (Nat.le_trans hge (Nat.le_of_lt hlt)) I4 (Ext.tab hPt nC) (hS1.tab hPt nC hT) fun b hb hn => by
        rw [upd_ne (Nat.ne_of_lt (Nat.lt_of_lt_of_le hb hge)), upd_ne (fun z => by rw [z, hPt] at hn; cases hn)]
        exact hn
    | some cv =>
      refine wpAny_genexprCode_hit GT.code (cd.code hPs ht) hf ?_
      exact fin cv s2.heap s2.toks H2 (Heap.ExtBut.refl _ _) (Nat.le_refl _) I2 (Ext.refl _ _) hS1 fun _ _ h => h
end
end CV
/-! CVj: walking a generator expression to its end; sorted. -/
namespace CV
open PySem PySem.Spec PyProof.Rows L2
open PySem.W.X (SegX)
open PySem.W (EachIs alike alikeAll dataLe AllAlike Sortable)

/-! ### a stable sort, by putting in -/
def insBy {α : Type} (le : α → α → Bool) (x : α) : List α → List α
  | [] => [x]
  | b :: r => if le x b then x :: b :: r else b :: insBy le x r
def sortBy {α : Type} (le : α → α → Bool) : List α → List α
  | [] => []
  | x :: r => insBy le x (sortBy le r)
theorem insBy_app {α : Type} {le : α → α → Bool} {x : α} : ∀ {l1 l2 : List α}, (∀ b ∈ l1, le x b = false) → (∀ b, l2.head? = some b → le x b = true) → insBy le x (l1 ++ l2) = l1 ++ x :: l2
  | [], [], _, _ => rfl
  | [], b :: r, _, h => by
    show insBy le x (b :: r) = x :: b :: r
    unfold insBy
    rw [if_pos (h b rfl)]
  | b :: l1, l2, h1, h2 => by
    show insBy le x (b :: (l1 ++ l2)) = b :: (l1 ++ x :: l2)
    unfold insBy
    rw [if_neg (by rw [h1 b List.mem_cons_self]; exact Bool.false_ne_true), insBy_app (fun c hc => h1 c (List.mem_cons_of_mem _ hc)) h2]
theorem sortBy_eq {α : Type} {le : α → α → Bool} (t : PySem.W.TotalLe le) : ∀ l : List α, sortBy le l = l.mergeSort le
  | [] => by simp [sortBy]
  | x :: r => by
    have tot : ∀ a b, (le a b || le b a) = true := fun a b => by
      rcases t.total a b with h | h <;> simp [h]
    obtain ⟨l1, l2, h1, h2, h3⟩ := List.mergeSort_cons (le := le) t.trans tot x r
    unfold sortBy
    rw [sortBy_eq t r, h2, h1]
    refine insBy_app (fun b hb => by simpa using h3 b hb) fun b hb => ?_
    have hp := List.pairwise_mergeSort (le := le) t.trans tot (x :: r)
    rw [h1] at hp
    have hp2 := (List.pairwise_append.mp hp).2.1
    cases l2 with
    | nil => cases hb
    | cons c l2 =>
      cases hb
      exact (List.pairwise_cons.mp hp2).1 _ List.mem_cons_self
/-- the order of data -/
def leD (a b : D) : Bool := dataLe false D.py a b
def sortD (l : List D) : List D := sortBy leD l
theorem sortD_eq (l : List D) : sortD l = l.mergeSort (dataLe false D.py) := sortBy_eq (le := dataLe false D.py) (show PySem.W.TotalLe (dataLe false D.py) from PySem.W.sortLe_total _ _ _) l
def tupNE : D → Bool
  | .tup (_ :: _) => true
  | _ => false
def noTup : D → Bool
  | .clo _ => false
  | .non => false
  | .tup _ => false
  | .obj _ => false
  | _ => true
def sortOk (l : List D) : Bool := (l.all (D.lay 12)) && ((l.all fun d => l.all fun d' => alike d.py d'.py) && (l.all tupNE || l.all noTup))
theorem sortOk_at {l : List D} (h : sortOk l = true) : (∀ d ∈ l, D.lay 12 d = true) ∧ AllAlike (l.map D.py) ∧ Sortable (l.map D.py) := by
  unfold sortOk at h
  simp only [Bool.and_eq_true, Bool.or_eq_true, List.all_eq_true] at h
  obtain ⟨h1, h2, h3⟩ := h
  refine ⟨h1, fun d hd d' hd' => ?_, ?_⟩
  · obtain ⟨a, ha, rfl⟩ := List.mem_map.mp hd
    obtain ⟨b, hb, rfl⟩ := List.mem_map.mp hd'
    exact h2 a ha b hb
  · rcases h3 with h3 | h3
    · refine .inl fun d hd => ?_
      obtain ⟨a, ha, rfl⟩ := List.mem_map.mp hd
      have q := h3 a ha
      cases a <;> try (simp [tupNE] at q; done)
      rename_i xs
      cases xs with
      | nil => simp [tupNE] at q
      | cons x r => exact ⟨x.py, D.pys r, by rw [D.py, D.pys]⟩
    · refine .inr fun d hd => ?_
      obtain ⟨a, ha, rfl⟩ := List.mem_map.mp hd
      have q := h3 a ha
      cases a <;> try (simp [noTup] at q; done)
      all_goals exact ⟨(fun z => by cases z), (fun xs z => by cases z)⟩

mutual
theorem reads_in {h : Heap} : ∀ {v : Value} {d : PyData} {as : List Addr}, Reads h v d as → ∀ a ∈ as, ∃ o, h.get? a = some o
  | _, _, _, .none, a, m => by simp at m
  | _, _, _, .bool _, a, m => by simp at m
  | _, _, _, .int _ _, a, m => by simp at m
  | _, _, _, .str _ _, a, m => by simp at m
  | _, _, _, .list h1 _ _ r, a, m => by
    rcases List.mem_cons.mp m with e | m
    · rw [e]
      exact ⟨_, h1⟩
    · exact readsAll_in r a m
  | _, _, _, .tuple _ _ _ r, a, m => readsAll_in r a m
  | _, _, _, .dict h1 _ _ r1 r2, a, m => by
    rcases List.mem_cons.mp m with e | m
    · rw [e]
      exact ⟨_, h1⟩
    · rcases List.mem_append.mp m with m | m
      · exact readsAll_in r1 a m
      · exact readsAll_in r2 a m
theorem readsAll_in {h : Heap} : ∀ {v : List Value} {d : List PyData} {as : List Addr}, ReadsAll h v d as → ∀ a ∈ as, ∃ o, h.get? a = some o
  | _, _, _, .nil, a, m => by simp at m
  | _, _, _, .cons r1 r2, a, m => by
    rcases List.mem_append.mp m with m | m
    · exact reads_in r1 a m
    · exact readsAll_in r2 a m
end
/-! ### the rest of sorted -/
section
variable {C : Ct} {X : Cx} {pins : List (Addr × Obj)} {σ : L2.St} {st : Sto} {ι : Io} {H : Hp} {s : Shared}
theorem each_mk {ds : List D} {ys : List V} {its : List Value} (r : Rps C ι H ds ys) (v : Vals ys its) : EachIs (fun u d => ∃ y, RelV y u ∧ Rp C ι H d y) its ds := by
  induction ds generalizing ys its with
  | nil =>
    cases r
    cases v
    exact .nil
  | cons d ds ih =>
    cases r with
    | cons r1 r2 =>
      cases v with
      | cons v1 v2 => exact .cons ⟨_, v1, r1⟩ (ih r2 v2)
theorem each_get {ds : List D} {its : List Value} (h : EachIs (fun u d => ∃ y, RelV y u ∧ Rp C ι H d y) its ds) : ∃ ys, Vals ys its ∧ Rps C ι H ds ys := by
  induction h with
  | nil => exact ⟨[], .nil, .nil⟩
  | cons h1 _ ih =>
    obtain ⟨y, r1, p1⟩ := h1
    obtain ⟨ys, r2, p2⟩ := ih
    exact ⟨y :: ys, .cons r1 r2, .cons p1 p2⟩
theorem each_reads (hk : X.K = C.K) (I : Inv X pins σ H s) {ds : List D} {ys : List V} {its : List Value} (r : Rps C ι H ds ys) (v : Vals ys its) (hl : ∀ d ∈ ds, D.lay 12 d = true) : EachIs (fun u d => ∃ as, Reads s.heap u (D.py d) as) its ds := by
  induction ds generalizing ys its with
  | nil =>
    cases r
    cases v
    exact .nil
  | cons d ds ih =>
    cases r with
    | cons r1 r2 =>
      cases v with
      | cons v1 v2 =>
        refine .cons (Dp.reads I _ _ _ ?_ v1) (ih r2 v2 fun d hd => hl d (List.mem_cons_of_mem _ hd))
        rw [hk]
        exact Rp.dp (hl d List.mem_cons_self) r1
/-- a list of these is made and sorted -/
theorem sort_run {A : Around} {E : Value → Shared → Prop} {ds : List D} {ys : List V} {its : List Value} {Q : VK} {exP : Str → Option Addr → Hp → Prop} {R : Value → Shared → Prop} (hk : X.K = C.K) (I : Inv X pins σ H s) (hS : RepS C st ι H) (r : Rps C ι H ds ys) (v : Vals ys its) (hok : sortOk ds = true) (hf : fits ds.length = true)
    (hu : A.units + 100 < cLine) (hP : PostR C ι H (okV C Q) exP (.ok (.lst (sortD ds)) st)) (hR : ∀ u s', EP X pins σ Q u s' → R u s') :
    wpAny (model X.prog X.w) A (do let l ← newList its; let _ ← holding [l] (call (.builtin "list.sort") [l] []); ret l) (fun fin s' => ∃ u, fin = .done (.ret u) ∧ R u s') E s := by
  obtain ⟨h1, h2, h3⟩ := sortOk_at hok
  have l1 := r.length
  have l2 := v.length
  have hL := fits_line hf
  have hLi : its.length ≤ sizeLine := by omega
  refine wpAny_bind (wpAny_newList ?_ hLi)
  have ho : (s.heap.push (seqObj "list" its.toArray 0)).get? s.heap.objs.size = some (seqObj "list" its.toArray 0) := Heap.get?_push_size _ rfl
  have ip : Inv X pins σ H { s with heap := s.heap.push (seqObj "list" its.toArray 0) } := I.kept (t' := s.toks) fun b o e => Heap.get?_push_of_some _ e
  have far : ∀ (u : Value) (d : PyData) (as : List Addr), Reads s.heap u d as → s.heap.objs.size ∉ as := fun u d as r hm => let ⟨_, q⟩ := reads_in r _ hm; absurd (Heap.lt_size q) (Nat.lt_irrefl _)
  have er : EachIs (fun u d => ∃ as, Reads (s.heap.push (seqObj "list" its.toArray 0)) u (D.py d) as ∧ s.heap.objs.size ∉ as) its ds := (each_reads hk I r v h1).mono fun u d ⟨as, q⟩ => ⟨as, PyProof.Rows.Reads.keeps (fun b o e => Heap.get?_push_of_some _ e) q, far _ _ _ q⟩
  refine wpAny_bind (wpAny_holding (PySem.W.list_sort_data (R := fun u d => ∃ y, RelV y u ∧ Rp C ι H d y) (enc := D.py) (bs := ds) ho (each_mk r v) er h2 h3 hL (fun b hb => ?_) fun out ho1 eo => ?_))
  · have := (lay_can (h1 b hb)).2
    omega
  · refine wpAny_pure ⟨_, rfl, hR _ _ ?_⟩
    rw [← sortD_eq] at eo
    obtain ⟨ys', v', r'⟩ := each_get eo
    obtain ⟨ep, he⟩ := sortedHeap_at (out := out.toArray) ho
    have l3 := v'.length
    have kp : ∀ b u, s.heap.get? b = some u → (sortedHeap (s.heap.push (seqObj "list" its.toArray 0)) s.heap.objs.size its out.toArray).get? b = some u := fun b u e => by
      have hlt := Heap.lt_size e
      rw [sortedHeap_old (Nat.ne_of_lt hlt) (by rw [size_push']; exact Nat.lt_succ_of_lt hlt)]
      exact Heap.get?_push_of_some _ e
    have hn : H s.heap.objs.size = none := I.hok.fresh (Nat.le_refl _)
    exact ⟨.ref s.heap.objs.size, upd H s.heap.objs.size (.lst ys'), I.laid (t' := s.toks) kp (Nat.le_refl _) ⟨by omega, _, ep, v', he⟩, rfl, new_lst hS r' hP _ hn⟩
end
end CV
/-! CVk: collecting a generator expression; sorted of one. -/
namespace CV
open PySem PySem.Spec PyProof.Rows L2
open PySem.W.X (SegX)

section
variable {C : Ct} {X : Cx} {k : Nat} {a : Addr} {gi : Nat} {pins : List (Addr × Obj)} {σ : L2.St} {n5 : Nat} {stF : Sto} {A : Around}
/-- the loop that puts all of it into the list S -/
theorem ext_loop {S : Addr} {res : Value} {R : Result → Shared → Prop} (hr : Room (k + 3) A) (hf : A.frames = some X.stack) (hS5 : n5 ≤ S) (haS : a < S) (hSC : S ≠ cStatics) (hSF : ∀ H', H' S = none → FpOk X pins H' S) :
    ∀ (os : List (D × Sto)) (ι : Io) (H : Hp) (s1 s : Shared) (gs : GenState) (acc : Array Value) (c : Nat) (ds : List D) (ys : List V), Alive C X k a gi pins σ n5 stF os ι H s1 gs → (∀ b o, b ≠ S → s1.heap.get? b = some o → s.heap.get? b = some o) → s.os = s1.os → AllBare s.gens →
      s.heap.IsGen a gi → s.gens[gi]? = some gs → s.heap.get? S = some (lstObj acc c) → H S = none → Inv X pins σ H s → Vals ys acc.toList → Rps C ι H ds ys → ds.length + os.length ≤ sizeLine →
      (∀ ι' H' s' acc' c' ys', Ext ι H ι' H' → RepS C stF ι' H' → Inv X pins σ H' s' → s'.heap.get? S = some (lstObj acc' c') → H' S = none → Vals ys' acc'.toList → Rps C ι' H' (ds ++ os.map (·.1)) ys' → R (.ok (.ret res)) s') →
      codeAny (model X.prog X.w) A (.builtin "list.extend.loop" ⟨[.ref S, .ref a, res], []⟩) R s := by
  intro os
  have room : Room (k + 1) A.in1.in1 := Room.in1 (Room.in1 hr)
  induction os with
  | nil =>
    intro ι H s1 s gs acc c ds ys hA hkp hos hb hg hgs hS hHS I v r hl fin
    refine codeAny_builtin F.entry_extend_loop ?_
    rw [Around.under_plainId F.plain_extend_loop _]
    show wpAny _ A.in1 (pyNext (.ref a) >>= _) _ _ s
    have hgo := hA.go A.in1.in1 [(S, lstObj acc c)] (s.setGen gi .running) ⟨room, hf, fun p hp => by
      rw [List.mem_singleton.mp hp]
      exact ⟨hS5, hHS, hS, fun v z => by cases z⟩, fun b o hb e => hkp b o (by simpa using hb) e, hos, allBare_setGen hb rfl⟩
    refine wpAny_bind (next1 (A := A.in1) hr.hd I.nolimit hr.depth hg hgs hgo fun e s2 hq hp => ?_)
    obtain ⟨rfl, ι2, H2, e2, hS2, I2, kp2⟩ := hp
    refine ⟨rfl, fun h' hk => ?_⟩
    obtain ⟨k1, k2⟩ := kp2 (S, lstObj acc c) (List.mem_singleton.mpr rfl)
    have I3 : Inv X pins σ H2 { s2.setGen gi .finished with heap := h' } := CV.Inv.chg I2 (ch := []) (fun b o _ e => hk b o e) (fun b hb => absurd hb (by simp)) (fun b hb => absurd hb (by simp)) rfl (allBare_setGen I2.bare rfl)
    refine wpAny_pure (fin ι2 H2 _ acc c ys e2 hS2 I3 (hk _ _ k1) k2 v ?_)
    rw [List.map_nil, List.append_nil]
    exact r.ext e2
  | cons o os ih =>
    obtain ⟨x, st2⟩ := o
    intro ι H s1 s gs acc c ds ys hA hkp hos hb hg hgs hS hHS I v r hl fin
    have hgl : gi < s.gens.size := (Array.getElem?_eq_some_iff.mp hgs).1
    refine codeAny_builtin F.entry_extend_loop ?_
    rw [Around.under_plainId F.plain_extend_loop _]
    show wpAny _ A.in1 (pyNext (.ref a) >>= _) _ _ s
    have hgo := hA.go A.in1.in1 [(S, lstObj acc c)] (s.setGen gi .running) ⟨room, hf, fun p hp => by
      rw [List.mem_singleton.mp hp]
      exact ⟨hS5, hHS, hS, fun v z => by cases z⟩, fun b o hb e => hkp b o (by simpa using hb) e, hos, allBare_setGen hb rfl⟩
    refine wpAny_bind (GenW.wpAny_gsz (n := gi + 1) hgl (next1 (A := A.in1) hr.hd I.nolimit hr.depth hg hgs hgo fun e s2 hq hp => ?_))
    obtain ⟨u, l, kk, c2, p2, fs2, y, ι2, H2, rfl, ry, px, e2, hS2, I2, hg2, kp2, hA2⟩ := hp
    obtain ⟨k1, k2⟩ := kp2 (S, lstObj acc c) (List.mem_singleton.mpr rfl)
    have k1 : s2.heap.get? S = some (lstObj acc c) := k1
    intro hsz
    have l1 := r.length
    have l2 := v.length
    have hacc : acc.size + (os.length + 1) ≤ sizeLine := by
      have e1 : acc.toList.length = acc.size := by simp
      have hl : ds.length + (os.length + 1) ≤ sizeLine := hl
      omega
    show wpAny _ A.in1 (updateSeq S (·.push u) >>= _) _ _ _
    refine wpAny_bind ?_
    refine wpAny_updateSeq (s := s2.setGen gi _) k1 rfl (wpAny_pure ⟨plainId_quiet F.plain_extend_loop _, ?_⟩) (by omega) (by show (acc.push u).size ≤ sizeLine + 1; rw [Array.size_push]; omega)
    have hbare : GenState.bare (.suspended kk l c2 p2 fs2 (false || fs2.any Frame.guarded)) = true := End.bare_of_quiet hq
    have keep3 : ∀ b o, b ≠ S → s2.heap.get? b = some o → (s2.heap.update S (Obj.mapSeq (·.push u))).get? b = some o := fun b o hbS e => (Heap.get?_update_other _ _ (Ne.symm hbS)).trans e
    have hS3 := Heap.get?_update_self (Obj.mapSeq (·.push u)) k1 rfl
    have hsz1 : gi < s2.gens.size := by
      have q : (s2.setGen gi (End.susp u false l kk c2 p2 fs2).genState).gens.size = s2.gens.size := GenW.setGen_size _ _ _
      have hsz' : gi + 1 ≤ (s2.setGen gi (End.susp u false l kk c2 p2 fs2).genState).gens.size := hsz
      omega
    have I3 : Inv X pins σ H2 { s2.setGen gi (.suspended kk l c2 p2 fs2 (false || fs2.any Frame.guarded)) with heap := s2.heap.update S (Obj.mapSeq (·.push u)) } :=
      CV.Inv.chg I2 (ch := [S]) (fun b o hb e => keep3 b o (by simpa using hb) e) (fun b hb => by rw [List.mem_singleton.mp hb]; exact hSF H2 k2) (fun b hb => by rw [List.mem_singleton.mp hb]; exact ⟨_, hS3⟩) rfl (allBare_setGen I2.bare hbare)
    refine ih ι2 H2 s2 _ _ (acc.push u) _ (ds ++ [x]) (ys ++ [y]) hA2 keep3 rfl (allBare_setGen I2.bare hbare) ?_ (setGen_at hsz1) hS3 k2 I3 ?_ ((r.ext e2).append (.cons px .nil)) ?_ fun ι' H' s' acc' c' ys' e' hS' I' hg' hH' v' r' => fin ι' H' s' acc' c' ys' (e2.trans e') hS' I' hg' hH' v' ?_
    · obtain ⟨o, nm, qn, ho, r⟩ := hg2
      exact ⟨o, nm, qn, keep3 a o (Nat.ne_of_lt haS) ho, r⟩
    · rw [Array.toList_push]
      exact v.append (.cons ry .nil)
    · have hl : ds.length + (os.length + 1) ≤ sizeLine := hl
      rw [List.length_append, List.length_singleton]
      omega
    · rw [List.append_assoc] at r'
      exact r'
/-- all of a generator expression, collected -/
theorem collect_alive {s : Shared} {ι : Io} {H : Hp} {gs : GenState} {os : List (D × Sto)} {Q : List Value → Shared → Prop} {E : Value → Shared → Prop} (hr : Room (k + 4) A) (hf : A.frames = some X.stack) (hn5 : n5 = s.heap.objs.size) (hA : Alive C X k a gi pins σ n5 stF os ι H s gs) (hg : s.heap.IsGen a gi) (hgs : s.gens[gi]? = some gs) (ha : a < s.heap.objs.size)
    (I : Inv X pins σ H s) (hl : os.length ≤ sizeLine) (fin : ∀ ι' H' s' its ys, Ext ι H ι' H' → RepS C stF ι' H' → Inv X pins σ H' s' → Vals ys its → Rps C ι' H' (os.map (·.1)) ys → Q its s') : wpAny (model X.prog X.w) A (collect (.ref a)) Q E s := by
  have hSa : s.heap.objs.size ≠ a := Nat.ne_of_gt ha
  have hcl : cStatics < s.heap.objs.size := let ⟨_, hn, _⟩ := I.nolimit; hn.lt
  unfold collect
  refine wpAny_bind (wpAny_runValue (codeAny_builtin F.entry_proto_collect ?_))
  rw [Around.under_plainId F.plain_proto_collect _]
  show wpAny _ A.in1 (newList [] >>= fun l => again (.builtin "list.__iadd__" ⟨[l, .ref a], []⟩)) _ _ s
  refine wpAny_bind (wpAny_newObj_type ?_)
  refine wpAny_pure ⟨plainId_quiet F.plain_list_iadd _, codeAny_builtin F.entry_list_iadd ?_⟩
  rw [Around.under_plainId F.plain_list_iadd _]
  show wpAny _ A.in1 (Builtin.List.listExtendWith (.ref s.heap.objs.size) (.ref a) (.ref s.heap.objs.size)) _ _ _
  unfold Builtin.List.listExtendWith
  have k1 : ∀ b o, s.heap.get? b = some o → (s.heap.push { cls := .type "list", data := .seq ([] : List Value).toArray }).get? b = some o := fun b o e => Heap.get?_push_of_some _ e
  have gty : ∀ {h : Heap}, (∀ b o, s.heap.get? b = some o → h.get? b = some o) → h.IsGen a gi := fun {h} q => hg.keeps q
  refine wpAny_bind (wpAny_typeOf (Heap.IsGen.typeIs (s := { s with heap := _ }) (gty k1)) ?_)
  have h1 : Builtin.List.listSameRef (.ref s.heap.objs.size) (.ref a) = false := by simp [Builtin.List.listSameRef, hSa]
  have h2 : (Value.type "generator" == Value.type "list") = false := by decide
  have h3 : (Value.type "generator" == Value.type "tuple") = false := by decide
  simp only [h1, h2, h3, Bool.or_false, Bool.false_eq_true, if_false]
  refine wpAny_bind (wpAny_pyIter_gen (s := { s with heap := _ }) (gty k1) ?_)
  refine wpAny_bind (wpAny_holding ?_)
  unfold Builtin.List.listLengthHint
  refine wpAny_bind (wpAny_specialOf (Heap.IsGen.typeIs (s := { s with heap := _ }) (gty k1)) F.gen_no_len ?_)
  show wpAny _ A.in1 (specialOf (Value.ref a) (Str.ofString "__length_hint__") >>= _) _ _ _
  refine wpAny_bind (wpAny_specialOf (Heap.IsGen.typeIs (s := { s with heap := _ }) (gty k1)) F.gen_no_hint ?_)
  refine wpAny_pure ?_
  show wpAny _ A.in1 (rule "list.extend.makes-room" >>= fun _ => Builtin.List.listTouch (.ref s.heap.objs.size) >>= fun _ =>
    again (.builtin "list.extend.loop" ⟨[.ref s.heap.objs.size, .ref a, .ref s.heap.objs.size], []⟩)) _ _ _
  refine wpAny_bind (wpAny_rule ?_)
  have hS1 : (s.heap.push { cls := .type "list", data := .seq ([] : List Value).toArray }).get? s.heap.objs.size = some { cls := .type "list", data := .seq ([] : List Value).toArray } := Heap.get?_push_size _ rfl
  refine wpAny_bind ?_
  show wpAny _ A.in1 (updateSeq s.heap.objs.size (·.push .none) >>= fun _ => updateSeq s.heap.objs.size (·.pop)) _ _ _
  refine wpAny_bind (wpAny_updateSeq hS1 rfl ?_)
  have hS2 := Heap.get?_update_self (Obj.mapSeq (·.push Value.none)) hS1 rfl
  refine wpAny_updateSeq hS2 rfl ?_
  have hS3 := Heap.get?_update_self (Obj.mapSeq (·.pop)) hS2 rfl
  have oth : ∀ b o, s.heap.get? b = some o → (((s.heap.push { cls := .type "list", data := .seq ([] : List Value).toArray }).update s.heap.objs.size (Obj.mapSeq (·.push Value.none))).update s.heap.objs.size (Obj.mapSeq (·.pop))).get? b = some o :=
    fun b o e => (Heap.get?_update_other _ _ (Ne.symm (Nat.ne_of_lt (Heap.lt_size e)))).trans ((Heap.get?_update_other _ _ (Ne.symm (Nat.ne_of_lt (Heap.lt_size e)))).trans (k1 b o e))
  have hn : H s.heap.objs.size = none := I.hok.fresh (Nat.le_refl _)
  refine wpAny_pure ⟨plainId_quiet F.plain_extend_loop _, ext_loop (A := A) (S := s.heap.objs.size) (Room.mono hr (by omega)) hf (by rw [hn5]; exact Nat.le_refl _) ha (Nat.ne_of_gt hcl) (fun H' h => I.fpOk (Nat.le_refl _) h) os ι H s _ gs #[] _ [] [] hA (fun b o _ e => oth b o e) rfl I.bare (hg.keeps oth) hgs hS3 hn (I.kept (t' := s.toks) oth) .nil .nil (by simpa using hl) fun ι' H' s' acc' c' ys' e' hS' I' hg' hH' v' r' => ?_⟩
  show wpAny _ A (load s.heap.objs.size >>= _) _ _ s'
  refine wpAny_bind (wpAny_load hg' ?_)
  exact wpAny_pure (fin ι' H' s' _ _ e' hS' I' v' (by simpa using r'))
end
end CV
/-! CVl: built-in functions; slices; in; f-strings; a list that is kept in the store. -/
namespace CV
open PySem PySem.Spec PyProof.Rows L2

/-! ### meanings -/
def intsOf : List D → Option (List Int)
  | [] => some []
  | .int i :: r => (intsOf r).map (i :: ·)
  | _ :: _ => none
def fLen : FnS := fun ds st => match ds with
  | [.str x] => if fits x.length then .ok (.int x.length) st else .fail
  | [d] => (match listD d st with
    | some l => .ok (.int l.length) st
    | none => .fail)
  | _ => .fail
def fAbs : FnS := fun ds st => match ds with
  | [.int i] => .ok (.int (if i < 0 then -i else i)) st
  | _ => .fail
def fInt : FnS := fun ds st => match ds with
  | [.int i] => .ok (.int i) st
  | [.bl b] => .ok (.int (if b then 1 else 0)) st
  | _ => .fail
/-- an int as a text: fewer than 1920 bits -/
def shortI (i : Int) : Bool := decide (i.natAbs.log2 < 1920)
def fStr : FnS := fun ds st => match ds with
  | [.int i] => if shortI i then .ok (.str (toString i)) st else .fail
  | _ => .fail
def fList : FnS := fun ds st => match ds with
  | [d] => (match listD d st with
    | some l => .ok (.lst l) st
    | none => .fail)
  | _ => .fail
def fTuple : FnS := fun ds st => match ds with
  | [d] => (match listD d st with
    | some l => .ok (.tup l) st
    | none => .fail)
  | _ => .fail
def fSum : FnS := fun ds st => match ds with
  | [d] => (match listD d st with
    | some l => (match intsOf l with
      | some ns => .ok (.int ns.sum) st
      | none => .fail)
    | none => .fail)
  | _ => .fail
def fMin : FnS := fun ds st => match ds with
  | [d] => (match listD d st with
    | some l => (match intsOf l with
      | some (n :: ns) => .ok (.int (ns.foldl min n)) st
      | _ => .fail)
    | none => .fail)
  | _ => .fail
def fMax : FnS := fun ds st => match ds with
  | [d] => (match listD d st with
    | some l => (match intsOf l with
      | some (n :: ns) => .ok (.int (ns.foldl max n)) st
      | _ => .fail)
    | none => .fail)
  | _ => .fail
def fMin2 : FnS := fun ds st => match ds with
  | [.int i, .int j] => .ok (.int (if j < i then j else i)) st
  | _ => .fail
def fMax2 : FnS := fun ds st => match ds with
  | [.int i, .int j] => .ok (.int (if j > i then j else i)) st
  | _ => .fail
def fSorted : FnS := fun ds st => match ds with
  | [.lst l] => if sortOk l && fits l.length then .ok (.lst (sortD l)) st else .fail
  | _ => .fail

/-! ### their rules -/
theorem ints_at {K : Ct} {ι : Io} {H : Hp} : ∀ {l : List D} {ns : List Int} {vs : List V}, intsOf l = some ns → Rps K ι H l vs → vs = ns.map V.int ∧ l = ns.map D.int
  | [], ns, vs, h, r => by
    cases h
    cases r
    exact ⟨rfl, rfl⟩
  | d :: l, ns, vs, h, r => by
    cases d <;> try (simp [intsOf] at h; done)
    rename_i i
    cases q : intsOf l with
    | none => simp [intsOf, q] at h
    | some ms =>
      simp [intsOf, q] at h
      subst h
      cases r with
      | cons r1 r2 =>
        cases r1
        obtain ⟨e1, e2⟩ := ints_at q r2
        rw [e1, e2]
        exact ⟨rfl, rfl⟩
def BltS (C : Ct) (f : FnS) (r : List V → Hp → VK → Prop) : Prop := ∀ (ds : List D) (st : Sto) (ι : Io) (H : Hp) (vs : List V) (Q : VK) (exP : Str → Option Addr → Hp → Prop), RepS C st ι H → Rps C ι H ds vs → PostR C ι H (okV C Q) exP (f ds st) → r vs H Q
section
variable {C : Ct} {X : Cx}
theorem rps1 {K : Ct} {ι : Io} {H : Hp} {d : D} {vs : List V} (r : Rps K ι H [d] vs) : ∃ v, vs = [v] ∧ Rp K ι H d v := by
  cases r with
  | cons r1 r2 =>
    cases r2
    exact ⟨_, rfl, r1⟩
theorem rps2 {K : Ct} {ι : Io} {H : Hp} {d e : D} {vs : List V} (r : Rps K ι H [d, e] vs) : ∃ v u, vs = [v, u] ∧ Rp K ι H d v ∧ Rp K ι H e u := by
  cases r with
  | cons r1 r2 =>
    obtain ⟨u, e, r3⟩ := rps1 r2
    rw [e]
    exact ⟨_, _, rfl, r1, r3⟩
/-- a function of one list or tuple -/
theorem blt_list {f : FnS} {r : List V → Hp → VK → Prop} {g : List D → Sto → R D} (h0 : ∀ ds st, (∀ d, ds ≠ [d]) → f ds st = .fail) (h1 : ∀ d st, f [d] st = match listD d st with
      | some l => g l st
      | none => .fail)
    (hr : ∀ (l : List D) (st : Sto) (ι : Io) (H : Hp) (p : Addr) (vs : List V) (d : D) (Q : VK) (exP : Str → Option Addr → Hp → Prop), RepS C st ι H → listD d st = some l → Rp C ι H d (.ref p) → (SqL C.K H p vs ∨ SqT C.K H p vs) → Rps C ι H l vs → PostR C ι H (okV C Q) exP (g l st) → r [.ref p] H Q) : BltS C f r := by
  intro ds st ι H vs Q exP hS rs hP
  by_cases hd : ∃ d, ds = [d]
  · obtain ⟨d, rfl⟩ := hd
    obtain ⟨v, rfl, rv⟩ := rps1 rs
    rw [h1] at hP
    cases q : listD d st with
    | none =>
      rw [q] at hP
      exact no_case hP
    | some l =>
      rw [q] at hP
      obtain ⟨p, ws, rfl, hq, rl⟩ := listD_at hS q rv
      exact hr l st ι H p ws d Q exP hS q rv hq rl hP
  · rw [h0 ds st fun d e => hd ⟨d, e⟩] at hP
    exact no_case hP
theorem not1 {ds : List D} (h : ∀ d, ds ≠ [d]) : ds = [] ∨ ∃ a b r, ds = a :: b :: r := by
  rcases ds with _ | ⟨a, _ | ⟨b, r⟩⟩
  · exact .inl rfl
  · exact absurd rfl (h a)
  · exact .inr ⟨a, b, r, rfl⟩
abbrev rListS (K : PySem.W.Frag) : List V → Hp → VK → Prop := fun xs H Q => ∃ p ys, xs = [.ref p] ∧ (SqL K H p ys ∨ SqT K H p ys) ∧ ∀ l, H l = none → Q (.ref l) (upd H l (.lst ys))
theorem blt_listOf : BltS C fList (rListS C.K) := blt_list (g := fun l st => .ok (.lst l) st) (fun ds st h => by rcases not1 h with rfl | ⟨a, b, r, rfl⟩ <;> rfl) (fun d st => rfl) fun l st ι H p vs d Q exP hS _ _ hq rl hP => ⟨p, vs, rfl, hq, new_lst hS rl hP⟩
abbrev rTupleS (K : PySem.W.Frag) : List V → Hp → VK → Prop := fun xs H Q => ∃ p ys, xs = [.ref p] ∧ ((SqL K H p ys ∧ ∀ l, H l = none → Q (.ref l) (upd H l (.tup ys))) ∨ (SqT K H p ys ∧ Q (.ref p) H))
theorem blt_tupleOf : BltS C fTuple (rTupleS C.K) := blt_list (g := fun l st => .ok (.tup l) st) (fun ds st h => by rcases not1 h with rfl | ⟨a, b, r, rfl⟩ <;> rfl) (fun d st => rfl) fun l st ι H p vs d Q exP hS hd rv hq rl hP => by
  cases d <;> try (cases hd; done)
  · cases hd
    obtain ⟨a, ws, e, hs, hl⟩ := rv.sqt
    cases e
    exact ⟨p, ws, rfl, .inr ⟨hs, post_ok hS hP _ rv⟩⟩
  · cases hd
    obtain ⟨a, ws, e, hs, hl⟩ := rv.sql
    cases e
    exact ⟨p, ws, rfl, .inl ⟨hs, new_tup hS hl hP⟩⟩
  · obtain ⟨a, ws, h1, e, h2, h3⟩ := obj_at hS hd rv
    cases e
    exact ⟨p, ws, rfl, .inl ⟨.of h2, new_tup hS h3 hP⟩⟩
abbrev rLenA (K : PySem.W.Frag) : List V → Hp → VK → Prop := fun xs H Q => (∃ p ys, xs = [.ref p] ∧ (SqL K H p ys ∨ SqT K H p ys) ∧ Q (.int ys.length) H) ∨ (∃ z, xs = [.str z] ∧ z.length ≤ sizeLine ∧ Q (.int z.length) H)
theorem cr_lenA : CallR X (.builtin "len") (rLenA X.K) := CallR.or call_len_seq call_len_str
theorem blt_len : BltS C fLen (rLenA C.K) := by
  intro ds st ι H vs Q exP hS rs hP
  by_cases hd : ∃ d, ds = [d]
  · obtain ⟨d, rfl⟩ := hd
    obtain ⟨v, rfl, rv⟩ := rps1 rs
    have main : ∀ l, listD d st = some l → PostR C ι H (okV C Q) exP (.ok (.int l.length) st) → rLenA C.K [v] H Q := fun l q hP => by
      obtain ⟨p, ws, rfl, hq, rl⟩ := listD_at hS q rv
      refine .inl ⟨p, ws, rfl, hq, ?_⟩
      have := post_ok hS hP _ (.int _)
      rw [rl.length] at this
      exact this
    cases d <;> try exact no_case hP
    · rename_i x
      cases rv
      by_cases hf : fits x.length = true
      · have hP : PostR C ι H (okV C Q) exP (if fits x.length = true then .ok (.int x.length) st else .fail) := hP
        rw [if_pos hf] at hP
        exact .inr ⟨_, rfl, fits_line hf, post_ok hS hP _ (.int _)⟩
      · have hP : PostR C ι H (okV C Q) exP (if fits x.length = true then .ok (.int x.length) st else .fail) := hP
        rw [if_neg hf] at hP
        exact no_case hP
    · exact main _ rfl hP
    · exact main _ rfl hP
    · rename_i i
      cases q : listD (.obj i) st with
      | none =>
        have hP : PostR C ι H (okV C Q) exP (match listD (.obj i) st with
          | some l => .ok (.int l.length) st
          | none => .fail) := hP
        rw [q] at hP
        exact no_case hP
      | some l =>
        have hP : PostR C ι H (okV C Q) exP (match listD (.obj i) st with
          | some l => .ok (.int l.length) st
          | none => .fail) := hP
        rw [q] at hP
        exact main l q hP
  · rcases not1 (fun d e => hd ⟨d, e⟩) with rfl | ⟨a, b, r, rfl⟩
    · exact no_case hP
    · exact no_case (by cases a <;> exact hP)
theorem blt_abs : BltS C fAbs (fun xs H Q => ∃ i, xs = [.int i] ∧ Q (.int (if i < 0 then -i else i)) H) := by
  intro ds st ι H vs Q exP hS rs hP
  rcases ds with _ | ⟨d, _ | ⟨e, r⟩⟩
  · exact no_case hP
  · obtain ⟨v, rfl, rv⟩ := rps1 rs
    cases d <;> try exact no_case hP
    cases rv
    exact ⟨_, rfl, post_ok hS hP _ (.int _)⟩
  · exact no_case (by cases d <;> exact hP)
theorem blt_int : BltS C fInt (fun xs H Q => (∃ i, xs = [.int i] ∧ Q (.int i) H) ∨ ∃ k, xs = [.bl k] ∧ Q (.int (if k then 1 else 0)) H) := by
  intro ds st ι H vs Q exP hS rs hP
  rcases ds with _ | ⟨d, _ | ⟨e, r⟩⟩
  · exact no_case hP
  · obtain ⟨v, rfl, rv⟩ := rps1 rs
    cases d <;> try exact no_case hP
    · cases rv
      exact .inr ⟨_, rfl, post_ok hS hP _ (.int _)⟩
    · cases rv
      exact .inl ⟨_, rfl, post_ok hS hP _ (.int _)⟩
  · exact no_case (by cases d <;> exact hP)
theorem blt_str : BltS C fStr (fun xs H Q => ∃ i, xs = [.int i] ∧ i.natAbs.log2 < 1920 ∧ Q (.str (toString i)) H) := by
  intro ds st ι H vs Q exP hS rs hP
  rcases ds with _ | ⟨d, _ | ⟨e, r⟩⟩
  · exact no_case hP
  · obtain ⟨v, rfl, rv⟩ := rps1 rs
    cases d <;> try exact no_case hP
    rename_i i
    cases rv
    by_cases hf : shortI i = true
    · have hP : PostR C ι H (okV C Q) exP (if shortI i = true then .ok (.str (toString i)) st else .fail) := hP
      rw [if_pos hf] at hP
      exact ⟨_, rfl, of_decide_eq_true hf, post_ok hS hP _ (.str _)⟩
    · have hP : PostR C ι H (okV C Q) exP (if shortI i = true then .ok (.str (toString i)) st else .fail) := hP
      rw [if_neg hf] at hP
      exact no_case hP
  · exact no_case (by cases d <;> exact hP)
theorem blt_min2 : BltS C fMin2 (fun xs H Q => ∃ i j, xs = [.int i, .int j] ∧ Q (.int (if j < i then j else i)) H) := by
  intro ds st ι H vs Q exP hS rs hP
  rcases ds with _ | ⟨d, _ | ⟨e, _ | ⟨e2, r⟩⟩⟩
  · exact no_case hP
  · exact no_case (by cases d <;> exact hP)
  · obtain ⟨v, u, rfl, rv, ru⟩ := rps2 rs
    cases d <;> try exact no_case hP
    cases e <;> try exact no_case hP
    cases rv
    cases ru
    exact ⟨_, _, rfl, post_ok hS hP _ (.int _)⟩
  · exact no_case (by cases d <;> try exact hP
                      cases e <;> exact hP)
theorem blt_max2 : BltS C fMax2 (fun xs H Q => ∃ i j, xs = [.int i, .int j] ∧ Q (.int (if j > i then j else i)) H) := by
  intro ds st ι H vs Q exP hS rs hP
  rcases ds with _ | ⟨d, _ | ⟨e, _ | ⟨e2, r⟩⟩⟩
  · exact no_case hP
  · exact no_case (by cases d <;> exact hP)
  · obtain ⟨v, u, rfl, rv, ru⟩ := rps2 rs
    cases d <;> try exact no_case hP
    cases e <;> try exact no_case hP
    cases rv
    cases ru
    exact ⟨_, _, rfl, post_ok hS hP _ (.int _)⟩
  · exact no_case (by cases d <;> try exact hP
                      cases e <;> exact hP)
/-! sum, min, max of ints, in a list or a tuple -/
def rIntsA (K : PySem.W.Frag) (g : List Int → Option Int) : List V → Hp → VK → Prop := fun vs H Q => ∃ (a : Addr) (ns : List Int) (m : Int), vs = [V.ref a] ∧ (SqL K H a (ns.map V.int) ∨ SqT K H a (ns.map V.int)) ∧ g ns = some m ∧ Q (.int m) H
theorem blt_ints {f : FnS} {g : List Int → Option Int} (h0 : ∀ ds st, (∀ d, ds ≠ [d]) → f ds st = .fail) (h1 : ∀ d st, f [d] st = match listD d st with
      | some l => (match intsOf l with
        | some ns => (match g ns with
          | some m => .ok (.int m) st
          | none => .fail)
        | none => .fail)
      | none => .fail) : BltS C f (rIntsA C.K g) := blt_list (g := fun l st => match intsOf l with
        | some ns => (match g ns with
          | some m => .ok (.int m) st
          | none => .fail)
        | none => .fail) h0 h1 fun l st ι H p vs d Q exP hS hd rv hq rl hP => by
  try dsimp only at hP
  cases q : intsOf l with
  | none =>
    rw [q] at hP
    exact no_case hP
  | some ns =>
    rw [q] at hP
    dsimp only at hP
    obtain ⟨e1, e2⟩ := ints_at q rl
    subst e1
    cases q2 : g ns with
    | none =>
      rw [q2] at hP
      exact no_case hP
    | some m =>
      rw [q2] at hP
      exact ⟨p, ns, m, rfl, hq, q2, post_ok hS hP _ (.int _)⟩
def gSum (ns : List Int) : Option Int := some ns.sum
def gMin : List Int → Option Int
  | n :: ns => some (ns.foldl min n)
  | [] => none
def gMax : List Int → Option Int
  | n :: ns => some (ns.foldl max n)
  | [] => none
theorem blt_sum : BltS C fSum (rIntsA C.K gSum) := blt_ints (fun ds st h => by rcases not1 h with rfl | ⟨a, b, r, rfl⟩ <;> rfl) fun d st => rfl
theorem blt_min : BltS C fMin (rIntsA C.K gMin) := blt_ints (fun ds st h => by rcases not1 h with rfl | ⟨a, b, r, rfl⟩ <;> rfl) fun d st => by
  show (match listD d st with
    | some l => (match intsOf l with
      | some (n :: ns) => R.ok (D.int (ns.foldl min n)) st
      | _ => .fail)
    | none => .fail) = _
  cases listD d st with
  | none => rfl
  | some l =>
    dsimp only
    cases intsOf l with
    | none => rfl
    | some ns => cases ns <;> rfl
theorem blt_max : BltS C fMax (rIntsA C.K gMax) := blt_ints (fun ds st h => by rcases not1 h with rfl | ⟨a, b, r, rfl⟩ <;> rfl) fun d st => by
  show (match listD d st with
    | some l => (match intsOf l with
      | some (n :: ns) => R.ok (D.int (ns.foldl max n)) st
      | _ => .fail)
    | none => .fail) = _
  cases listD d st with
  | none => rfl
  | some l =>
    dsimp only
    cases intsOf l with
    | none => rfl
    | some ns => cases ns <;> rfl
theorem cr_sumA (hc : X.calm = true) : CallR X (.builtin "sum") (rIntsA X.K gSum) := by
  intro pins s σ H vs us Q I r h
  obtain ⟨a, ns, m, rfl, hs, e, q⟩ := h
  cases e
  rcases hs with hs | hs
  · exact cr_sum hc pins s σ H _ us Q I r ⟨a, ns, rfl, hs, q⟩
  · obtain ⟨its, rv, p, _⟩ := I.tuple hs
    rw [Vals.ref1 r]
    have hi := rv.ints
    obtain ⟨xs, hx⟩ := hi.allInts.items
    have hn : numsOf its.toArray.toList = ns := by rw [show its.toArray.toList = its from rfl, hi.numsOf]
    have hl : s.heap.IsTuple a its.toArray := p
    rw [hx] at hl hn
    rw [nums_intItems] at hn
    refine PySem.W.ktm_sumG (I.ok.hd hc) hl fun h' tk t' hk => ?_
    rw [preSum_eq, List.take_of_length_le (by simp), hn]
    exact ⟨.int _, H, I.kept hk, ⟨_, rfl⟩, q⟩
theorem reads_ints {h : Heap} : ∀ {its : List Value} {ns : List Int}, IntsAre its ns → ReadsAll h its (ns.map PyData.int) []
  | _, _, .nil => .nil
  | _, _, .cons n t r => ReadsAll.cons (as := []) (bs := []) (.int n t) (reads_ints r)
theorem alike_ints (ns : List Int) : PySem.W.AlikeAll (ns.map PyData.int) := ⟨fun x hx y hy => by
  obtain ⟨i, _, rfl⟩ := List.mem_map.mp hx
  obtain ⟨j, _, rfl⟩ := List.mem_map.mp hy
  rfl, fun x hx => by
  obtain ⟨i, _, rfl⟩ := List.mem_map.mp hx
  intro z
  cases z⟩
theorem depth_ints : ∀ ns : List Int, PyData.depthAll (ns.map PyData.int) ≤ 1
  | [] => by simp [PyData.depthAll]
  | n :: ns => by
    have := depth_ints ns
    simp only [List.map_cons, PyData.depthAll, PyData.depth]
    omega
theorem cr_minA (hc : X.calm = true) (hu : X.A.units + 10 < cLine) : CallR X (.builtin "min") (rIntsA X.K gMin) := by
  intro pins s σ H vs us Q I r h
  obtain ⟨a, ns, m, rfl, hs, e, q⟩ := h
  cases ns with
  | nil => cases e
  | cons n ns =>
    cases e
    rw [Vals.ref1 r]
    have fin : ∀ (v : Value) (h' : Heap) (tk : Nat) (bs : List Addr), Reads h' v (PySem.W.minD (.int n) (ns.map PyData.int)) bs → (∀ b o, s.heap.get? b = some o → h'.get? b = some o) → EP X pins σ Q v { s with heap := h', toks := tk } := fun v h' tk bs hr hk => by
      rw [PySem.W.minD_ints] at hr
      cases hr
      exact ⟨.int _, H, I.kept hk, ⟨_, rfl⟩, q⟩
    have hd : X.A.units + 1 + PyData.depthAll ((n :: ns).map PyData.int) < cLine := by have := depth_ints (n :: ns); omega
    rcases hs with hs | hs
    · obtain ⟨its, rv, p, _⟩ := I.list hs
      exact PySem.W.min_list_data (I.ok.hd hc) p.isList (reads_ints rv.ints) (alike_ints (n :: ns)) hd fun i v h' tk bs _ hr hk => fin v h' tk bs hr hk
    · obtain ⟨its, rv, p, _⟩ := I.tuple hs
      exact PySem.W.min_tuple_data (I.ok.hd hc) (show s.heap.IsTuple a its.toArray from p) (reads_ints rv.ints) (alike_ints (n :: ns)) hd fun i v h' tk bs _ hr hk => fin v h' tk bs hr hk
theorem cr_maxA (hc : X.calm = true) (hu : X.A.units + 10 < cLine) : CallR X (.builtin "max") (rIntsA X.K gMax) := by
  intro pins s σ H vs us Q I r h
  obtain ⟨a, ns, m, rfl, hs, e, q⟩ := h
  cases ns with
  | nil => cases e
  | cons n ns =>
    cases e
    rw [Vals.ref1 r]
    have fin : ∀ (v : Value) (h' : Heap) (tk : Nat) (bs : List Addr), Reads h' v (PySem.W.maxD (.int n) (ns.map PyData.int)) bs → (∀ b o, s.heap.get? b = some o → h'.get? b = some o) → EP X pins σ Q v { s with heap := h', toks := tk } := fun v h' tk bs hr hk => by
      rw [PySem.W.maxD_ints] at hr
      cases hr
      exact ⟨.int _, H, I.kept hk, ⟨_, rfl⟩, q⟩
    have hd : X.A.units + 1 + PyData.depthAll ((n :: ns).map PyData.int) < cLine := by have := depth_ints (n :: ns); omega
    rcases hs with hs | hs
    · obtain ⟨its, rv, p, _⟩ := I.list hs
      exact PySem.W.max_list_data (I.ok.hd hc) p.isList (reads_ints rv.ints) (alike_ints (n :: ns)) hd fun i v h' tk bs _ hr hk => fin v h' tk bs hr hk
    · obtain ⟨its, rv, p, _⟩ := I.tuple hs
      exact PySem.W.max_tuple_data (I.ok.hd hc) (show s.heap.IsTuple a its.toArray from p) (reads_ints rv.ints) (alike_ints (n :: ns)) hd fun i v h' tk bs _ hr hk => fin v h' tk bs hr hk
variable {W : WX} {pos p : Pos} {e : Expr} {es : List Expr} {ma : MA} {id T : String} {x : Str} {f : FnS} {r : List V → Hp → VK → Prop}
theorem rd_blt {σ : L2.St} {H : Hp} {Q : VK} (hf : BltS C f r) (h : rdE C W (mCall f ma) σ H Q) : tCB r (rdA C W ma) σ H Q := by
  obtain ⟨ρ, st, ι, hE, hS, hP⟩ := h
  exact rd_seqA hE hS hP fun ds st1 ι1 H1 vs hE1 hS1 _ rs hP1 => hf ds st1 ι1 H1 vs Q _ hS1 rs hP1
theorem se_blt (hc : CallR X (.builtin id) r) (hf : BltS C f r) (hg : Gl X x) (hm : X.mg x = none) (hv : bootBuiltins x = some (.builtin id)) (ha : SA C X W (e :: es) ma) (hn : x ≠ "__name__" := by decide) (hdb : (x == ("__debug__" : Str)) = false := by decide)
    (he : starEach (e :: es) X.env = (false, eval e X.env) :: starEach es X.env := by rfl) (hpl : (backTo pos (starEach es X.env)).any (·.1) = false := by rfl) : SE C X W (.Call (.Name x p) (e :: es) [] pos) (mCall f ma) :=
  pe_imp (pe_callB hc hg hm hv ha hn hdb he hpl) fun _ _ _ h => rd_blt hf h
theorem se_bty (hc : CallR X (.type T) r) (hf : BltS C f r) (hg : Gl X x) (hm : X.mg x = none) (hv : bootBuiltins x = some (.type T)) (ha : SA C X W (e :: es) ma) (hn : x ≠ "__name__" := by decide) (hdb : (x == ("__debug__" : Str)) = false := by decide)
    (he : starEach (e :: es) X.env = (false, eval e X.env) :: starEach es X.env := by rfl) (hpl : (backTo pos (starEach es X.env)).any (·.1) = false := by rfl) : SE C X W (.Call (.Name x p) (e :: es) [] pos) (mCall f ma) :=
  pe_imp (pe_callTy hc hg hm hv ha hn hdb he hpl) fun _ _ _ h => rd_blt hf h
end
end CV
/-! CVm: in, slices, texts with fields; sorted and tuple of a generator expression; enumerate. -/
namespace CV
open PySem PySem.Spec PyProof.Rows L2

/-! ### in -/
def oInS (neg : Bool) (x y : D) (st : Sto) : R D := match seqD y with
  | some l => if D.lay 12 x && D.lays 12 l then .ok (.bl (if neg then !(l.any fun z => D.eqv z x) else l.any fun z => D.eqv z x)) st else .fail
  | none => .fail
def rInA (K : PySem.W.Frag) (neg : Bool) : R2 := fun x y H Q => ∃ d ds, Dp K H x d ∧ (Dp K H y (.list ds) ∨ Dp K H y (.tuple ds)) ∧ SeqAt.shaped d = true ∧ PyData.canLayAll0 ds = true ∧ Q (.bl (if neg then !(ds.any fun z => PyData.eqv z d) else ds.any fun z => PyData.eqv z d)) H
section
variable {C : Ct} {X : Cx}
theorem op_inA (hu : X.A.units + 65 < cLine) : OpR X (compareOp .In) (rInA X.K false) := by
  intro pins s σ H x y v u Q I rx ry h
  obtain ⟨d, ds, hd, he, sd, se, q⟩ := h
  obtain ⟨as, r1⟩ := Dp.reads I d x v hd rx
  rcases he with he | he
  · obtain ⟨bs, r2⟩ := Dp.reads I (.list ds) y u he ry
    exact SeqAt.in_list_reads r2 r1 se (SeqAt.canLay_of_shaped sd) (room_in_shaped sd hu) ⟨.bl _, H, I, rfl, q⟩
  · obtain ⟨bs, r2⟩ := Dp.reads I (.tuple ds) y u he ry
    exact SeqAt.in_tuple_reads r2 r1 se (SeqAt.canLay_of_shaped sd) (room_in_shaped sd hu) ⟨.bl _, H, I, rfl, q⟩
theorem op_notInA (hu : X.A.units + 65 < cLine) : OpR X (compareOp .NotIn) (rInA X.K true) := by
  intro pins s σ H x y v u Q I rx ry h
  obtain ⟨d, ds, hd, he, sd, se, q⟩ := h
  obtain ⟨as, r1⟩ := Dp.reads I d x v hd rx
  rcases he with he | he
  · obtain ⟨bs, r2⟩ := Dp.reads I (.list ds) y u he ry
    exact SeqAt.notIn_list_reads r2 r1 se (SeqAt.canLay_of_shaped sd) (room_in_shaped sd hu) ⟨.bl _, H, I, rfl, q⟩
  · obtain ⟨bs, r2⟩ := Dp.reads I (.tuple ds) y u he ry
    exact SeqAt.notIn_tuple_reads r2 r1 se (SeqAt.canLay_of_shaped sd) (room_in_shaped sd hu) ⟨.bl _, H, I, rfl, q⟩
theorem any_pys (x : D) : ∀ l : List D, (D.pys l).any (fun z => PyData.eqv z x.py) = l.any fun z => D.eqv z x
  | [] => by simp [D.pys]
  | d :: r => by
    rw [D.pys, List.any_cons, List.any_cons, any_pys x r]
    rfl
theorem ops_in {neg : Bool} : OpS C (oInS neg) (rInA C.K neg) := by
  intro x y st ι H v u Q exP hS rx ry hP
  unfold oInS at hP
  have main : ∀ l, (Rp C ι H (.lst l) u ∨ Rp C ι H (.tup l) u) → PostR C ι H (okV C Q) exP (if (D.lay 12 x && D.lays 12 l) = true then .ok (.bl (if neg then !(l.any fun z => D.eqv z x) else l.any fun z => D.eqv z x)) st else .fail) → rInA C.K neg v u H Q := fun l ry hP => by
    by_cases h : (D.lay 12 x && D.lays 12 l) = true
    · rw [if_pos h] at hP
      rw [Bool.and_eq_true] at h
      refine ⟨x.py, D.pys l, rx.dp h.1, ?_, lay_shaped (by decide) h.1, (lays_can h.2).1, ?_⟩
      · rcases ry with ry | ry
        · have := ry.dp (n := 13) (by rw [D.lay]; exact h.2)
          rw [D.py] at this
          exact .inl this
        · have := ry.dp (n := 13) (by rw [D.lay]; exact h.2)
          rw [D.py] at this
          exact .inr this
      · rw [any_pys]
        exact post_ok hS hP _ (.bl _)
    · rw [if_neg h] at hP
      exact no_case hP
  cases y <;> try exact no_case hP
  · exact main _ (.inr ry) hP
  · exact main _ (.inl ry) hP
end

/-! ### slices -/
abbrev MO := Envr → Sto → R (Option Int)
def oNo : MO := fun _ st => .ok none st
def oSome (a : ME) : MO := fun ρ st => (a ρ st).bd fun d st => match d with
  | .int i => .ok (some i) st
  | _ => .fail
def cutD (xs : List D) (lo hi : Option Int) : List D := (xs.drop (HT.sIx xs.length 0 lo)).take (HT.sIx xs.length xs.length hi - HT.sIx xs.length 0 lo)
def mSl (a : ME) (l u : MO) : ME := fun ρ st => (a ρ st).bd fun x st => (l ρ st).bd fun lo st => (u ρ st).bd fun hi st => match x with
  | .tup xs => .ok (.tup (cutD xs lo hi)) st
  | .str z => if fits z.length then .ok (.str (cutS z lo hi)) st else .fail
  | x => (match listD x st with
    | some xs => .ok (.lst (cutD xs lo hi)) st
    | none => .fail)
def okO (Q : Option Int → Hp → Prop) : Option Int → Sto → Io → Hp → Prop := fun o _ _ H => Q o H
def rdO (C : Ct) (W : WX) (m : MO) : TO := fun σ H Q => ∃ ρ st ι, EnvR C ι H ρ σ ∧ RepS C st ι H ∧ PostR C ι H (okO Q) (exW C.K W σ) (m ρ st)
abbrev SO (C : Ct) (X : Cx) (W : WX) (e : Option Expr) (m : MO) : Prop := PO X e (rdO C W m)
theorem po_imp {X : Cx} {e : Option Expr} {t t' : TO} (h : PO X e t) (k : ∀ σ H Q, t' σ H Q → t σ H Q) : PO X e t' := ⟨fun pins s σ H Q I q => h.run pins s σ H Q I (k σ H Q q)⟩
section
variable {C : Ct} {W : WX} {X : Cx} {a b : Expr} {ma mb : ME} {pos p2 : Pos} {lo hi : Option Expr} {ml mu : MO}
theorem so_no : SO C X W none oNo := po_imp po_none fun σ H Q ⟨ρ, st, ι, hE, hS, hP⟩ => post_ok hS hP
theorem so_some (ha : SE C X W a ma) : SO C X W (some a) (oSome ma) := po_imp (po_some ha) fun σ H Q ⟨ρ, st, ι, hE, hS, hP⟩ => rd_seq hE hS hP fun d st1 ι1 H1 v1 hE1 hS1 _ rx hP1 => by
  cases d <;> try exact no_case hP1
  cases rx
  exact ⟨_, rfl, post_ok hS1 hP1⟩
theorem rd_seqO {σ : L2.St} {H : Hp} {ρ : Envr} {st : Sto} {ι : Io} {β : Type} {m : MO} {f : Option Int → Sto → R β} {okP : β → Sto → Io → Hp → Prop} {Q : Option Int → Hp → Prop} (hE : EnvR C ι H ρ σ) (hS : RepS C st ι H) (hP : PostR C ι H okP (exW C.K W σ) ((m ρ st).bd f))
    (k : ∀ b st1 ι1 H1, EnvR C ι1 H1 ρ σ → RepS C st1 ι1 H1 → Ext ι H ι1 H1 → PostR C ι1 H1 okP (exW C.K W σ) (f b st1) → Q b H1) : rdO C W m σ H Q :=
  ⟨ρ, st, ι, hE, hS, hP.bd.imp (fun b st1 ι1 H1 e s q => k b st1 ι1 H1 (hE.ext e) s e q) fun _ _ _ z => z⟩
theorem Rps.cut {K : Ct} {ι : Io} {H : Hp} {ds : List D} {vs : List V} (r : Rps K ι H ds vs) (lo hi : Option Int) : Rps K ι H (cutD ds lo hi) (cutV vs lo hi) := by
  unfold cutD cutV
  rw [r.length]
  exact (r.drop _).take _
theorem cut_whole {xs : List D} {lo hi : Option Int} (h : HT.sIx xs.length 0 lo = 0 ∧ HT.sIx xs.length xs.length hi = xs.length) : cutD xs lo hi = xs := by
  unfold cutD
  rw [h.1, h.2, List.drop_zero, Nat.sub_zero, List.take_length]
abbrev rSlN (K : PySem.W.Frag) : V → Option Int → Option Int → Hp → VK → Prop := fun x lo hi H Q => rSlL K x lo hi H Q ∨ (rSlA K x lo hi H Q ∨ rSlS x lo hi H Q)
theorem se_sl (hk : X.K = C.K) (ha : SE C X W a ma) (hl : SO C X W lo ml) (hu : SO C X W hi mu) : SE C X W (.Subscript a (.Slice lo hi none p2) pos) (mSl ma ml mu) :=
  pe_imp (pe_slice (r := rSlN X.K) (sl_list.or (sl_tupA.or sl_str)) ha hl hu) fun σ H Q ⟨ρ, st, ι, hE, hS, hP⟩ =>
    rd_seq hE hS hP fun x st1 ι1 H1 v1 hE1 hS1 _ rx hP1 => rd_seqO hE1 hS1 hP1 fun l st2 ι2 H2 hE2 hS2 e2 hP2 => rd_seqO hE2 hS2 hP2 fun u st3 ι3 H3 hE3 hS3 e3 hP3 => by
      have rx := rx.ext (e2.trans e3)
      rw [hk]
      have lst : ∀ xs, (match x with
          | .tup _ => False
          | .str _ => False
          | _ => True) → listD x st3 = some xs → PostR C ι3 H3 (okV C Q) (exW C.K W σ) (.ok (.lst (cutD xs l u)) st3) → rSlN C.K v1 l u H3 Q := fun xs hx q hP => by
        cases x <;> try (cases q; done)
        · exact hx.elim
        · cases q
          obtain ⟨a, ws, rfl, h1, h2⟩ := rx.sql
          exact .inl ⟨a, ws, rfl, h1, new_lst hS3 (h2.cut l u) hP⟩
        · obtain ⟨a, ws, _, rfl, h1, h2⟩ := obj_at hS3 q rx
          exact .inl ⟨a, ws, rfl, .of h1, new_lst hS3 (h2.cut l u) hP⟩
      cases x <;> try exact no_case hP3
      · rename_i z rx0
        cases rx
        by_cases hf : fits z.length = true
        · have hP3 : PostR C ι3 H3 (okV C Q) (exW C.K W σ) (if fits z.length = true then .ok (.str (cutS z l u)) st3 else .fail) := hP3
          rw [if_pos hf] at hP3
          exact .inr (.inr ⟨z, rfl, fits_line hf, post_ok hS3 hP3 _ (.str _)⟩)
        · have hP3 : PostR C ι3 H3 (okV C Q) (exW C.K W σ) (if fits z.length = true then .ok (.str (cutS z l u)) st3 else .fail) := hP3
          rw [if_neg hf] at hP3
          exact no_case hP3
      · rename_i xs rx0
        obtain ⟨a, ws, rfl, h1, h2⟩ := rx.sqt
        refine .inr (.inl ⟨a, ws, rfl, h1, fun hw => ?_, fun _ => new_tup hS3 (h2.cut l u) hP3⟩)
        rw [← h2.length] at hw
        have hP3 : PostR C ι3 H3 (okV C Q) (exW C.K W σ) (.ok (.tup (cutD xs l u)) st3) := hP3
        rw [cut_whole hw] at hP3
        exact post_ok hS3 hP3 _ rx
      · exact lst _ trivial rfl hP3
      · rename_i i rx0
        cases q : listD (.obj i) st3 with
        | none =>
          have hP3 : PostR C ι3 H3 (okV C Q) (exW C.K W σ) (match listD (.obj i) st3 with
            | some xs => .ok (.lst (cutD xs l u)) st3
            | none => .fail) := hP3
          rw [q] at hP3
          exact no_case hP3
        | some xs =>
          have hP3 : PostR C ι3 H3 (okV C Q) (exW C.K W σ) (match listD (.obj i) st3 with
            | some xs => .ok (.lst (cutD xs l u)) st3
            | none => .fail) := hP3
          rw [q] at hP3
          exact lst xs trivial q hP3

/-! ### texts with fields -/
def mFmt (a : ME) : ME := fun ρ st => (a ρ st).bd fun d st => match d with
  | .str y => if fits y.length then .ok (.str y) st else .fail
  | .int i => if shortI i then .ok (.str (toString i)) st else .fail
  | _ => .fail
theorem se_fmt (ha : SE C X W a ma) : SE C X W (.FormattedValue a (-1) none pos) (mFmt ma) := pe_imp (pe_fmt ha) fun σ H Q ⟨ρ, st, ι, hE, hS, hP⟩ => rd_seq hE hS hP fun d st1 ι1 H1 v1 hE1 hS1 _ rx hP1 => by
  cases d <;> try exact no_case hP1
  · rename_i i
    cases rx
    by_cases hf : shortI i = true
    · have hP1 : PostR C ι1 H1 (okV C Q) (exW C.K W σ) (if shortI i = true then .ok (.str (toString i)) st1 else .fail) := hP1
      rw [if_pos hf] at hP1
      exact .inr ⟨_, rfl, of_decide_eq_true hf, post_ok hS1 hP1 _ (.str _)⟩
    · have hP1 : PostR C ι1 H1 (okV C Q) (exW C.K W σ) (if shortI i = true then .ok (.str (toString i)) st1 else .fail) := hP1
      rw [if_neg hf] at hP1
      exact no_case hP1
  · rename_i y
    cases rx
    by_cases hf : fits y.length = true
    · have hP1 : PostR C ι1 H1 (okV C Q) (exW C.K W σ) (if fits y.length = true then .ok (.str y) st1 else .fail) := hP1
      rw [if_pos hf] at hP1
      exact .inl ⟨_, rfl, fits_line hf, post_ok hS1 hP1 _ (.str _)⟩
    · have hP1 : PostR C ι1 H1 (okV C Q) (exW C.K W σ) (if fits y.length = true then .ok (.str y) st1 else .fail) := hP1
      rw [if_neg hf] at hP1
      exact no_case hP1
/-- the parts one behind the other -/
def mJs : List ME → Str → Envr → Sto → R Str
  | [], acc, _, st => .ok acc st
  | m :: ms, acc, ρ, st => (m ρ st).bd fun d st => match d with
    | .str y => if fits (acc.length + y.length) then mJs ms (acc ++ y) ρ st else .fail
    | _ => .fail
def mJoin (ms : List ME) : ME := fun ρ st => (mJs ms Str.empty ρ st).bd fun x st => .ok (.str x) st
theorem rd_js {Q : VK} {σ : L2.St} : ∀ (ms : List ME) (acc : Str) (H : Hp) (ρ : Envr) (st : Sto) (ι : Io), EnvR C ι H ρ σ → RepS C st ι H → PostR C ι H (okV C Q) (exW C.K W σ) ((mJs ms acc ρ st).bd fun x st => .ok (.str x) st) →
    tJs (ms.map (rdE C W)) acc σ H fun out H1 => Q (.str out) H1
  | [], acc, H, ρ, st, ι, hE, hS, hP => post_ok hS hP _ (.str _)
  | m :: ms, acc, H, ρ, st, ι, hE, hS, hP => by
    have e1 : ((mJs (m :: ms) acc ρ st).bd fun x st => R.ok (D.str x) st) = (m ρ st).bd fun d st => (match d with
        | .str y => if fits (acc.length + y.length) then mJs ms (acc ++ y) ρ st else .fail
        | _ => .fail : R Str).bd fun x st => .ok (.str x) st := by
      show R.bd (R.bd (m ρ st) _) _ = _
      cases m ρ st <;> rfl
    rw [e1] at hP
    refine rd_seq hE hS hP fun d st1 ι1 H1 v1 hE1 hS1 _ rx hP1 => ?_
    cases d <;> try exact no_case hP1
    rename_i y
    cases rx
    by_cases hf : fits (acc.length + y.length) = true
    · have hP1 : PostR C ι1 H1 (okV C Q) (exW C.K W σ) ((if fits (acc.length + y.length) = true then mJs ms (acc ++ y) ρ st1 else .fail : R Str).bd fun x st => .ok (.str x) st) := hP1
      rw [if_pos hf] at hP1
      refine ⟨y, rfl, ?_, rd_js ms (acc ++ y) H1 ρ st1 ι1 hE1 hS1 hP1⟩
      have e : (acc ++ y).length = acc.length + y.length := by
        show (acc.cps ++ y.cps).size = _
        rw [Array.size_append]
        rfl
      rw [e]
      exact fits_line hf
    · have hP1 : PostR C ι1 H1 (okV C Q) (exW C.K W σ) ((if fits (acc.length + y.length) = true then mJs ms (acc ++ y) ρ st1 else .fail : R Str).bd fun x st => .ok (.str x) st) := hP1
      rw [if_neg hf] at hP1
      exact no_case hP1
theorem se_join {v1 v2 : Expr} {rest : List Expr} {ms : List ME} (h : PJ X (v1 :: v2 :: rest) (ms.map (rdE C W))) : SE C X W (.JoinedStr (v1 :: v2 :: rest) pos) (mJoin ms) := pe_imp (pe_joined h) fun σ H Q ⟨ρ, st, ι, hE, hS, hP⟩ => rd_js ms Str.empty H ρ st ι hE hS hP
theorem se_join1 (ha : SE C X W a ma) : SE C X W (.JoinedStr [a] pos) ma := pe_joined1 ha
theorem pj_nil : PJ X [] (([] : List ME).map (rdE C W)) := .nil
theorem pj_cons {es : List Expr} {ms : List ME} (ha : SE C X W a ma) (hr : PJ X es (ms.map (rdE C W))) : PJ X (a :: es) ((ma :: ms).map (rdE C W)) := .cons ha hr
end
end CV
/-! CVn: enumerate of lists and tuples. -/
namespace CV
open PySem PySem.Spec PyProof.Rows L2
open AutoSeq1 (wpAny_loadPart')

theorem meets_enumT (l : Addr) (items : Array Value) (n : Nat) (dct : Option Addr) (sl : Array (Option Value)) :
    Meets (Builtin.«enumerate.__new__» ⟨[.type "enumerate", .ref l], []⟩) (fun _ R s => s.heap.get? l = some { cls := .type "tuple", dict := dct, data := .seq items n, slots := sl } ∧
      R (.ok (.ret (.ref (s.heap.push { cls := .type "tuple_iterator", data := .fields #[.ref l, .int 0 0] }).objs.size)))
        { s with heap := (s.heap.push { cls := .type "tuple_iterator", data := .fields #[.ref l, .int 0 0] }).push { cls := .type "enumerate", data := .fields #[.none, .bool false, .ref s.heap.objs.size, rawInt 0, .none, .none] } }) :=
  .of_wp fun prog w A R s h => by
    obtain ⟨hp, g, d, tk, os⟩ := s
    obtain ⟨hl, h⟩ := h
    have hsub := sub_enumerate
    have hL : Heap.IsTuple (Shared.heap ⟨hp, g, d, tk, os⟩) l items := ⟨_, hl, rfl, n, rfl⟩
    wp_walk using wpAny_loadPart' hl
    refine wpAny_stack_any fun st => wpAny_pure ?_
    split
    · rename_i c _ _ _ _ _
      cases (c == Value.type "enumerate")
      all_goals
        wp_walk using wpAny_loadPart' hl, wpAny_pyIter_tuple hL
        exact ⟨_, rfl, h⟩
    · wp_walk using wpAny_loadPart' hl, wpAny_pyIter_tuple hL
      exact ⟨_, rfl, h⟩
section
variable {prog : Program} {w : World} {A : Around} {E : Value → Shared → Prop} {s : Shared}
theorem call_enumT {l : Addr} {items : Array Value} {Q : Value → Shared → Prop} (hL : s.heap.IsTuple l items)
    (h : ∀ h', IsEnum h' (s.heap.objs.size + 1) s.heap.objs.size 0 .none → h'.IsTupleIter s.heap.objs.size l 0 → (∀ b o, s.heap.get? b = some o → h'.get? b = some o) → Q (.ref (s.heap.objs.size + 1)) { s with heap := h' }) :
    wpAny (model prog w) A (call (.type "enumerate") [.ref l]) Q E s := by
  obtain ⟨⟨c, dct, dt, sl⟩, hl, hc, n, hd⟩ := hL
  replace hc : c = .type "tuple" := hc
  replace hd : dt = .seq items n := hd
  subst hc hd
  refine callType_new F.called_enumerate (by decide) (F.typeCall_enumerate_1 _) (F.newCall_enumerate_1 _) (fun obj => F.args_object_init_2 obj _) F.entry_enumerate_new (meets_enumT l items n dct sl) ⟨hl, ?_⟩
  have hz : (s.heap.push { cls := .type "tuple_iterator", data := .fields #[.ref l, .int 0 0] }).objs.size = s.heap.objs.size + 1 := Heap.size_push ..
  show _ ∧ _
  rw [hz]
  have he : IsEnum ((s.heap.push { cls := .type "tuple_iterator", data := .fields #[.ref l, .int 0 0] }).push
      { cls := .type "enumerate", data := .fields #[.none, .bool false, .ref s.heap.objs.size, rawInt 0, .none, .none] }) (s.heap.objs.size + 1) s.heap.objs.size 0 .none := by
    have q := Heap.get?_push_size (s.heap.push { cls := .type "tuple_iterator", data := .fields #[.ref l, .int 0 0] }) (o := { cls := .type "enumerate", data := .fields #[.none, .bool false, .ref s.heap.objs.size, rawInt 0, .none, .none] }) rfl
    rw [hz] at q
    exact q
  exact ⟨⟨_, he, rfl⟩, h _ he ⟨_, Heap.get?_push_of_some _ (Heap.get?_push_size _ rfl), rfl, rfl⟩ fun b o x => Heap.get?_push_of_some _ (Heap.get?_push_of_some _ x)⟩
end
/-- the tuple at a, each item in a new pair -/
def IteT (K : PySem.W.Frag) (a : Addr) : It :=
  ⟨fun i H => ∃ (xs : List V) (x : V), SqT K H a xs ∧ xs[i]? = some x, fun i H v H' => ∃ T x, v = .ref T ∧ H T = none ∧ H' = upd H T (.tup [.int (i : Nat), x]) ∧ ∀ xs, SqT K H a xs → xs[i]? = some x, fun i H => ∃ xs : List V, SqT K H a xs ∧ xs.length ≤ i⟩
theorem turn_enumT {P : Program} {w : World} {K : PySem.W.Frag} {elts : List Expr} {kk : Nat} {tpos : Pos} (a e it : Addr) :
    Turn P w K (.Tuple elts kk tpos) (IteT K a) [e, it] e (fun i h => (∃ old, IsEnum h e it ((i : Nat) : Int) old) ∧ h.IsTupleIter it a i ∧ e ≠ it ∧ a ≠ it ∧ a ≠ e) where
  mem := by simp
  obj := fun i h st b hb => by
    obtain ⟨⟨old, he⟩, ⟨o, ho, hc, hd⟩, _⟩ := st
    have e' : b = e ∨ b = it := by simpa using hb
    rcases e' with z | z
    · rw [z]
      exact ⟨_, he, fun v q => nomatch q⟩
    · rw [z]
      exact ⟨o, ho, fun v q => by rw [hd] at q; cases q⟩
  keep := fun i h h' st k => let ⟨⟨old, he⟩, hi, hne⟩ := st; ⟨⟨old, k e (by simp) _ he⟩, hi.at fun o q => k it (by simp) o q, hne⟩
  item := by
    intro X hP hw hK hc i pins s σ H E I hf st hg
    subst hP hw hK
    obtain ⟨⟨old, he⟩, hit, hne, hai, hae⟩ := st
    obtain ⟨xs, x, hq, hx⟩ := hg
    obtain ⟨its, rv, p, hz⟩ := I.tuple hq
    have hel : e < s.heap.objs.size := Heap.lt_size he
    have hil : it < s.heap.objs.size := by
      obtain ⟨_, q, _⟩ := hit
      exact Heap.lt_size q
    have hlt : i < its.toArray.size := by
      have h1 := rv.length
      have h2 := (List.getElem?_eq_some_iff.mp hx).1
      rw [List.size_toArray]
      omega
    refine wpAny_pyNext_enum_itemD (Draws.tuple (A := X.A.in1) (I.ok.hd hc) it a hai its.toArray) he ⟨hit, show s.heap.IsTuple a its.toArray from p⟩ hlt hne (by simp [hne, Ne.symm hae]) fun u h' tk hu ho hst hT hsz hk => ?_
    refine ⟨_, rfl, wpAny_letOwnedTupleGo_enum (s := { s with heap := h', toks := tk + 1 }) ho fun h'' he' sb => ?_⟩
    have ru : RelV x u := by
      obtain ⟨u2, hu2, r2⟩ := rv.get hx
      have hu : its.toArray[i]? = some u := hu
      rw [List.getElem?_toArray, hu2] at hu
      cases hu
      exact r2
    have hT2 : h''.get? s.heap.objs.size = some { cls := .type "tuple", data := .seq #[.int i tk, u] } := (sb.2 _ (Nat.ne_of_gt hel)).trans hT
    have new : ObjOk X.prog X.w (upd H s.heap.objs.size (.tup [.int (i : Nat), x])) h'' s.heap.objs.size (.tup [.int (i : Nat), x]) :=
      ⟨by show 2 ≤ sizeLine; decide, [.int i tk, u], .cons ⟨_, rfl⟩ (.cons ru .nil), ⟨_, hT2, rfl, _, rfl⟩⟩
    have I1 : Inv X pins σ (upd H s.heap.objs.size (.tup [.int (i : Nat), x])) { s with heap := h'', toks := tk + 1 } :=
      I.turnedNew (ch := [e, it]) (fun b ob hb q => (sb.2 b (fun z => hb (by simp [z]))).trans (hk b ob (fun z => hb (by simp [z])) (fun z => hb (by simp [z])) q)) hf (Nat.le_refl _) new
    refine ⟨.ref s.heap.objs.size, _, I1, rfl, ⟨_, x, rfl, I.hok.fresh (Nat.le_refl _), rfl, fun ys hy => by rw [I.tuple_inj hy hq]; exact hx⟩, ⟨⟨u, ?_⟩, hst.1.at fun o q => (sb.2 it (Ne.symm hne)).trans q, hne, hai, hae⟩, fun b hb => ?_⟩
    · have e1 : ((i + 1 : Nat) : Int) = (i : Int) + 1 := by omega
      rw [e1]
      exact he'
    · have hb' : b < s.heap.objs.size := by
        have e' : b = e ∨ b = it := by simpa using hb
        rcases e' with z | z
        · rw [z]; exact hel
        · rw [z]; exact hil
      rw [upd_ne (Nat.ne_of_lt hb')]
      exact (hf b hb).1
  done := by
    intro X hP hw hK hc i pins s σ H E I hf st hg
    subst hP hw hK
    obtain ⟨⟨old, he⟩, hit, hne, hai, hae⟩ := st
    obtain ⟨xs, hq, hx⟩ := hg
    obtain ⟨its, rv, p, hz⟩ := I.tuple hq
    obtain ⟨f0, f1, f2, f3, f4, f5⟩ := hf it (by simp)
    have hl := rv.length
    have hfin : ∀ j, j = i → its.toArray.size ≤ j → wpAny (model X.prog X.w) X.A (pyNext (.ref e)) (fun r s1 => r = none ∧ Inv X pins σ H s1) E s := fun j _ _ => by
      have hT : s.TypeIs (.ref e) "enumerate" := ⟨_, he, rfl⟩
      unfold pyNext
      refine wpAny_bind (wpAny_attempt (wpAny_callSpecial?_slot (name := Str.ofString "__next__") hT F.slot_enumerate_next
        (wpAny_call_entry F.slot_enumerate_next hT F.entry_enumerate_next ?_ (F.args_enumerate_next_1 _))))
      show wpAny _ _ (field (.ref e) 2 >>= _) _ _ _
      refine wpAny_bind (wpAny_field he rfl (x := .ref it) rfl ?_)
      refine wpAny_bind (wpAny_nextOf_tuple_end (I.ok.hd hc) hit (show s.heap.IsTuple a its.toArray from p) (by simp; omega) fun h' x he' hx' => ?_)
      obtain ⟨o, ho, hcs⟩ := hx'
      refine wpAny_bind (wpAny_isInstance (T := "StopIteration") (b := true) ⟨o, ho, hcs⟩ isSubtype_stop ?_)
      exact wpAny_pure ⟨rfl, I.turned (t' := s.toks) (fun b o hb q => he' b o hb q) f0 f1 f3 f4 f5⟩
    exact hfin i rfl (by simp; omega)
  self := fun A i s Q E st h => let ⟨⟨_, he⟩, _⟩ := st; wpAny_pyIter_enum he h
theorem pi_enumA {X : Cx} {e : Expr} {ta : TA} {p pos tpos : Pos} {elts : List Expr} {kk : Nat} (hg : Gl X "enumerate") (hm : X.mg "enumerate" = none) (ha : PA X [e] ta) (hs : starEach [e] X.env = [(false, eval e X.env)] := by rfl) :
    PI X (.Tuple elts kk tpos) (.Call (.Name "enumerate" p) [e] [] pos) (fun σ H R => ta σ H fun vs H1 => (∃ a xs, vs = [.ref a] ∧ SqL X.K H1 a xs ∧ R (Ite X.K a) H1) ∨ ∃ a xs, vs = [.ref a] ∧ SqT X.K H1 a xs ∧ R (IteT X.K a) H1) := by
  refine ⟨fun pins s σ H R I h => ?_⟩
  refine Call_ (ld_blt I hg hm boot_enumerate (PyProof.Rows.callWith_type1 (thn (ha.run pos pins s σ H _ I h) fun us s1 ⟨vs, H1, I1, r1, q1⟩ => ?_) hs rfl))
  have fresh : ∀ b ∈ [s1.heap.objs.size + 1, s1.heap.objs.size], FpOk X pins H1 b := fun b hb => by
    have e' : b = s1.heap.objs.size + 1 ∨ b = s1.heap.objs.size := by simpa using hb
    have hle : s1.heap.objs.size ≤ b := by
      rcases e' with z | z
      · rw [z]; exact Nat.le_add_right _ _
      · rw [z]; exact Nat.le_refl _
    exact I1.fpOk hle (I1.hok.fresh hle)
  rcases q1 with ⟨a, xs, ex, hq, q⟩ | ⟨a, xs, ex, hq, q⟩
  · subst ex
    cases r1 with
    | cons r rr =>
      cases rr
      cases r
      obtain ⟨its, rv, p', hz⟩ := I1.list hq
      refine call_enumerate_list p'.isList fun h' he hit hsz hk => wpAny_pyIter_enum he ?_
      exact ⟨s1.heap.objs.size + 1, [s1.heap.objs.size + 1, s1.heap.objs.size], _, _, H1, rfl, I1.kept (t' := s1.toks) hk, turn_enum a (s1.heap.objs.size + 1) s1.heap.objs.size, ⟨⟨.none, he⟩, hit, Nat.succ_ne_self _⟩, fresh, q⟩
  · subst ex
    cases r1 with
    | cons r rr =>
      cases rr
      cases r
      obtain ⟨its, rv, p', hz⟩ := I1.tuple hq
      have hal : a < s1.heap.objs.size := by
        obtain ⟨o, ho, _⟩ := id p'
        exact Heap.lt_size ho
      refine call_enumT (show s1.heap.IsTuple a its.toArray from p') fun h' he hit hk => wpAny_pyIter_enum he ?_
      exact ⟨s1.heap.objs.size + 1, [s1.heap.objs.size + 1, s1.heap.objs.size], _, _, H1, rfl, I1.kept (t' := s1.toks) hk, turn_enumT a (s1.heap.objs.size + 1) s1.heap.objs.size, ⟨⟨.none, he⟩, hit, Nat.succ_ne_self _, Nat.ne_of_lt hal, Nat.ne_of_lt (Nat.lt_succ_of_lt hal)⟩, fresh, q⟩
/-! ### its meaning -/
section
variable {C : Ct} {W : WX} {X : Cx} {pos p tpos : Pos} {elts : List Expr} {kk : Nat}
theorem enumD_get : ∀ {ds : List D} {n i : Nat} {x : D}, (enumD n ds)[i]? = some x → ∃ d, ds[i]? = some d ∧ x = .tup [.int ((n + i : Nat) : Int), d]
  | [], n, i, x, h => by simp [enumD] at h
  | d :: ds, n, 0, x, h => by
    simp [enumD] at h
    exact ⟨d, rfl, by rw [← h]; rfl⟩
  | d :: ds, n, i + 1, x, h => by
    rw [enumD, List.getElem?_cons_succ] at h
    obtain ⟨e, h1, h2⟩ := enumD_get h
    exact ⟨e, by simpa using h1, by rw [h2, show n + 1 + i = n + (i + 1) by omega]⟩
theorem enumD_len : ∀ {ds : List D} {n : Nat}, (enumD n ds).length = ds.length
  | [], _ => rfl
  | _ :: r, n => congrArg Nat.succ (enumD_len (ds := r) (n := n + 1))
theorem wk_pair {ι : Io} {H : Hp} {d : D} {v : V} {T : Addr} {i : Nat} (n : H T = none) (r : Rp C ι H d v) : Ext ι H ι (upd H T (.tup [.int (i : Int), v])) ∧ ∀ st, RepS C st ι H → RepS C st ι (upd H T (.tup [.int (i : Int), v])) ∧ Rp C ι (upd H T (.tup [.int (i : Int), v])) (.tup [.int (i : Int), d]) (.ref T) :=
  ⟨Ext.new n, fun st S => ⟨S.new n, .tup (S.notIn n) (.inl upd_same) (.cons (.int _) (.cons (r.ext (Ext.new n)) .nil))⟩⟩
theorem wk_enumL {ι : Io} {H : Hp} {ds : List D} {a : Addr} {vs : List V} (hl : ds.length = vs.length) (k : ∀ ι' H', Tr ι H ι' H' → SqL C.K H' a vs ∧ Rps C ι' H' ds vs) : Wk C ι H (Ite C.K a) (enumD 0 ds) where
  go := fun i x ι' H' hx e => by
    obtain ⟨d, hd, ex⟩ := enumD_get hx
    rw [Nat.zero_add] at ex
    obtain ⟨h1, h2⟩ := k ι' H' e
    obtain ⟨v, hv, rv⟩ := h2.get hd
    refine ⟨⟨vs, v, h1, hv⟩, fun y H2 ⟨T, u, ey, nT, eH, hu⟩ => ?_⟩
    have e3 := hu vs h1
    rw [hv] at e3
    cases e3
    subst ey eH ex
    exact wk_pair nT rv
  stop := fun ι' H' e => ⟨vs, (k ι' H' e).1, by rw [enumD_len, hl]; exact Nat.le_refl _⟩
theorem wk_enumT {ι : Io} {H : Hp} {ds : List D} {a : Addr} {vs : List V} (hl : ds.length = vs.length) (k : ∀ ι' H', Tr ι H ι' H' → SqT C.K H' a vs ∧ Rps C ι' H' ds vs) : Wk C ι H (IteT C.K a) (enumD 0 ds) where
  go := fun i x ι' H' hx e => by
    obtain ⟨d, hd, ex⟩ := enumD_get hx
    rw [Nat.zero_add] at ex
    obtain ⟨h1, h2⟩ := k ι' H' e
    obtain ⟨v, hv, rv⟩ := h2.get hd
    refine ⟨⟨vs, v, h1, hv⟩, fun y H2 ⟨T, u, ey, nT, eH, hu⟩ => ?_⟩
    have e3 := hu vs h1
    rw [hv] at e3
    cases e3
    subst ey eH ex
    exact wk_pair nT rv
  stop := fun ι' H' e => ⟨vs, (k ι' H' e).1, by rw [enumD_len, hl]; exact Nat.le_refl _⟩
theorem si_enum {a : Expr} {ma : ME} (hk : X.K = C.K) (hg : Gl X "enumerate") (hm : X.mg "enumerate" = none) (ha : SE C X W a ma) (hs : starEach [a] X.env = (false, eval a X.env) :: starEach [] X.env := by rfl) (hs2 : starEach [a] X.env = [(false, eval a X.env)] := by rfl) :
    SI C X W (.Tuple elts kk tpos) (.Call (.Name "enumerate" p) [a] [] pos) (iEnum ma) :=
  pi_imp (pi_enumA hg hm (sa_cons (W := W) ha sa_nil hs) hs2) fun σ H R ⟨ρ, st, ι, hE, hS, hP⟩ => by
    refine ⟨ρ, st, ι, hE, hS, ?_⟩
    have hP : PostR C ι H (okI C R) (exW C.K W σ) ((ma ρ st).bd fun d st => match d with
      | .lst l => .ok (enumD 0 l) st
      | .tup l => .ok (enumD 0 l) st
      | _ => .fail) := hP
    unfold aCons
    cases q : ma ρ st with
    | exn e st1 =>
      rw [q] at hP
      exact hP
    | fail =>
      rw [q] at hP
      exact hP
    | ok d st1 =>
      rw [q] at hP
      show PostR C ι H _ _ (.ok [d] st1)
      intro ι1 H1 e1 hS1 vs rs
      obtain ⟨v, rfl, rx⟩ := rps1 rs
      have hP := PostR.ext e1 hP
      cases d <;> try exact no_case hP
      · obtain ⟨a, vs, e, rs2, kk⟩ := rx.staysT
        subst e
        refine .inr ⟨a, vs, rfl, by rw [hk]; exact (kk _ _ (Tr.refl _ _)).1, ?_⟩
        rw [hk]
        exact post_ok hS1 hP _ (wk_enumT rs2.length kk)
      · obtain ⟨a, vs, e, rs2, kk⟩ := rx.stays
        subst e
        refine .inl ⟨a, vs, rfl, by rw [hk]; exact (kk _ _ (Tr.refl _ _)).1, ?_⟩
        rw [hk]
        exact post_ok hS1 hP _ (wk_enumL rs2.length kk)
end
end CV
/-! CVo: writing to the store; augmented assignments; pairs of names; raise; sorted and tuple of generator expressions. -/
namespace CV
open PySem PySem.Spec PyProof.Rows L2

/-! ### sorted, tuple of a generator expression -/
def mGx (mi : MI) (vs : List Nat) (g : MG) (t : MT) (e : ME) (k : List (D × Sto) → Sto → R D) : ME := fun ρ st => (mi ρ st).bd fun ds st => (lcS g t e (wipeE ρ vs) ds st).bd k
def kSorted (os : List (D × Sto)) (st : Sto) : R D := if sortOk (os.map (·.1)) && fits (os.map (·.1)).length then .ok (.lst (sortD (os.map (·.1)))) st else .fail
def kTuple (os : List (D × Sto)) (st : Sto) : R D := if fits (os.map (·.1)).length then .ok (.tup (os.map (·.1))) st else .fail
section
variable {C : Ct} {X : Cx} {W : WX} {k : Nat} {c : Addr} {tb : Tb} {tg elt iter : Expr} {ifs : List Expr} {scope : Scope} {gpos pos p : Pos} {own sl : List Nat} {mi : MI} {g : MG} {t : MT} {e : ME}
theorem se_sortedG (hk : X.K = C.K) (hr : Room (k + 6) X.A) (hg : Gl X "sorted") (hm : X.mg "sorted" = none) (hv : bootBuiltins "sorted" = some (.builtin "sorted")) (GT : GxTab C X c tb) (hgp : tb.lam.contains (gpos.line, gpos.col) = false) (Gp : GxParts C X k W tg elt iter ifs scope own sl mi g t e)
    (he : starEach [.GeneratorExp elt [⟨tg, iter, ifs, 0⟩] scope gpos] X.env = (false, eval (.GeneratorExp elt [⟨tg, iter, ifs, 0⟩] scope gpos) X.env) :: starEach [] X.env := by rfl) :
    SE C X W (.Call (.Name "sorted" p) [.GeneratorExp elt [⟨tg, iter, ifs, 0⟩] scope gpos] [] pos) (mGx mi own g t e kSorted) := by
  refine ⟨fun pins s σ H Q I h => ?_⟩
  obtain ⟨ρ, st, ι, hE, hS, hP⟩ := h
  refine wpAny_Call_Name_kw (ld_blt I hg hm hv ?_)
  refine PyProof.Rows.callWith_builtin1 ?_ he (by rfl)
  rw [he]
  show wpAny _ _ (spliced ((false, eval (.GeneratorExp elt [⟨tg, iter, ifs, 0⟩] scope gpos) X.env) :: backTo pos (starEach [] X.env))) _ _ s
  refine Calls.spliced_cons (gx_new hr GT hgp Gp I hE hS hP fun s5 st5 ι5 H5 a gi os stF gs e5 hS5 I5 hgen hgs ha hA hP5 => ?_)
  refine Calls.spliced_nil ?_
  have hP5 : PostR C ι5 H5 (okV C Q) (exW C.K W σ) (if (sortOk (os.map (·.1)) && fits (os.map (·.1)).length) = true then .ok (.lst (sortD (os.map (·.1)))) stF else .fail) := hP5
  by_cases hok : (sortOk (os.map (·.1)) && fits (os.map (·.1)).length) = true
  · rw [if_pos hok] at hP5
    rw [Bool.and_eq_true] at hok
    refine Calls.call_function_entry kind_sorted plain_sorted entry_sorted (args_sorted1 _) ?_
    unfold Builtin.«sorted»
    refine wpAny_bind (m := checkCount "sorted" 1 1 _) (wpAny_pure ?_)
    have hl := fits_line hok.2
    rw [List.length_map] at hl
    refine wpAny_bind (collect_alive (A := X.A.in1) (k := k) (Room.in1 (Room.mono hr (by omega))) I5.ok.frames rfl hA hgen hgs ha I5 hl fun ι' H' s' its ys e' hS' I' v' r' => ?_)
    exact sort_run hk I' hS' r' v' hok.1 hok.2 (by have := hr.un; show X.A.units + 1 + 100 < cLine; omega) (hP5.ext e') fun u s2 h2 => h2
  · rw [if_neg hok] at hP5
    exact no_case hP5
theorem se_tupleG (hr : Room (k + 8) X.A) (hg : Gl X "tuple") (hm : X.mg "tuple" = none) (hv : bootBuiltins "tuple" = some (.type "tuple")) (GT : GxTab C X c tb) (hgp : tb.lam.contains (gpos.line, gpos.col) = false) (Gp : GxParts C X k W tg elt iter ifs scope own sl mi g t e)
    (he : starEach [.GeneratorExp elt [⟨tg, iter, ifs, 0⟩] scope gpos] X.env = (false, eval (.GeneratorExp elt [⟨tg, iter, ifs, 0⟩] scope gpos) X.env) :: starEach [] X.env := by rfl) :
    SE C X W (.Call (.Name "tuple" p) [.GeneratorExp elt [⟨tg, iter, ifs, 0⟩] scope gpos] [] pos) (mGx mi own g t e kTuple) := by
  refine ⟨fun pins s σ H Q I h => ?_⟩
  obtain ⟨ρ, st, ι, hE, hS, hP⟩ := h
  refine wpAny_Call_Name_kw (ld_blt I hg hm hv ?_)
  refine PyProof.Rows.callWith_type1 ?_ he (by rfl)
  rw [he]
  show wpAny _ _ (spliced ((false, eval (.GeneratorExp elt [⟨tg, iter, ifs, 0⟩] scope gpos) X.env) :: backTo pos (starEach [] X.env))) _ _ s
  refine Calls.spliced_cons (gx_new hr GT hgp Gp I hE hS hP fun s5 st5 ι5 H5 a gi os stF gs e5 hS5 I5 hgen hgs ha hA hP5 => ?_)
  refine Calls.spliced_nil ?_
  have hP5 : PostR C ι5 H5 (okV C Q) (exW C.K W σ) (if fits (os.map (·.1)).length = true then .ok (.tup (os.map (·.1))) stF else .fail) := hP5
  by_cases hok : fits (os.map (·.1)).length = true
  · rw [if_pos hok] at hP5
    have hl := fits_line hok
    rw [List.length_map] at hl
    refine callType_codes (Q₁ := fun obj s₁ => s₁.TypeIs obj "tuple" ∧ EP X pins σ Q obj s₁) F.called_tuple (F.typeCall_tuple_1 _) F.entry_object_init ?_ fun obj s₁ h₁ => ?_
    · refine codeAny_of_tree ?_
      show wpAny _ X.A.in1.in1 (do checkBuiltinCall "tuple.__new__" ⟨[.type "tuple", .ref a], []⟩; again (.builtin "tuple.__new__" ⟨[.type "tuple", .ref a], []⟩)) _ _ s5
      refine wpAny_bind (wpAny_of_eq (F.newCall_tuple_1 _) (wpAny_pure ⟨plainId_quiet F.plain_tuple_new _, codeAny_builtin F.entry_tuple_new ?_⟩))
      rw [Around.under_plainId F.plain_tuple_new _]
      have hsub := sub_tuple_self
      have hinit := init_tuple_lookup
      have hmh := madeHere_tuple
      have hTI := Heap.IsGen.typeIs hgen
      have hcol := fun (Q : List Value → Shared → Prop) (E : Value → Shared → Prop) fin => collect_alive (A := X.A.in1.in1) (k := k) (Q := Q) (E := E) (Room.in1 (Room.in1 (Room.mono hr (by omega)))) I5.ok.frames rfl hA hgen hgs ha I5 hl fin
      wp_walk using wpAny_typeOf hTI, hcol
      intro ι' H' s' its ys e' hS' I' v' r'
      show wpAny _ _ (Builtin.Tuple.tupleExact its.toArray >>= fun v => ret v) _ _ _
      unfold Builtin.Tuple.tupleExact
      have l1 := v'.length
      have l2 := r'.length
      rw [List.length_map] at l2
      refine wpAny_bind (wpAny_newObj_type ?_ (by show its.toArray.size ≤ sizeLine; rw [List.size_toArray]; omega))
      refine wpAny_pure ⟨⟨_, Heap.get?_push_size _ rfl, rfl⟩, ?_⟩
      have hn : H' s'.heap.objs.size = none := I'.hok.fresh (Nat.le_refl _)
      refine ⟨.ref s'.heap.objs.size, upd H' s'.heap.objs.size (.tup ys), I'.laid (t' := s'.toks) (fun b o e => Heap.get?_push_of_some _ e) (Nat.le_refl _) (show ObjOk X.prog X.w _ _ _ (.tup ys) from ⟨by omega, its, v', IsTup.new _ _⟩), rfl, ?_⟩
      exact new_tup hS' r' (hP5.ext e') _ hn
    · exact ⟨h₁.1, F.args_object_init_2 obj _, object_init_meets F.called_tuple.init.lookup F.called_tuple.made (by decide) X.prog X.w X.A.in1 _ s₁ ⟨h₁.1, rfl, h₁.2⟩⟩
  · rw [if_neg hok] at hP5
    exact no_case hP5
/-- sorted(xs) of a pure list -/
def rSortD (C : Ct) : List V → Hp → VK → Prop := fun vs H Q => ∃ (l : List D) (st : Sto) (ι : Io) (exP : Str → Option Addr → Hp → Prop), RepS C st ι H ∧ Rps C ι H [.lst l] vs ∧ sortOk l = true ∧ fits l.length = true ∧ PostR C ι H (okV C Q) exP (.ok (.lst (sortD l)) st)
theorem blt_sorted : BltS C fSorted (rSortD C) := by
  intro ds st ι H vs Q exP hS rs hP
  rcases ds with _ | ⟨d, _ | ⟨e, r⟩⟩
  · exact no_case hP
  · cases d <;> try exact no_case hP
    rename_i l
    have hP : PostR C ι H (okV C Q) exP (if (sortOk l && fits l.length) = true then .ok (.lst (sortD l)) st else .fail) := hP
    by_cases hok : (sortOk l && fits l.length) = true
    · rw [if_pos hok] at hP
      rw [Bool.and_eq_true] at hok
      exact ⟨l, st, ι, exP, hS, rs, hok.1, hok.2, hP⟩
    · rw [if_neg hok] at hP
      exact no_case hP
  · exact no_case (by cases d <;> exact hP)
theorem cr_sortD (hk : X.K = C.K) (hr : Room k X.A) : CallR X (.builtin "sorted") (rSortD C) := by
  intro pins s σ H vs us Q I r h
  obtain ⟨l, st, ι, exP, hS, rs, hok, hf, hP⟩ := h
  obtain ⟨v, rfl, rx⟩ := rps1 rs
  obtain ⟨a, ws, rfl, h1, h2⟩ := rx.sql
  rw [Vals.ref1 r]
  rw [← hk] at h1
  obtain ⟨its, rv, p, hz⟩ := I.list h1
  have hlz : its.length ≤ sizeLine := by have := rv.length; omega
  refine Calls.call_function_entry kind_sorted plain_sorted entry_sorted (args_sorted1 _) ?_
  unfold Builtin.«sorted»
  refine wpAny_bind (m := checkCount "sorted" 1 1 _) (wpAny_pure ?_)
  refine wpAny_bind (collect_list p.isList ?_ hlz)
  have I1 : Inv X pins σ H { s with heap := (s.heap.push (seqObj "list" #[] 0)).update s.heap.objs.size (Obj.mapSeq (· ++ its.toArray)) } := I.kept (t' := s.toks) fun b o e => (Heap.get?_update_other _ _ (Ne.symm (Nat.ne_of_lt (Heap.lt_size e)))).trans (Heap.get?_push_of_some _ e)
  exact sort_run hk I1 hS h2 rv hok hf (by have := hr.un; show X.A.units + 1 + 100 < cLine; omega) hP fun u s2 h2 => h2
end

/-! ### a comprehension's list kept in the store -/
def mLcM (it : MI) (vs : List Nat) (g : MG) (t : MT) (e : ME) : ME := fun ρ st => (it ρ st).bd fun ds st => if fits ds.length then (match lcL g t e (wipeE ρ vs) ds st with
  | .ok r st => .ok (.obj st.length) (st ++ [.lst r])
  | _ => .fail) else .fail

/-! ### writing to the store -/
section
variable {C : Ct} {X : Cx} {W : WX} {st : Sto} {ι : Io} {H : Hp}
theorem Ext.put {i : Nat} {a : Addr} {o : HO} (S : RepS C st ι H) (h : ι.v[i]? = some (some a)) : Ext ι H ι (upd H a o) :=
  ⟨⟨fun _ _ h => .inl h, fun b u nb hb _ => ⟨by
    rw [upd_ne (fun z => nb.v (by rw [z]; exact List.mem_of_getElem? h))]
    exact hb, nb⟩⟩, rfl, fun b u m hb _ => by
    rw [upd_ne (fun z => S.ap b m (by rw [z]; exact List.mem_of_getElem? h))]
    exact hb⟩
theorem RepS.put {i : Nat} {a : Addr} {l : List D} {vs : List V} (S : RepS C st ι H) (h : ι.v[i]? = some (some a)) (hi : i < st.length) (hp : ∃ ws, H a = some (.lst ws)) (r : Rps C ι H l vs) : RepS C (st.set i (.lst l)) ι (upd H a (.lst vs)) := by
  have e := Ext.put (o := .lst vs) S h
  obtain ⟨ws, hp⟩ := hp
  refine ⟨by rw [List.length_set]; exact S.len, S.inj, fun j ob x h1 h2 => ?_, tabs_put S.tabs hp, fun j b hb => ?_, fun b hb => ?_, S.ap⟩
  · by_cases z : i = j
    · subst z
      rw [List.getElem?_set_self hi] at h1
      cases h1
      rw [h] at h2
      cases h2
      exact ⟨a, vs, rfl, upd_same, r.ext e⟩
    · rw [List.getElem?_set_ne z] at h1
      exact (S.at_ j ob x h1 h2).tr e.toTr fun b o ex hb => by
        rw [upd_ne (fun y => z (S.inj i j a h (by rw [h2, ex, y])))]
        exact hb
  · by_cases z : b = a
    · rw [z]
      exact ⟨_, upd_same, trivial⟩
    · obtain ⟨o, h1, h2⟩ := S.tf j b hb
      exact ⟨o, by rw [upd_ne z]; exact h1, h2⟩
  · obtain ⟨o, h1, h2⟩ := S.th b hb
    exact ⟨o, by rw [upd_ne (fun z => S.ap b hb (by rw [z]; exact List.mem_of_getElem? h))]; exact h1, h2⟩
/-- a place of a list of the store is written -/
theorem put_at {i : Nat} {k : Int} {d : D} {v : V} {x : V} {st' : Sto} (S : RepS C st ι H) (h : putO st i k d = some st') (rx : Rp C ι H (.obj i) x) (rv : Rp C ι H d v) :
    ∃ a ws j, x = .ref a ∧ H a = some (.lst ws) ∧ ixN ws.length k = some j ∧ Ext ι H ι (upd H a (.lst (ws.set j v))) ∧ RepS C st' ι (upd H a (.lst (ws.set j v))) := by
  unfold putO at h
  cases q : getO st i with
  | none =>
    rw [q] at h
    cases h
  | some l =>
    rw [q] at h
    obtain ⟨a, ws, h1, e, h2, h3⟩ := obj_at S q rx
    cases q2 : ixN l.length k with
    | none =>
      simp only [q2] at h
      cases h
    | some j =>
      simp only [q2] at h
      cases h
      have hi : i < st.length := by
        have := (List.getElem?_eq_some_iff.mp h1).1
        rw [← S.len]
        exact this
      rw [h3.length] at q2
      exact ⟨a, ws, j, e, h2, q2, Ext.put S h1, S.put h1 hi ⟨ws, h2⟩ (Rps.set rv j h3)⟩
variable {pos tpos : Pos} {o i a : Expr} {mo mi ma : ME}
theorem sg_sub (ho : SE C X W o mo) (hi : SE C X W i mi)
    (ha : ∀ v, assign (.Subscript o i pos) X.env v = (do
      let ov ← holding [v] (eval o X.env)
      let iv ← holding [v, ov] (eval i X.env)
      standAt pos
      holding [v, ov, iv] (setItem ov iv v)
      release [v, ov, iv] []) := by intro _; rfl) : SG C X W [] (.Subscript o i pos) (gSub mo mi) :=
  pg_imp (pg_sub ho hi set_list ha) fun v σ H Q ⟨d, ρ, st, ι, hE, hS, rv, hP⟩ =>
    rd_seq hE hS hP fun x st1 ι1 H1 vx hE1 hS1 e1 rx hP1 => rd_seq hE1 hS1 hP1 fun y st2 ι2 H2 vy hE2 hS2 e2 ry hP2 => by
      cases x with
      | obj a =>
        cases y with
        | int k =>
          have hP2 : PostR C ι2 H2 (okG C [] σ Q) (exW C.K W σ) (match putO st2 a k d with
            | some st' => .ok ρ st'
            | none => .fail) := hP2
          cases q : putO st2 a k d with
          | none =>
            rw [q] at hP2
            exact no_case hP2
          | some st' =>
            rw [q] at hP2
            cases ry
            obtain ⟨b, ws, j, e, h1, h2, e3, S3⟩ := put_at hS2 q (rx.ext e2) (rv.ext (e1.trans e2))
            exact ⟨b, ws, k, j, e, rfl, h1, h2, hP2 ι2 _ e3 S3 σ (hE2.ext e3) At.refl⟩
        | _ => exact no_case hP2
      | _ => exact no_case hP2

/-! ### augmented assignments -/
def oAddI : D → D → Sto → R D
  | .int i, .int j, st => .ok (.int (i + j)) st
  | _, _, _ => .fail
abbrev oSubI := oSub
theorem ops_addI : OpS C oAddI (ipI fun i j => i + j) := fun x y st ι H v u Q exP hS rx ry hP => by
  cases x <;> try exact no_case hP
  cases y <;> try exact no_case hP
  cases rx; cases ry
  exact ⟨_, _, rfl, rfl, post_ok hS hP _ (.int _)⟩
theorem ops_subI : OpS C oSubI (ipI fun i j => i - j) := fun x y st ι H v u Q exP hS rx ry hP => by
  cases x <;> try exact no_case hP
  cases y <;> try exact no_case hP
  cases rx; cases ry
  exact ⟨_, _, rfl, rfl, post_ok hS hP _ (.int _)⟩
theorem ss_aug {n : Nat} {x : Str} {op : Operator} {f : D → D → Sto → R D} {r : TIp} {pos' : Pos} (hN : X.N.Nodup) (hi : X.N[n]? = some x) (hx : Loc X.env.scope x) (ha : SE C X W a ma) (hp : PIp X op r) (ho : OpS C f r) (hf : X.fn x = true ∨ X.env.scope.names.lookup x = some .local := by first | exact .inl rfl | exact .inr rfl | assumption) :
    SS C X W (.AugAssign (.Name x pos') op a pos) (sAug n f ma) := ps_imp (ps_aug hN hi hx ha hp hf) fun Dn σ H ⟨ρ, st, ι, hE, hS, hP⟩ => by
  unfold sAug at hP
  cases q : look ρ n with
  | none =>
    simp only [q] at hP
    exact (show False from hP).elim
  | some d =>
    simp only [q] at hP
    obtain ⟨v, h1, h2⟩ := hE.look q
    refine ⟨v, h1, rs_seq hE hS hP fun y st1 ι1 H1 v1 hE1 hS1 e1 ry hP1 => ?_⟩
    refine ho d y st1 ι1 H1 v v1 _ (exW C.K W σ) hS1 (h2.ext e1) ry ((hP1.bs σ).imp (fun z st2 ι2 H2 e2 hS2 hP2 w rw => ?_) fun _ _ _ z => z)
    exact hP2 ι2 H2 _ (Ext.refl _ _) hS2 ((hE1.ext e2).set rw n)
/-- xs[i] += e, xs a list of the store -/
def sAugS (o i : ME) (f : D → D → Sto → R D) (a : ME) : MS := fun ρ st => (o ρ st).bs fun x st => (i ρ st).bs fun y st => match x, y with
  | .obj b, .int k => (match getO st b with
    | some l => (match L2.atI l k with
      | some d => (a ρ st).bs fun w st => (f d w st).bs fun z st => (match putO st b k z with
        | some st' => .nx ρ st'
        | none => .fail)
      | none => .fail)
    | none => .fail)
  | _, _ => .fail
def rGetL (K : PySem.W.Frag) : V → V → Hp → VK → Prop := fun o i H Q => ∃ p xs k z, o = .ref p ∧ i = .int k ∧ H p = some (.lst xs) ∧ atI xs k = some z ∧ Q z H
theorem pget_list : PGet X (rGetL X.K) := by
  intro pins s σ H o i ov iv Q I ro ri h
  obtain ⟨p, xs, k, z, rfl, rfl, hp, hz, q⟩ := h
  cases ro
  obtain ⟨t, rfl⟩ := ri
  obtain ⟨its, r, pl, hl⟩ := I.list (SqL.of hp)
  obtain ⟨j, h1, h2, h3, h4, h5⟩ := atI_get hz
  obtain ⟨w, ew, rw'⟩ := r.get h2
  have hll := r.length
  have hn := line63
  have fin : EP X pins σ Q w s := ⟨z, H, I, rw', q⟩
  by_cases h0 : 0 ≤ k
  · have hj : k.toNat = j := by
      rw [seqIndex_of h0 h5] at h1
      exact Option.some.inj h1
    exact wpAny_getItem_list pl.isList h0 (by omega) (by rw [hj]; simpa using ew) fin
  · have hj : (k + (its.toArray.size : Int)).toNat = j := by
      rw [seqIndex_neg (by omega) h4] at h1
      rw [List.size_toArray, ← hll]
      exact Option.some.inj h1
    exact wpAny_getItem_list_neg pl.isList (by omega) (by rw [List.size_toArray] <;> omega) (by omega) (by rw [hj]; simpa using ew) fin
theorem ss_augS {op : Operator} {f : D → D → Sto → R D} {r : TIp} (ho : SE C X W o mo) (hi : SE C X W i mi) (ha : SE C X W a ma) (hp : PIp X op r) (hf : OpS C f r) (hk : X.K = C.K)
    (hst : ∀ ov iv new, augStore i ov iv new = (do holding [new, ov, iv] (setItem ov iv new); release [new, ov, iv] []; pure .next) := by intros; rfl) : SS C X W (.AugAssign (.Subscript o i tpos) op a pos) (sAugS mo mi f ma) :=
  ps_imp (ps_augS ho hi pget_list ha hp set_list hst) fun Dn σ H ⟨ρ, st, ι, hE, hS, hP⟩ =>
    rs_seq hE hS hP fun x st1 ι1 H1 vx hE1 hS1 e1 rx hP1 => rs_seq hE1 hS1 hP1 fun y st2 ι2 H2 vy hE2 hS2 e2 ry hP2 => by
      cases x with
      | obj b =>
        cases y with
        | int k =>
          have hP2 : PostS C W ι2 H2 Dn (match getO st2 b with
            | some l => (match L2.atI l k with
              | some d => (ma ρ st2).bs fun w st => (f d w st).bs fun z st => (match putO st b k z with
                | some st' => .nx ρ st'
                | none => .fail)
              | none => .fail)
            | none => .fail) := hP2
          cases q : getO st2 b with
          | none =>
            rw [q] at hP2
            exact (show False from hP2).elim
          | some l =>
            rw [q] at hP2
            dsimp only at hP2
            cases q2 : L2.atI l k with
            | none =>
              rw [q2] at hP2
              exact (show False from hP2).elim
            | some d =>
              rw [q2] at hP2
              dsimp only at hP2
              obtain ⟨p, ws, h1, e, h2, h3⟩ := obj_at hS2 q (rx.ext e2)
              obtain ⟨vd, h4, h5⟩ := h3.atI q2
              cases ry
              refine ⟨p, ws, k, vd, e, rfl, h2, h4, rs_seq hE2 hS2 hP2 fun w st3 ι3 H3 vw hE3 hS3 e3 rw hP3 => ?_⟩
              refine hf d w st3 ι3 H3 vd vw _ (exW C.K W σ) hS3 (h5.ext e3) rw ((hP3.bs σ).imp (fun z st4 ι4 H4 e4 hS4 hP4 u ru => ?_) fun _ _ _ z => z)
              cases q3 : putO st4 b k z with
              | none =>
                rw [q3] at hP4
                exact (show False from hP4).elim
              | some st' =>
                rw [q3] at hP4
                obtain ⟨p2, ws2, j, e5, h6, h7, e6, S6⟩ := put_at hS4 q3 (rx.ext (e2.trans (e3.trans e4))) ru
                exact ⟨p2, ws2, k, j, e5, rfl, h6, h7, hP4 ι4 _ σ e6 S6 ((hE3.ext e4).ext e6)⟩
        | _ => exact (show False from hP2).elim
      | _ => exact (show False from hP2).elim

/-! ### a, b = e1, e2 -/
theorem ss_par {i j : Nat} {x y : Str} {a b : Expr} {ma : MA} {px py pt : Pos} {kt k2 pt2} (hc : X.calm = true) (hN : X.N.Nodup) (hi : X.N[i]? = some x) (hj : X.N[j]? = some y) (hij : i ≠ j)
    (hx : X.env.scope.names.lookup x = some .local) (hy : X.env.scope.names.lookup y = some .local) (ha : SA C X W [a, b] ma)
    (hw : swappedStores [.Tuple [.Name x px, .Name y py] kt pt] (.Tuple [a, b] k2 pt2) X.env = pure (some [x, y]))
    (hs : swapsWithSole [.Tuple [.Name x px, .Name y py] kt pt] (.Tuple [a, b] k2 pt2) pos.line X.env = pure false := by rfl) :
    SS C X W (.Assign [.Tuple [.Name x px, .Name y py] kt pt] (.Tuple [a, b] k2 pt2) pos) (sPar [i, j] ma) :=
  ps_imp (ps_par hc hN hi hj hij hx hy ha hw hs) fun Dn σ H ⟨ρ, st, ι, hE, hS, hP⟩ => rs_seqA hE hS hP fun ds st1 ι1 H1 vs hE1 hS1 _ rs hP1 => by
    rcases ds with _ | ⟨d, _ | ⟨e, _ | ⟨e2, r⟩⟩⟩
    · exact (show False from hP1).elim
    · exact (show False from hP1).elim
    · obtain ⟨v, u, rfl, rv, ru⟩ := rps2 rs
      exact ⟨v, u, rfl, hP1 ι1 H1 _ (Ext.refl _ _) hS1 ((hE1.set rv i).set ru j)⟩
    · exact (show False from hP1).elim
theorem ss_par3 {i j l : Nat} {x y z : Str} {a b c : Expr} {ma : MA} {px py pz pt pos : Pos} {kt k2 pt2} (hc : X.calm = true) (hN : X.N.Nodup) (hi : X.N[i]? = some x) (hj : X.N[j]? = some y) (hl : X.N[l]? = some z) (hij : i ≠ j) (hil : i ≠ l) (hjl : j ≠ l)
    (hx : X.env.scope.names.lookup x = some .local) (hy : X.env.scope.names.lookup y = some .local) (hz : X.env.scope.names.lookup z = some .local) (ha : SA C X W [a, b, c] ma)
    (hw : swappedStores [.Tuple [.Name x px, .Name y py, .Name z pz] kt pt] (.Tuple [a, b, c] k2 pt2) X.env = pure (some [x, y, z]))
    (hs : swapsWithSole [.Tuple [.Name x px, .Name y py, .Name z pz] kt pt] (.Tuple [a, b, c] k2 pt2) pos.line X.env = pure false := by rfl) :
    SS C X W (.Assign [.Tuple [.Name x px, .Name y py, .Name z pz] kt pt] (.Tuple [a, b, c] k2 pt2) pos) (sPar [i, j, l] ma) :=
  ps_imp (ps_par3 hc hN hi hj hl hij hil hjl hx hy hz ha hw hs) fun Dn σ H ⟨ρ, st, ι, hE, hS, hP⟩ => rs_seqA hE hS hP fun ds st1 ι1 H1 vs hE1 hS1 _ rs hP1 => by
    rcases ds with _ | ⟨d, _ | ⟨e, _ | ⟨e2, _ | ⟨e3, r⟩⟩⟩⟩
    · exact (show False from hP1).elim
    · exact (show False from hP1).elim
    · exact (show False from hP1).elim
    · cases rs with
      | cons r1 rs =>
        obtain ⟨v, u, rfl, rv, ru⟩ := rps2 rs
        exact ⟨_, v, u, rfl, hP1 ι1 H1 _ (Ext.refl _ _) hS1 (((hE1.set r1 i).set rv j).set ru l)⟩
    · exact (show False from hP1).elim

/-! ### raise -/
theorem ss_raise {x : Str} {e : Expr} (hc : X.calm = true) (tk : Takes X W) (hx : PMk X e (fun _ H Q => Q (.ref (He.ga C.K x)) none H)) : SS C X W (.Raise (some e) none pos) (sRaise x) :=
  ps_imp (ps_raise hc tk hx) fun Dn σ H ⟨ρ, st, ι, hE, hS, hP⟩ => hP ι H none σ (Ext.refl _ _) hS
end
end CV
/-! CVp: a comprehension's list kept in the store; defs. -/
namespace CV
open PySem PySem.Spec PyProof.Rows L2

/-! ### y = [..], the list kept in the store -/
section
variable {C : Ct} {ι ι1 : Io} {H H1 : Hp} {p : Addr} {st : Sto}
theorem NI.grow {a : Addr} (n : NI a ι) (h : a ≠ p) : NI a (ι.grow p) := ⟨fun z => by
  rcases List.mem_append.mp z with z | z
  · exact n.v z
  · have z : some a = some p := by simpa using z
    exact h (Option.some.inj z), n.h⟩
theorem Tr.growHere : Tr (hideA ι p) H (ι.grow p) H := ⟨fun i x h => .inl (by
    have h : ι.v[i]? = some x := h
    have hi := (List.getElem?_eq_some_iff.mp h).1
    show (ι.v ++ [some p])[i]? = some x
    rw [List.getElem?_append_left hi]
    exact h), fun a u na h _ => ⟨h, na.ofHide.grow na.ne⟩⟩
theorem Ext.growHere (e : Ext ι1 H1 ι H) (n : H1 p = none) : Ext ι1 H1 (ι.grow p) H := ⟨⟨fun i x h => by
    have cut : ∀ y, ι.v[i]? = some y → (ι.grow p).v[i]? = some y := fun y hy => by
      have hi := (List.getElem?_eq_some_iff.mp hy).1
      show (ι.v ++ [some p])[i]? = some y
      rw [List.getElem?_append_left hi]
      exact hy
    rcases e.io i x h with z | z
    · exact .inl (cut _ z)
    · exact .inr (cut _ z), fun a o na h t => by
    obtain ⟨h1, n1⟩ := e.keep a o na h t
    exact ⟨h1, n1.grow (ne_of_none h n)⟩⟩, e.hd, e.hid⟩
theorem RepS.growHere {ds : List D} {vs : List V} (S : RepS C st (hideA ι p) H) (hp : H p = some (.lst vs)) (r : Rps C (hideA ι p) H ds vs) (nh : p ∉ ι.h) : RepS C (st ++ [.lst ds]) (ι.grow p) H := by
  have np : some p ∉ ι.v := S.ap p List.mem_cons_self
  have l : ι.v.length = st.length := S.len
  have cut : ∀ {i : Nat} {x : Option Addr}, (ι.grow p).v[i]? = some x → ι.v[i]? = some x ∨ (i = ι.v.length ∧ x = some p) := fun {i x} h => by
    have h : (ι.v ++ [some p])[i]? = some x := h
    by_cases hi : i < ι.v.length
    · rw [List.getElem?_append_left hi] at h
      exact .inl h
    · rw [List.getElem?_append_right (by omega)] at h
      have h2 : i - ι.v.length = 0 := by
        have := (List.getElem?_eq_some_iff.mp h).1
        simp at this
        omega
      rw [h2] at h
      have h : some (some p) = some x := h
      exact .inr ⟨by omega, (Option.some.inj h).symm⟩
  refine ⟨by simp [Io.grow, l], fun i j a h1 h2 => ?_, fun i ob x h1 h2 => ?_, S.tabs, fun i a h => ?_, fun a h => S.th a (List.mem_cons_of_mem _ h), fun a h z => ?_⟩
  · rcases cut h1 with h1 | ⟨h1, e1⟩ <;> rcases cut h2 with h2 | ⟨h2, e2⟩
    · exact S.inj i j a h1 h2
    · cases e2
      exact absurd (List.mem_of_getElem? h1) np
    · cases e1
      exact absurd (List.mem_of_getElem? h2) np
    · omega
  · rcases cut h2 with h2 | ⟨h2, e2⟩
    · have hi := (List.getElem?_eq_some_iff.mp h2).1
      rw [List.getElem?_append_left (by omega)] at h1
      exact (S.at_ i ob x h1 h2).tr Tr.growHere fun _ _ _ h => h
    · rw [List.getElem?_append_right (by omega)] at h1
      have h3 : i - st.length = 0 := by omega
      rw [h3] at h1
      have h1 : some (Ob.lst ds) = some ob := h1
      cases h1
      exact ⟨p, vs, e2, hp, r.tr Tr.growHere⟩
  · rcases cut h with h | ⟨_, e⟩
    · exact S.tf i a h
    · cases e
      exact ⟨_, hp, trivial⟩
  · have z : some a ∈ ι.v ++ [some p] := z
    rcases List.mem_append.mp z with z | z
    · exact S.ap a (List.mem_cons_of_mem _ h) z
    · have z : some a = some p := by simpa using z
      cases z
      exact nh h
end
section
variable {C : Ct} {W : WX} {X : Cx} {pos : Pos} {tg : Expr}
theorem rd_lcM {mi : MI} {vs sl : List Nat} {g : MG} {t : MT} {e : ME} {σ : L2.St} {H : Hp} {Q : VK} (hsl : ∀ i ∈ sl, i ∈ vs) (h : rdE C W (mLcM mi vs g t e) σ H Q) : tLc (rdI C W mi) (rdG C W0 sl g) (rdT C W0 t) (rdE C W0 e) vs σ H Q := by
  obtain ⟨ρ, st, ι, hE, hS, hP⟩ := h
  refine rd_lcG (okP := okV C Q) (F := fun r st => .ok (.obj st.length) (st ++ [Ob.lst r])) hsl hE hS hP fun r st' ι1 ι' H1 H' p ws hp np e' S hp' rs hP1 => ?_
  refine hP1 (ι'.grow p) H' (e'.growHere hp) (S.growHere hp' rs (by rw [e'.hd]; exact np.h)) _ (.obj (x := some p) ?_ fun a z => by cases z; rfl)
  have l : ι'.v.length = st'.length := S.len
  show (ι'.v ++ [some p])[st'.length]? = _
  rw [List.getElem?_append_right (by omega), l, Nat.sub_self]
  rfl
theorem se_lcM {elt iter : Expr} {ifs : List Expr} {scope : Scope} {own : List (Str × Nat)} {sl : List Nat} {mi : MI} {g : MG} {t : MT} {e : ME} (hc : X.calm = true) (hN : X.N.Nodup) (hsl : ∀ i ∈ sl, i ∈ own.map (·.2)) (hi : SI C X W tg iter mi) (ok : BlkOk X.N X.env.scope scope own)
    (hg : ∀ (s : Shared) (H : Hp) (c : Addr) (cl : List (Str × Addr)) (fp : List Addr), SG C (X.blk s H scope (compEnvC scope cl c X.env) fp) W0 sl tg g)
    (ht : ∀ (s : Shared) (H : Hp) (c : Addr) (cl : List (Str × Addr)) (fp : List Addr), PTs (X.blk s H scope (compEnvC scope cl c X.env) fp) ifs (rdT C W0 t))
    (he : ∀ (s : Shared) (H : Hp) (c : Addr) (cl : List (Str × Addr)) (fp : List Addr), SE C (X.blk s H scope (compEnvC scope cl c X.env) fp) W0 elt e) (hs : ∀ x, foldedSetIterable iter X.env x = pure x := by intro _; rfl) :
    SE C X W (.ListComp elt [⟨tg, iter, ifs, 0⟩] scope pos) (mLcM mi (own.map (·.2)) g t e) := pe_imp (pe_lc hc hN hi ok hg ht he hs) fun σ H Q h => rd_lcM hsl h
/-- name = [..] on one line -/
theorem ss_setLcM {i : Nat} {y : Str} {py spos : Pos} {elt iter : Expr} {ifs : List Expr} {scope : Scope} {own : List (Str × Nat)} {sl : List Nat} {mi : MI} {g : MG} {t : MT} {e : ME} (hc : X.calm = true) (hN : X.N.Nodup) (hsl : ∀ i ∈ sl, i ∈ own.map (·.2)) (hy : X.N[i]? = some y) (hyl : X.env.scope.names.lookup y = some .local)
    (hsw : swapsWith (.ListComp elt [⟨tg, iter, ifs, 0⟩] scope pos) (some (.Name y py)) spos.line X.env = pure true) (hi : SI C X W tg iter mi) (ok : BlkOk X.N X.env.scope scope own)
    (hg : ∀ (s : Shared) (H : Hp) (c : Addr) (cl : List (Str × Addr)) (fp : List Addr), SG C (X.blk s H scope (compEnvC scope cl c X.env) fp) W0 sl tg g)
    (ht : ∀ (s : Shared) (H : Hp) (c : Addr) (cl : List (Str × Addr)) (fp : List Addr), PTs (X.blk s H scope (compEnvC scope cl c X.env) fp) ifs (rdT C W0 t))
    (he : ∀ (s : Shared) (H : Hp) (c : Addr) (cl : List (Str × Addr)) (fp : List Addr), SE C (X.blk s H scope (compEnvC scope cl c X.env) fp) W0 elt e) (hs : ∀ x, foldedSetIterable iter X.env x = pure x := by intro _; rfl) :
    SS C X W (.Assign [.Name y py] (.ListComp elt [⟨tg, iter, ifs, 0⟩] scope pos) spos) (sAsg (mLcM mi (own.map (·.2)) g t e) (gName i)) :=
  ps_imp (ps_setLc hc hN hy hyl hsw hi ok hg ht he hs) fun Dn σ H ⟨ρ, st, ι, hE, hS, hP⟩ => rd_lcM hsl (rs_seq hE hS hP fun d st1 ι1 H1 v1 hE1 hS1 _ rx hP1 => hP1 ι1 H1 _ (Ext.refl _ _) hS1 (hE1.set rx i))
end

/-! ### defs -/
section
variable {C : Ct} {P : Program} {w : World} {mg : Str → Option Value} {base : Heap}
theorem env_start {ι : Io} {H : Hp} : ∀ {ds : List D} {vs : List V} (m : Nat), Rps C ι H ds vs → EnvR C ι H (ds.map some ++ List.replicate m none) (vs.map some ++ List.replicate m none)
  | [], _, 0, .nil => .nil
  | [], _, m + 1, .nil => .cons (fun d z => by cases z) (env_start m .nil)
  | _ :: _, _, m, .cons h r => .cons (fun d z => by cases z; exact ⟨_, rfl, h⟩) (env_start m r)
/-- the context of a def's body -/
abbrev dCx (C : Ct) (P : Program) (w : World) (mg : Str → Option Value) (base : Heap) (N : List Str) (q : Str) (scope : Scope) (f : Addr) (cdv : Value) (A : Around) (outer : List Env) (s : Shared) (H : Hp) (E : XK) : Cx := cxOf (L2.CX P w) P w C.K mg base N q scope f cdv A outer s H E
/-- what a def lets out, as a wish -/
abbrev WD (E : XK) : WX := fun cls d _ H => E cls d H
theorem takes_d {N : List Str} {q : Str} {scope : Scope} {f : Addr} {cdv : Value} {A : Around} {outer : List Env} {s : Shared} {H : Hp} {E : XK} : Takes (dCx C P w mg base N q scope f cdv A outer s H E) (WD E) := takes_of (E := E) rfl rfl rfl rfl
theorem passes_d {N : List Str} {q : Str} {scope : Scope} {f : Addr} {cdv : Value} {A : Around} {outer : List Env} {s : Shared} {H : Hp} {E : XK} :
    PassesOwn (model P w) (dCx C P w mg base N q scope f cdv A outer s H E).A (dCx C P w mg base N q scope f cdv A outer s H E).env (dCx C P w mg base N q scope f cdv A outer s H E).xe := passes_of (X := dCx C P w mg base N q scope f cdv A outer s H E) (K := fun e s'' => L2.CX P w outer H s E e s'') rfl
theorem blind_WD {E : XK} : Blind (WD E) := fun _ _ _ _ _ h => h
/-- a body, for any frame of the def -/
def Body (C : Ct) (P : Program) (w : World) (mg : Str → Option Value) (base : Heap) (N : List Str) (q : Str) (scope : Scope) (f : Addr) (k : Nat) (body : List Stmt) (b : MS) : Prop :=
  ∀ (cdv : Value), (∀ p : Str × Option Str, He.fAd C.K p = f → cdv = .ref (He.codeOf C.K p)) → ∀ (A : Around) (outer : List Env) (s : Shared) (H : Hp) (E : XK), Room k (A.deeper (envOfC q scope s.heap.objs.size f cdv)) → SSs C (dCx C P w mg base N q scope f cdv A outer s H E) (WD E) body b
theorem body_run {N : List Str} {n : Nat} {b : MS} (hn : N.length = n) {ds : List D} {vs : List V} {st : Sto} {ι : Io} {H : Hp} {Q : VK} {E : XK} (hS : RepS C st ι H) (rs : Rps C ι H ds vs)
    (hP : PostS C (WD E) ι H { nx := fun _ H' => Q .non H', rt := Q } (b (startE n ds) st)) : rdS C (WD E) b { nx := fun _ H' => Q .non H', rt := Q } (L2.start N vs) H := by
  refine ⟨startE n ds, st, ι, ?_, hS, hP⟩
  unfold startE L2.start
  rw [← rs.length, hn]
  exact env_start _ rs
section
variable {x q : Str} {params : Arguments} {body : List Stmt} {scope : Scope} {f : Addr} {fd : FuncData} {N ps : List Str} {k n m : Nat} {b : MS}
theorem code_of {p : Str × Option Str} {cdv oc : Value} {od : Option Addr} {osl : Array (Option Value)} {fd' : FuncData} (lk : C.K.lookup f = some ⟨oc, od, .func fd', osl⟩) (e : fd'.code = cdv) (h : PySem.W.codeIn C.K cdv q = true) (hp : He.fAd C.K p = f) : cdv = .ref (He.codeOf C.K p) := by
  obtain ⟨c, rfl⟩ := He.codeIn_ref h
  rw [← hp] at lk
  rw [He.codeOf_eq lk e]
theorem fund_ok {sp : Sp} (F : FunD C.K x q params body scope [] [] f fd) (S : FnScope N ps scope) (len : ∀ vs H Q E, sp vs H Q E → vs.length = ps.length)
    (hbody : ∀ (cdv : Value), (∀ p : Str × Option Str, He.fAd C.K p = f → cdv = .ref (He.codeOf C.K p)) → ∀ (A : Around) (outer : List Env) (s : Shared) (H : Hp) (vs : List V) (Q : VK) (E : XK), Room k (A.deeper (envOfC q scope s.heap.objs.size f cdv)) → sp vs H Q E →
      ∃ t, PSs (cxOf (L2.CX P w) P w C.K mg base N q scope f cdv A outer s H E) body t ∧ t { nx := fun _ H' => Q .non H', rt := Q } (start N vs) H) : FnOk P w C.K mg base (L2.CX P w) (k + 1) f fd ps sp := by
  obtain ⟨oc, od, dV, kV, doc, pm, an, cdv, ct, osl, rfl, lk, hcd, _, _⟩ := F.ex
  exact fn_of lk hcd S len fun A outer s H vs Q E hr hsp => hbody cdv (fun p hp => code_of lk rfl hcd hp) A outer s H vs Q E hr hsp
theorem fnok_S (F : FunD C.K x q params body scope [] [] f fd) (S : FnScope N ps scope) (hn : N.length = n) (hp : ps.length = m) (hb : Body C P w mg base N q scope f k body b) : FnOk P w C.K mg base (L2.CX P w) (k + 1) f fd ps (spU C m (fnS n m b)) := by
  refine fund_ok F S (fun vs H Q E h => ?_) fun cdv hc A outer s H vs Q E hr h => ⟨_, hb cdv hc A outer s H E hr, ?_⟩
  · obtain ⟨ds, st, ι, hl, rs, _⟩ := h
    rw [← rs.length, hl, hp]
  · obtain ⟨ds, st, ι, hl, rs, hS, hP⟩ := h
    refine body_run hn hS rs ?_
    unfold fnS at hP
    rw [if_pos (by rw [hl]; exact beq_self_eq_true m)] at hP
    cases q : b (startE n ds) st with
    | nx ρ st' =>
      rw [q] at hP
      exact fun ι' H' σ' e' s' _ => hP ι' H' e' s' _ .non
    | rt d st' =>
      rw [q] at hP
      exact fun ι' H' v e' s' r => hP ι' H' e' s' v r
    | exn e st' =>
      rw [q] at hP
      exact fun ι' H' dd σ' e' s' => hP ι' H' dd e' s'
    | bk ρ st' =>
      rw [q] at hP
      exact no_case hP
    | ct ρ st' =>
      rw [q] at hP
      exact no_case hP
    | fail =>
      rw [q] at hP
      exact no_case hP
/-- the store put aside -/
def aside (ι : Io) : Io := ⟨[], ι.h ++ ι.v.filterMap id⟩
theorem aside_ni {ι : Io} {a : Addr} : NI a (aside ι) ↔ NI a ι := by
  constructor
  · intro n
    refine ⟨fun z => n.h (List.mem_append_right _ (List.mem_filterMap.mpr ⟨some a, z, rfl⟩)), fun z => n.h (List.mem_append_left _ z)⟩
  · intro n
    refine ⟨fun z => by simp [aside] at z, fun z => ?_⟩
    rcases List.mem_append.mp z with z | z
    · exact n.h z
    · obtain ⟨y, h1, h2⟩ := List.mem_filterMap.mp z
      cases y with
      | none => cases h2
      | some c =>
        cases h2
        exact n.v h1
theorem RepS.aside {st : Sto} {ι : Io} {H : Hp} (S : RepS C st ι H) : RepS C [] (CV.aside ι) H :=
  ⟨rfl, fun i j a h => by simp [CV.aside] at h, fun i ob x h => by simp at h, S.tabs, fun i a h => by simp [CV.aside] at h, fun a h => by
    rcases List.mem_append.mp h with z | z
    · exact S.th a z
    · obtain ⟨y, h1, h2⟩ := List.mem_filterMap.mp z
      cases y with
      | none => cases h2
      | some c =>
        cases h2
        obtain ⟨i, hi⟩ := List.mem_iff_getElem?.mp h1
        exact S.tf i _ hi, fun a _ z => by simp [CV.aside] at z⟩
theorem back {st st' : Sto} {ι ι' : Io} {H H' : Hp} (S : RepS C st ι H) (e : Ext (aside ι) H ι' H') (S' : RepS C st' ι' H') : Ext ι H ι H' ∧ RepS C st ι H' ∧ ∀ a, NI a ι' → NI a ι := by
  have hk : ∀ a o, H a = some o → Own o → (a ∈ ι.h ∨ some a ∈ ι.v) → H' a = some o := fun a o h m z => by
    refine e.hid a o ?_ h (fun ps y => by rw [y] at m; exact m)
    rcases z with z | z
    · exact List.mem_append_left _ z
    · exact List.mem_append_right _ (List.mem_filterMap.mpr ⟨some a, z, rfl⟩)
  have E1 : Ext ι H ι H' := ⟨⟨fun _ _ h => .inl h, fun a o n h t => ⟨(e.keep a o (aside_ni.mpr n) h t).1, n⟩⟩, rfl, fun a o m h t => e.hid a o (List.mem_append_left _ m) h t⟩
  refine ⟨E1, ⟨S.len, S.inj, fun i ob x h1 h2 => (S.at_ i ob x h1 h2).tr E1.toTr fun a o ex h => ?_, S'.tabs, fun i a h => ?_, fun a h => ?_, S.ap⟩, fun a n => ?_⟩
  · subst ex
    obtain ⟨o', h3, m⟩ := S.tf i a h2
    rw [h] at h3
    cases h3
    exact hk a o h m (.inr (List.mem_of_getElem? h2))
  · obtain ⟨o, h1, m⟩ := S.tf i a h
    exact ⟨o, hk a o h1 m (.inr (List.mem_of_getElem? h)), m⟩
  · obtain ⟨o, h1, m⟩ := S.th a h
    exact ⟨o, hk a o h1 m (.inl h), m⟩
  · refine aside_ni.mp ⟨fun z => by simp [aside] at z, ?_⟩
    rw [← e.hd]
    exact n.h
theorem fnok_P (F : FunD C.K x q params body scope [] [] f fd) (S : FnScope N ps scope) (hn : N.length = n) (hp : ps.length = m) (hb : Body C P w mg base N q scope f k body b) : FnOk P w C.K mg base (L2.CX P w) (k + 1) f fd ps (spU C m (fnP n m b)) := by
  refine fund_ok F S (fun vs H Q E h => ?_) fun cdv hc A outer s H vs Q E hr h => ⟨_, hb cdv hc A outer s H E hr, ?_⟩
  · obtain ⟨ds, st, ι, hl, rs, _⟩ := h
    rw [← rs.length, hl, hp]
  · obtain ⟨ds, st, ι, hl, rs, hS, hP⟩ := h
    unfold fnP at hP
    by_cases hpu : D.pures ds = true
    · rw [if_pos (by rw [hl, hpu, beq_self_eq_true]; rfl)] at hP
      have rs0 : Rps C (aside ι) H ds vs := Rps.over (fun a n => aside_ni.mpr n) hpu rs
      refine body_run hn hS.aside rs0 ?_
      cases q : b (startE n ds) [] with
      | nx ρ st' =>
        rw [q] at hP
        intro ι' H' σ' e' s' _
        obtain ⟨e1, S1, _⟩ := back hS e' s'
        exact hP ι H' e1 S1 _ .non
      | rt d st' =>
        rw [q] at hP
        intro ι' H' v e' s' r
        obtain ⟨e1, S1, hn⟩ := back hS e' s'
        dsimp only at hP
        by_cases hd : d.pure = true
        · rw [if_pos hd] at hP
          exact hP ι H' e1 S1 v (Rp.over hn hd r)
        · rw [if_neg hd] at hP
          exact no_case hP
      | exn e st' =>
        rw [q] at hP
        intro ι' H' dd σ' e' s'
        obtain ⟨e1, S1, _⟩ := back hS e' s'
        exact hP ι H' dd e1 S1
      | bk ρ st' =>
        rw [q] at hP
        exact no_case hP
      | ct ρ st' =>
        rw [q] at hP
        exact no_case hP
      | fail =>
        rw [q] at hP
        exact no_case hP
    · rw [if_neg (by rw [Bool.and_eq_true]; exact fun z => hpu z.2)] at hP
      exact no_case hP
theorem fs_S {nm : Str} (hg : mg nm = some (.ref f)) (F : FunD C.K x q params body scope [] [] f fd) (hbd : Binds C.K fd ps []) (S : FnScope N ps scope) (hn : N.length = n) (hp : ps.length = m) (hb : Body C P w mg base N q scope f k body b) : FS C P w mg base nm (k + 1) m (fnS n m b) :=
  ⟨⟨f, fd, ps, hg, F.kp, hbd, fnok_S F S hn hp hb⟩, fun ds st h => by
    unfold fnS
    rw [if_neg (by simpa using h)]⟩
theorem fs_P {nm : Str} (hg : mg nm = some (.ref f)) (F : FunD C.K x q params body scope [] [] f fd) (hbd : Binds C.K fd ps []) (S : FnScope N ps scope) (hn : N.length = n) (hp : ps.length = m) (hb : Body C P w mg base N q scope f k body b) : FS C P w mg base nm (k + 1) m (fnP n m b) :=
  ⟨⟨f, fd, ps, hg, F.kp, hbd, fnok_P F S hn hp hb⟩, fun ds st h => by
    unfold fnP
    rw [if_neg (by rw [Bool.and_eq_true]; exact fun z => h (by simpa using z.1))]⟩
/-- served nowhere: the bottom of a def that calls itself -/
theorem fs_0 {nm : Str} (hg : mg nm = some (.ref f)) (F : FunD C.K x q params body scope [] [] f fd) (hbd : Binds C.K fd ps []) (hp : ps.length = m) : FS C P w mg base nm k m (fun _ _ => .fail) :=
  ⟨⟨f, fd, ps, hg, F.kp, hbd, fun vs H Q E h => by
    obtain ⟨ds, st, ι, hl, rs, _⟩ := h
    rw [← rs.length, hl, hp], fun A outer s H args us vs Q E hr e0 hb r h => by
    obtain ⟨ds, st, ι, hl, rs, _, hP⟩ := h
    exact no_case hP⟩, fun _ _ _ => rfl⟩
theorem FS.mono {nm : Str} {j : Nat} {g : FnS} (F : FS C P w mg base nm j m g) (h : j ≤ k) : FS C P w mg base nm k m g := by
  obtain ⟨⟨a, fd, ps, h1, h2, h3, h4⟩, h5⟩ := F
  exact ⟨⟨a, fd, ps, h1, h2, h3, h4.mono h⟩, h5⟩
end
end
end CV
/-! CVq: lambdas without parameters: made, called by the law's own try. -/
namespace CV
open PySem PySem.Spec PyProof.Rows L2
open LamX (LamS lamEnv lamCx CodeO GivesTo TTold)

section
variable {C : Ct} {X : Cx} {pins : List (Addr × Obj)} {σ : L2.St} {H : Hp} {s : Shared} {st : Sto} {ι : Io}
/-- a lambda is made: up to its function object -/
theorem lam_mk {c : Addr} {tb : Tb} {params : Arguments} {body : Expr} {scope : Scope} {pos : Pos} {E : Value → Shared → Prop} {Q : Value → Shared → Prop} (GT : GxTab C X c tb) (hlp : tb.lam.contains (pos.line, pos.col) = true) (I : Inv X pins σ H s) (hS : RepS C st ι H)
    (hdef : defaultsOf params X.env = ([], [])) (hfree : ∀ y ∈ scope.names, y.2 = .free → ∃ c, X.env.cells.lookup y.1 = some c)
    (h : ∀ (c' : Addr) (pm ctv : Value) (H1 : Hp) (s1 : Shared), Inv X pins σ H1 s1 → Ext ι H ι H1 → RepS C st ι H1 → NI c' ι → H1 c' = some (CodeO c' (X.env.qual ++ "<lambda>")) → s.heap.objs.size ≤ s1.heap.objs.size →
      Q (.ref s1.heap.objs.size) { s1 with heap := s1.heap.push (PySem.W.kla_obj "<lambda>" (X.env.qual ++ "<lambda>") params body scope (cloFrom X.env.cells scope.names []) pm c' ctv) }) :
    wpAny (model X.prog X.w) X.A (eval (.Lambda params body scope pos) X.env) Q E s := by
  obtain ⟨ps, hP, ht, ha⟩ := hS.tabs tb GT.mem
  refine PySem.W.kla_eval hdef ?_
  have bP : s.heap.BuiltinsAt X.mg tb.P := GT.TB.bm.keeps I.bk
  have hP' : s.heap.get? tb.P = some { cls := .none, data := .fields ps } := I.hok tb.P _ hP
  have en : X.env.qual ++ "<lambda>" = tb.nm pos := by
    unfold Tb.nm
    rw [hlp, if_pos rfl, GT.qual]
  cases hc : codeAmong pos ps.toList with
  | none =>
    refine PySem.W.kla_makeFunction (mg := X.mg) (c := c) (P := tb.P) (ps := ps) (closure_ok hfree) I.ok.glob (I.mod.glob.keeps I.bk) GT.code (GT.TB.code.keeps I.bk) hP' ht hc GT.TB.gP bP fun c' ctv h' tk hx hge hlt hrec htb => ?_
    obtain ⟨c2, oc, vs, t, e2, hoc, hd, hv⟩ := hrec
    cases e2
    have nC : H c' = none := I.hok.fresh hge
    rw [en] at hv
    have I1 := LamX.inv_table (t' := tk) I hP hx htb hge ⟨oc, vs, t, hoc, hd, hv⟩
    have hT := tabs_more (pos := pos) hS.tabs GT.mem GT.uq hP nC
    exact h c' ((X.mg "__name__").getD .none) ctv _ { s with heap := h', toks := tk } I1 (Ext.tab hP nC) (hS.tab hP nC hT) (hS.notIn nC) (by rw [en]; exact upd_same) (Nat.le_trans hge (Nat.le_of_lt hlt))
  | some cv =>
    obtain ⟨c', e, hco⟩ := ha pos cv hc
    subst e
    refine PySem.W.kla_makeFunctionHit (mg := X.mg) (c := c) (P := tb.P) (ps := ps) (closure_ok hfree) I.ok.glob (I.mod.glob.keeps I.bk) GT.code (GT.TB.code.keeps I.bk) hP' ht hc bP fun ctv h' tk hx hsz => ?_
    have ni : NI c' ι := by
      refine ⟨fun z => ?_, fun z => ?_⟩
      · obtain ⟨i, hi⟩ := List.mem_iff_getElem?.mp z
        obtain ⟨o, h1, h2⟩ := hS.tf i c' hi
        rw [hco] at h1
        cases h1
        exact h2
      · obtain ⟨o, h1, h2⟩ := hS.th c' z
        rw [hco] at h1
        cases h1
        exact h2
    exact h c' ((X.mg "__name__").getD .none) ctv H { s with heap := h', toks := tk } (I.kept hx) (Ext.refl _ _) hS ni (by rw [en]; exact hco) hsz
/-- a lambda that captures nothing, as a datum -/
structure CloS (c : Clo) : Prop where
  kind : c.scope.kind = .function
  co : c.scope.isCoroutine = false
  gen : c.scope.isGenerator = false
  own : ∀ y ∈ c.scope.names, y.2 ≠ .local ∧ y.2 ≠ .cell ∧ y.2 ≠ .free
  bind : ∀ (pm cv ctv : Value), bindArgs (PySem.W.kla_fn "<lambda>" c.q c.params c.body c.scope [] pm cv ctv) ⟨[], []⟩ = pure []
def cloB (c : Clo) : Bool := decide (c.scope.kind = .function) && (!c.scope.isCoroutine && (!c.scope.isGenerator && c.scope.names.all fun y => !decide (y.2 = .local) && (!decide (y.2 = .cell) && !decide (y.2 = .free))))
theorem cloS_by {c : Clo} (h : cloB c = true) (hb : ∀ (pm cv ctv : Value), bindArgs (PySem.W.kla_fn "<lambda>" c.q c.params c.body c.scope [] pm cv ctv) ⟨[], []⟩ = pure []) : CloS c := by
  unfold cloB at h
  simp only [Bool.and_eq_true, Bool.not_eq_true', decide_eq_true_eq, decide_eq_false_iff_not, List.all_eq_true] at h
  exact ⟨h.1, h.2.1, h.2.2.1, h.2.2.2, hb⟩
theorem clo_free {names : List (Str × NameKind)} (cells : List (Str × Addr)) (h : ∀ y ∈ names, y.2 ≠ .free) (acc : List (Str × Addr)) : cloFrom cells names acc = acc := by
  induction names generalizing acc with
  | nil => rfl
  | cons p r ih =>
    obtain ⟨n, k⟩ := p
    unfold cloFrom
    have hk : (k == NameKind.free) = false := by
      have := h (n, k) List.mem_cons_self
      cases k <;> first | rfl | exact absurd rfl this
    rw [hk, if_neg Bool.false_ne_true]
    exact ih (fun y hy => h y (List.mem_cons_of_mem _ hy)) acc
variable {W : WX}
theorem se_clo {c : Addr} {tb : Tb} {params : Arguments} {body : Expr} {scope : Scope} {pos : Pos} {i : Nat} (GT : GxTab C X c tb) (hlp : tb.lam.contains (pos.line, pos.col) = true) (hdef : defaultsOf params X.env = ([], [])) {cl : Clo} (hi : C.L[i]? = some cl) (hcl : cl = ⟨params, body, scope, X.env.qual ++ "<lambda>"⟩) (S : CloS cl) :
    SE C X W (.Lambda params body scope pos) (mC (.clo i)) := by
  subst hcl
  refine ⟨fun pins s σ H Q I ⟨ρ, st, ι, hE, hS, hP⟩ => ?_⟩
  refine lam_mk GT hlp I hS hdef (fun y hy e => absurd e (S.own y hy).2.2) fun c' pm ctv H1 s1 I1 e1 S1 n1 hc1 hz => ?_
  rw [clo_free _ (fun y hy => (S.own y hy).2.2)]
  have hn : H1 s1.heap.objs.size = none := I1.hok.fresh (Nat.le_refl _)
  have I2 : Inv X pins σ (upd H1 s1.heap.objs.size (CloO ⟨params, body, scope, X.env.qual ++ "<lambda>"⟩ s1.heap.objs.size c')) { s1 with heap := s1.heap.push (PySem.W.kla_obj "<lambda>" (X.env.qual ++ "<lambda>") params body scope [] pm c' ctv) } :=
    I1.laid (t' := s1.toks) (fun b o e => Heap.get?_push_of_some _ e) (Nat.le_refl _) ⟨⟨pm, ctv, Heap.get?_push_size _ rfl⟩, ⟨_, Heap.get?_push_size _ rfl⟩, fun h1 h2 ⟨pm, ctv, a⟩ st => ⟨pm, ctv, st _ a⟩⟩
  have e2 : Ext ι H1 ι (upd H1 s1.heap.objs.size (CloO ⟨params, body, scope, X.env.qual ++ "<lambda>"⟩ s1.heap.objs.size c')) := Ext.new hn
  refine ⟨.ref s1.heap.objs.size, _, I2, rfl, hP ι _ (e1.trans e2) (S1.new hn) _ (.clo hi (S1.notIn hn) n1 upd_same ?_)⟩
  rw [upd_ne (ne_of_none hc1 hn)]
  exact hc1
end

/-! ### a closed lambda's body -/
abbrev cloEnv (c : Clo) (L f c' : Addr) : Env := PySem.W.envX c.q c.scope L f (.ref c') []
def cloCx (C : Ct) (P : Program) (w : World) (mg : Str → Option Value) (base : Heap) (A : Around) (outer : List Env) (s : Shared) (H : Hp) (E : XK) (c : Clo) (f c' : Addr) : Cx where
  prog := P
  w := w
  K := C.K
  mg := mg
  base := base
  A := A.deeper (cloEnv c s.heap.objs.size f c')
  N := []
  s_0 := s
  H_0 := H
  env := cloEnv c s.heap.objs.size f c'
  outer := outer
  stack := cloEnv c s.heap.objs.size f c' :: outer
  ex := []
  fn := fun _ => false
  calm := true
  pn := []
  xe := fun e s' => wpAny (model P w) (A.deeper (cloEnv c s.heap.objs.size f c')) (leaving (cloEnv c s.heap.objs.size f c') e) (fun _ s'' => L2.CX P w outer H s E e s'') (fun e' s'' => L2.CX P w outer H s E e' s'') s'
section
variable {C : Ct} {P : Program} {w : World} {mg : Str → Option Value} {base : Heap}
theorem takes_clo {A : Around} {outer : List Env} {s : Shared} {H : Hp} {E : XK} {c : Clo} {f c' : Addr} : Takes (cloCx C P w mg base A outer s H E c f c') (WD E) := takes_of (E := E) rfl rfl rfl rfl
theorem clo_start {A : Around} {outer : List Env} {s : Shared} {H : Hp} {E : XK} {c : Clo} {f c' : Addr} {h₁ : Heap} {tk : Nat} (S : CloS c) (e0 : Env0 P w C.K mg base A outer s H) (hd : A.handled = none)
    (hns : h₁.Ns s.heap.objs.size fun y => ([] : List (Str × Value)).reverse.lookup y) (kp : ∀ b o, s.heap.get? b = some o → h₁.get? b = some o) : Inv (cloCx C P w mg base A outer s H E c f c') [] [] H { s with heap := h₁, toks := tk } := by
  have noA : ∀ b : Addr, b ∉ (cloCx C P w mg base A outer s H E c f c').ex := fun b z => absurd (show b ∈ ([] : List Addr) from z) (by simp)
  have noC : ∀ {y : Str} {a : Addr}, ([] : List (Str × Addr)).lookup y = some a → False := fun {y a} h => by simp at h
  have none_ : ∀ {y : Str} {k : NameKind}, c.scope.names.lookup y = some k → k = .local ∨ k = .cell ∨ k = .free → False := fun {y k} h z => by
    have q := S.own _ (PySem.mem_of_lookup h)
    rcases z with z | z | z
    · exact q.1 z
    · exact q.2.1 z
    · exact q.2.2 z
  refine ⟨⟨e0.mod, S.kind, rfl, rfl, Nat.le_refl _, fun y z a e1 _ => (noC e1).elim, fun y hy => ?_, fun y a z _ => ?_, fun _ => hd, Around.frames_deeper e0.frames, .inr ⟨rfl, rfl⟩, fun b z => absurd z (noA b), e0.bs, e0.bsz, fun b _ _ => noA b, fun b z => absurd z (noA b), e0.funs, e0.frf⟩,
    rfl, e0.bare, Un.kept kp, ⟨_, hns, fun i y v e1 _ _ => ?_⟩, fun y a e => (noC e).elim, e0.hok.fresh (Nat.le_refl _), fun y a e => (noC e).elim, fun q hq => absurd (show q ∈ ([] : List (Addr × Obj)) ++ [] from hq) (by simp), e0.hok.kept kp, rfl⟩
  · have hy : c.scope.names.lookup y = some .cell ∨ c.scope.names.lookup y = some .free := hy
    rcases hy with hy | hy
    · exact (none_ hy (.inr (.inl rfl))).elim
    · exact (none_ hy (.inr (.inr rfl))).elim
  · have z : false = true := z
    cases z
  · have e1 : ([] : List Str)[i]? = some y := e1
    simp at e1
/-- x(), x bound to a closed lambda's function object -/
theorem pe_actC {Y : Cx} {W : WX} {i k : Nat} {a : Str} {p1 p2 : Pos} {c : Clo} {tbd : XK → TE} (hY : Y.prog = P ∧ Y.w = w ∧ Y.K = C.K ∧ Y.mg = mg ∧ Y.base = base) (hex : Y.ex = []) (S : CloS c) (tk : Takes Y W) (hr : Room (k + 1) Y.A)
    (hbody : ∀ (A : Around) (outer : List Env) (s : Shared) (H : Hp) (E : XK) (f c' : Addr), Room k (A.deeper (cloEnv c s.heap.objs.size f c')) → PE (cloCx C P w mg base A outer s H E c f c') c.body (tbd E)) (hN : Y.N[i]? = some a) (hv : Vis Y.env.scope a)
    (hd : (a == ("__debug__" : Str)) = false := by decide) (hcd : (a == ("__classdict__" : Str)) = false := by decide) :
    PE Y (.Call (.Name a p1) [] [] p2) (fun σZ HZ Q => ∃ f c', σZ[i]? = some (some (.ref f)) ∧ HZ f = some (CloO c f c') ∧ HZ c' = some (CodeO c' c.q) ∧ tbd (WE W σZ) [] HZ Q) := by
  obtain ⟨rfl, rfl, hK, rfl, rfl⟩ := hY
  refine ⟨fun pinsZ sZ σZ HZ Q IZ h => ?_⟩
  obtain ⟨f, c', hs, hf, hc, ht⟩ := h
  refine wpAny_Call_Name_kw (thn ((pe_var (pos := p1) (i := i) hN hv hd hcd).run pinsZ sZ σZ HZ (fun v H1 => v = .ref f ∧ H1 = HZ) IZ ⟨.ref f, hs, rfl, rfl⟩) fun u s1 ⟨v, H1, I1, r1, q1⟩ => ?_)
  obtain ⟨ev, eH⟩ := q1
  subst ev
  rw [eH] at I1
  obtain rfl : u = Value.ref f := r1
  obtain ⟨⟨pm, ctv, of1⟩, _, _⟩ := I1.hok f _ hf
  refine PySem.W.callWith_F0 ⟨_, _, _, _, of1⟩ ?_
  obtain ⟨⟨oc, vs, t, hoc, hdc, hvc⟩, _, _⟩ := I1.hok c' _ hc
  have e0 : Env0 Y.prog Y.w C.K Y.mg Y.base Y.A Y.stack s1 HZ := by
    rw [← hK]
    exact I1.env0
  have rc : codeAny (model Y.prog Y.w) Y.A (.call (.ref f) ⟨[], []⟩) (CR (L2.CX Y.prog Y.w) Y.stack Y.prog Y.w HZ s1 Q (WE W σZ)) s1 := by
    refine PySem.W.kla_callFunE hr.depth of1 rfl S.co S.gen rfl ⟨c', oc, vs, t, rfl, hoc, hdc, hvc⟩ ?_
    rw [S.bind]
    refine wpAny_pure (wpAny_newFunctionEnv (fun y hy => (S.own y hy).2.1) (fun y hy => absurd hy (by simp)) (fun h₁ hns hsb => ⟨I1.nolimit.fresh _ hsb, ?_⟩) S.kind)
    show codeAny _ _ (.expr c.body (cloEnv c s1.heap.objs.size f c')) _ _
    have kp : ∀ b o, s1.heap.get? b = some o → h₁.get? b = some o := fun b o e => hsb.extBut b o (Nat.ne_of_lt (Heap.lt_size e)) (Heap.get?_push_of_some _ e)
    have J : Inv (cloCx C Y.prog Y.w Y.mg Y.base Y.A Y.stack s1 HZ (WE W σZ) c f c') [] [] HZ { s1 with heap := h₁, toks := s1.toks + ([] : List (Str × Value)).length } := clo_start S e0 hr.hd hns kp
    refine PySem.W.kla_codeExpr (wpAny_mono ((hbody _ _ s1 HZ (WE W σZ) f c' (hr.deeper _)).run [] _ _ HZ Q J ht) (fun v s' hq => ?_) fun e s' hq => hq)
    obtain ⟨w', H', J', rv, q⟩ := hq
    exact ⟨w', H', J'.os, J'.bare, J'.base, J'.hok, rv, q⟩
  refine wpAny_call (codeAny_mono rc fun r s' hq => ?_)
  cases r with
  | error e => exact passAt tk σZ pinsZ HZ s1 e s' I1 hq
  | ok fl =>
    cases fl with
    | ret u => exact I1.after hq
    | next => exact False.elim hq
    | brk => exact False.elim hq
    | cont => exact False.elim hq
end
end CV
/-! CVr: the law's own try around a lambda. -/
namespace CV
open PySem PySem.Spec PyProof.Rows L2
open LamX (LamS lamEnv lamCx CodeO GivesTo TTold)

/-- try: return x() / except ..: return ret -/
def told (caught : Str → Bool) (ret : Str) (r : R D) : R D := match r with
  | .ok d st => .ok d st
  | .exn e st => if caught e then .ok (.str ret) st else .fail
  | .fail => .fail
def mTold (caught : Str → Bool) (ret : Str) (m : ME) : ME := fun ρ st => told caught ret (m ρ st)
/-- the same of closed lambdas: cm, what they mean -/
def fTold (caught : Str → Bool) (ret : Str) (cm : Nat → Sto → R D) : FnS := fun ds st => match ds with
  | [.clo i] => told caught ret (cm i st)
  | _ => .fail
/-- what a handler takes -/
def hTold (K : PySem.W.Frag) (CS : Addr) (ret : Str) (Q : VK) : XK := fun cls _ H' => ∃ b, PySem.W.exmOne K cls (.ref CS) = some b ∧ (b = true → Q (.str ret) H') ∧ (b = false → False)
section
variable {C : Ct}
theorem told_post {ι : Io} {H : Hp} {Q : VK} {exP : Str → Option Addr → Hp → Prop} {caught : Str → Bool} {ret : Str} {CS : Addr} {r : R D} (hex : ∀ e, caught e = true → PySem.W.exmOne C.K (.ref (He.ga C.K e)) (.ref CS) = some true) (h : PostR C ι H (okV C Q) exP (told caught ret r)) :
    PostR C ι H (okV C Q) (fun e dd H' => hTold C.K CS ret Q (.ref (He.ga C.K e)) dd H') r := by
  cases r with
  | ok d st => exact h
  | fail => exact h
  | exn e st =>
    have h : PostR C ι H (okV C Q) exP (if caught e = true then .ok (.str ret) st else .fail) := h
    by_cases q : caught e = true
    · rw [if_pos q] at h
      exact fun ι' H' dd e' s' => ⟨true, hex e q, fun _ => h ι' H' e' s' _ (.str ret), fun z => by cases z⟩
    · rw [if_neg q] at h
      exact no_case h
/-- the body of the law's own try -/
abbrev toldBody (a e ret : Str) (j : Nat) (p1 p2 p3 p4 p5 p6 p7 p8 : Pos) : List Stmt := [.Try [.Return (some (.Call (.Name a p1) [] [] p2)) p3] [.ExceptHandler (some (.Name e p4)) none [.Return (some (.Constant (.str ret) j p5)) p6] p7] [] [] p8]
variable {P : Program} {w : World} {mg : Str → Option Value} {base : Heap}
theorem fs_told {x a e ret : Str} {params : Arguments} {scope : Scope} {f CS : Addr} {fd : FuncData} {N : List Str} {j k : Nat} {p1 p2 p3 p4 p5 p6 p7 p8 : Pos} {caught : Str → Bool} {cm : Nat → Sto → R D}
    (hg : mg x = some (.ref f)) (F : FunD C.K x x params (toldBody a e ret j p1 p2 p3 p4 p5 p6 p7 p8) scope [] [] f fd) (hbd : Binds C.K fd [a] []) (S : FnScope N [a] scope) (hN : N[0]? = some a) (hge : scope.names.lookup e = some .globalImplicit) (hme : mg e = some (.ref CS)) (hde : (e == ("__debug__" : Str)) = false)
    (hva : Vis scope a) (hda : (a == ("__debug__" : Str)) = false) (hca : (a == ("__classdict__" : Str)) = false)
    (hex : ∀ e, caught e = true → PySem.W.exmOne C.K (.ref (He.ga C.K e)) (.ref CS) = some true) (hcl : ∀ (i : Nat) (c : Clo), C.L[i]? = some c → CloS c ∧ ∀ (A : Around) (outer : List Env) (s : Shared) (H : Hp) (E : XK) (f c' : Addr), Room k (A.deeper (cloEnv c s.heap.objs.size f c')) →
      SE C (cloCx C P w mg base A outer s H E c f c') (WD E) c.body (fun _ st => cm i st)) : FS C P w mg base x (k + 2) 1 (fTold caught ret cm) := by
  refine ⟨⟨f, fd, [a], hg, F.kp, hbd, F.ok S (fun vs H Q E h => ?_) fun cdv A outer s H vs Q E hr h => ?_⟩, fun ds st h => ?_⟩
  · obtain ⟨ds, st, ι, hl, rs, _⟩ := h
    rw [← rs.length, hl]
    rfl
  · obtain ⟨ds, st, ι, hl, rs, hS, hP⟩ := h
    rcases ds with _ | ⟨d, _ | ⟨d2, r⟩⟩
    · cases hl
    · cases d with
      | clo i =>
        obtain ⟨v, rfl, rv⟩ := rps1 rs
        cases rv with
        | clo hi n1 n2 h1 h2 =>
          rename_i c f0 c0
          obtain ⟨Sc, hb⟩ := hcl i c hi
          have hgl : Gl (dCx C P w mg base N x scope f cdv A outer s H E).nox e := hge
          have hP : PostR C ι H (okV C Q) (fun e dd H' => E (.ref (He.ga C.K e)) dd H') (told caught ret (cm i st)) := hP
          refine ⟨_, PSs.nox (pss_one (ps_try_only (X := (dCx C P w mg base N x scope f cdv A outer s H E).nox) (c := .ref CS) (Wout := fun _ _ _ _ => False)
            (tb := fun W D σ H => ∃ f c', σ[0]? = some (some (.ref f)) ∧ H f = some (CloO c f c') ∧ H c' = some (CodeO c' c.q) ∧ rdE C (fun cls d _ H => WE W σ cls d H) (fun _ st => cm i st) [] H D.rt)
            rfl rfl ⟨hgl, hde, .inl hme⟩ LamX.takes0 (fun W pn xe tk _ => ?_) (fun a oe cls d pn _ _ => pss_one (ps_ret pe_str)))), ?_⟩
          · have hp := pe_actC (C := C) (P := P) (w := w) (mg := mg) (base := base) (Y := ((dCx C P w mg base N x scope f cdv A outer s H E).nox).tr pn xe) (c := c) (tbd := fun E => rdE C (WD E) (fun _ st => cm i st)) (p1 := p1) (p2 := p2) ⟨rfl, rfl, rfl, rfl, rfl⟩ rfl Sc tk hr (fun A outer s H E f c' hr => hb A outer s H E f c' hr) hN hva hda hca
            have hq := pss_one (ps_ret (pos := p3) hp)
            exact ⟨fun pins s' σ H' D I h' => hq.run pins s' σ H' D I h'⟩
          · refine ⟨f0, c0, rfl, h1, h2, [], st, ι, .nil, hS, ?_⟩
            refine (told_post hex hP).imp (fun _ _ _ _ _ _ z => z) fun e dd H' z => ?_
            obtain ⟨b, e1, e2, e3⟩ := z
            exact ⟨b, e1, fun hb a _ => e2 hb, fun hb => e3 hb⟩
      | _ => exact no_case hP
    · cases hl
  · rcases ds with _ | ⟨d, _ | ⟨d2, r⟩⟩
    · rfl
    · exact absurd rfl h
    · cases d <;> rfl
end
section
variable {C : Ct} {X : Cx} {W : WX}
/-- x(lambda: body), x the law's own try -/
theorem se_told {x a e ret : Str} {pg params : Arguments} {sg scope : Scope} {g c CS : Addr} {fd : FuncData} {Ng : List Str} {tb : Tb} {j k : Nat} {p1 p2 p3 p4 p5 p6 p7 p8 p lpos pos : Pos} {body : Expr} {caught : Str → Bool} {m : ME}
    (hk : X.K = C.K) (hg : Gl X x) (hm : X.mg x = some (.ref g)) (F : FunD X.K x x pg (toldBody a e ret j p1 p2 p3 p4 p5 p6 p7 p8) sg [] [] g fd) (hbd : Binds X.K fd [a] []) (S : FnScope Ng [a] sg) (hN : Ng[0]? = some a) (hge : sg.names.lookup e = some .globalImplicit) (hme : X.mg e = some (.ref CS))
    (hde : (e == ("__debug__" : Str)) = false) (hva : Vis sg a) (hda : (a == ("__debug__" : Str)) = false) (hca : (a == ("__classdict__" : Str)) = false) (hdb : (x == ("__debug__" : Str)) = false)
    (hex : ∀ e, caught e = true → PySem.W.exmOne C.K (.ref (He.ga C.K e)) (.ref CS) = some true) (GT : GxTab C X c tb) (hlp : tb.lam.contains (lpos.line, lpos.col) = true) (hr : Room (k + 2) X.A) (L : LamS X.env.scope scope) (hdef : defaultsOf params X.env = ([], []))
    (hbind : ∀ (q : Str) (cl : List (Str × Addr)) (pm cv ctv : Value), bindArgs (PySem.W.kla_fn "<lambda>" q params body scope cl pm cv ctv) ⟨[], []⟩ = pure [])
    (hbody : ∀ (A : Around) (outer : List Env) (s : Shared) (H : Hp) (E : XK) (f c' : Addr), Room k (A.deeper (lamEnv X scope s.heap.objs.size f c')) → SE C (lamCx X A outer s H E scope f c') (WD E) body m) :
    SE C X W (.Call (.Name x p) [.Lambda params body scope lpos] [] pos) (mTold caught ret m) := by
  refine ⟨fun pins s σ H Q I ⟨ρ, st, ι, hE, hS, hP⟩ => ?_⟩
  refine wpAny_Call_Name_kw (ld_glob I hg hm ?_ hdb)
  refine PySem.W.callWith_K (h₀ := X.base) I.ok.mod.kin F.kp ?_ (by rfl) (by rfl)
  show wpAny _ _ (spliced ((false, eval (.Lambda params body scope lpos) X.env) :: backTo pos (starEach [] X.env))) _ _ s
  refine Calls.spliced_cons (lam_mk GT hlp I hS hdef (L.has I.ok) fun c' pm ctv H1 s1 I1 e1 S1 n1 hc1 hz => ?_)
  have kp2 : ∀ b o, s1.heap.get? b = some o → (s1.heap.push (PySem.W.kla_obj "<lambda>" (X.env.qual ++ "<lambda>") params body scope (cloFrom X.env.cells scope.names []) pm c' ctv)).get? b = some o := fun b o e => Heap.get?_push_of_some _ e
  have I2 := I1.kept (t' := s1.toks) kp2
  refine Calls.spliced_nil ⟨I2.kIn, ?_⟩
  have hf2 : (s1.heap.push (PySem.W.kla_obj "<lambda>" (X.env.qual ++ "<lambda>") params body scope (cloFrom X.env.cells scope.names []) pm c' ctv)).get? s1.heap.objs.size = some (PySem.W.kla_obj "<lambda>" (X.env.qual ++ "<lambda>") params body scope (cloFrom X.env.cells scope.names []) pm c' ctv) := Heap.get?_push_size _ rfl
  have hfn : H1 s1.heap.objs.size = none := I1.hok.fresh (Nat.le_refl _)
  have hfr : s1.heap.objs.size ∉ frs X.stack := fun z => by
    rcases List.mem_cons.mp (I1.stkSub _ z) with e | e
    · have h1 := I1.lt
      rw [← e] at h1
      exact Nat.lt_irrefl _ h1
    · exact I1.nofs (Nat.le_refl _) e
  generalize hs2 : ({ s1 with heap := s1.heap.push (PySem.W.kla_obj "<lambda>" (X.env.qual ++ "<lambda>") params body scope (cloFrom X.env.cells scope.names []) pm c' ctv), toks := s1.toks } : Shared) = s2 at I2
  have hh2 : s2.heap = s1.heap.push (PySem.W.kla_obj "<lambda>" (X.env.qual ++ "<lambda>") params body scope (cloFrom X.env.cells scope.names []) pm c' ctv) := by rw [← hs2]
  rw [← hh2] at hf2
  have hG := fun cdv : Value => LamX.told_gives (cdg := cdv) (X := X) (Ng := Ng) (x := x) (a := a) (e := e) (q := X.env.qual ++ "<lambda>") (ret := ret) (sg := sg) (g := g) (CS := CS) (j := j) (p1 := p1) (p2 := p2) (p3 := p3) (p4 := p4) (p5 := p5) (p6 := p6) (p7 := p7) (p8 := p8) hge hme hde (fun f => rfl)
  obtain ⟨oc, od, dV, kV, doc, pm2, an, cdv, ct, osl, rfl, lk, hcd, _, _⟩ := F.ex
  have rc : codeAny (model X.prog X.w) X.A (.call (.ref g) ⟨[.ref s1.heap.objs.size], []⟩) (CR C8.CX0 X.stack X.prog X.w H1 s2 Q C8.E0) s2 := by
    refine LamX.run_ofS (N := Ng) (ps := [a]) (us := [.ref s1.heap.objs.size]) (vs := [.ref s1.heap.objs.size]) lk hcd S hr I2.env0 (hbd s2 [.ref s1.heap.objs.size] I2.kIn rfl) (.cons rfl .nil) rfl fun hr' => ?_
    obtain ⟨t', ht', hq'⟩ := hG cdv s1.heap.objs.size c' s2 H1 Q (fun E H' Q' => rdE C (WD E) m σ H' Q') (fun W pn xe E q1 q2 tk hW => LamX.pe_act (i := 0) I2 L hf2 hfn hfr (hbind _ _ _ _ _) tk hW hr' (fun A outer s H hr2 => hbody A outer s H E _ c' hr2) hN hva hda hca) hc1 ⟨ρ, st, ι, hE.ext e1, S1, (told_post hex (hP.ext e1)).imp (fun _ _ _ _ _ _ z => z) fun e dd H' z => by show hTold X.K CS ret Q (.ref (He.ga C.K e)) dd H'; rw [hk]; exact z⟩
    exact ⟨t', ht'.nox, hq'⟩
  refine wpAny_call (codeAny_mono rc fun r s3 hq => ?_)
  cases r with
  | error e => exact (show False from hq).elim
  | ok fl =>
    cases fl with
    | ret u => exact I2.after hq
    | next => exact False.elim hq
    | brk => exact False.elim hq
    | cont => exact False.elim hq
end

theorem _root_.L2.Room.u64 {k : Nat} {A : Around} (r : Room k A) : A.units + 64 < cLine := r.units
theorem _root_.L2.Room.u65 {k : Nat} {A : Around} (r : Room k A) : A.units + 65 < cLine := by have := r.un; omega
theorem _root_.L2.Room.u10 {k : Nat} {A : Around} (r : Room k A) : A.units + 10 < cLine := by have := r.un; omega
/-! ### what is told of a law's text -/
/-- a class of exceptions, under its name -/
structure ExcF (C : Ct) (mg : Str → Option Value) (x : Str) : Prop where
  g : mg x = some (.ref (He.ga C.K x))
  q : PySem.W.excIn C.K (He.ga C.K x) He.veBase "ValueError.__new__" = true
  k : PySem.W.keepIn C.K (.ref (He.ga C.K x)) = true
  s : PySem.W.subIn C.K (.ref (He.ga C.K x)) (.type "BaseException") = some true
  t : PySem.W.typeIn C.K (.ref (He.ga C.K x)) = some (.type "type")
theorem ExcF.pmk {C : Ct} {X : Cx} {x m : Str} {j : Nat} {p p2 pos : Pos} (F : ExcF C X.mg x) (hk : X.K = C.K) (hg : Gl X x) (hdb : (x == ("__debug__" : Str)) = false := by decide) : PMk X (.Call (.Name x p) [.Constant (.str m) j p2] [] pos) (fun _ H Q => Q (.ref (He.ga C.K x)) none H) := by
  have q := F.q
  have k := F.k
  have s := F.s
  have t := F.t
  rw [← hk] at q k s t
  have g := F.g
  rw [← hk] at g
  have := pmk_own (m := m) (j := j) (p := p) (p2 := p2) (pos := pos) PySem.F.excBase_ValueError q g k (raises_own s t) hg hdb
  rw [hk] at this
  exact this
/-- a def, under its name -/
structure DefF (C : Ct) (mg : Str → Option Value) (x : Str) (st : Stmt) : Prop where
  g : mg x = some (.ref (He.ga C.K x))
  d : ∃ fd, FunD C.K x x (defArgs st) (defBody st) (defScope st) [] [] (He.ga C.K x) fd
/-- a def's table -/
structure TabF (C : Ct) (mg : Str → Option Value) (base : Heap) (x : Str) (tb : Tb) : Prop where
  P : tb.P = He.tabOf C.K (He.codeOf C.K (x, none))
  q : tb.q = x ++ ".<locals>."
  TB : LamX.TabB base mg (He.codeOf C.K (x, none)) tb.P
  mem : tb ∈ C.T
  uq : ∀ t' ∈ C.T, t'.P = tb.P → t' = tb
theorem TabF.gt {C : Ct} {P : Program} {w : World} {mg : Str → Option Value} {base : Heap} {x : Str} {tb : Tb} (F : TabF C mg base x tb) {N : List Str} {scope : Scope} {cdv : Value} {A : Around} {outer : List Env} {s : Shared} {H : Hp} {E : XK} (hc : ∀ p : Str × Option Str, He.fAd C.K p = He.ga C.K x → cdv = .ref (He.codeOf C.K p)) :
    GxTab C (dCx C P w mg base N x scope (He.ga C.K x) cdv A outer s H E) (He.codeOf C.K (x, none)) tb := ⟨F.TB, hc (x, none) rfl, F.mem, F.uq, by rw [F.q] <;> rfl⟩
end CV
/-! CVs: a law's end. -/
namespace CV
open PySem PySem.Spec PyProof.Rows L2

theorem rps_ints {C : Ct} {ι : Io} {H : Hp} : ∀ ns : List Int, Rps C ι H (ns.map D.int) (ns.map V.int)
  | [] => .nil
  | n :: ns => .cons (.int n) (rps_ints ns)
theorem rep_nil {C : Ct} {H : Hp} (hT : Tbs C H) : RepS C [] ⟨[], []⟩ H :=
  ⟨rfl, fun i j a h => by simp at h, fun i ob x h => by simp at h, hT, fun i a h => by simp at h, fun a h => by simp at h, fun a h => by simp at h⟩
theorem law_sp {C : Ct} {f : FnS} {H : Hp} {a : Addr} {ns : List Int} (hT : Tbs C H) (hS : SqL C.K H a (ns.map V.int)) (hf : ∃ st', f [.lst (ns.map D.int)] [] = .ok (.bl true) st') : spU C 1 f [.ref a] H (fun v _ => v = .bl true) (fun _ _ _ => False) := by
  obtain ⟨st', hf⟩ := hf
  have r : Rp C ⟨[], []⟩ H (.lst (ns.map D.int)) (.ref a) := by
    rcases hS with h | h
    · exact .lst ⟨by simp, by simp⟩ h (rps_ints ns)
    · exact .lstK (fun H => .inr h) (rps_ints ns)
  refine ⟨[.lst (ns.map D.int)], [], ⟨[], []⟩, rfl, .cons r .nil, rep_nil hT, ?_⟩
  rw [hf]
  intro ι' H' _ _ v r
  cases r
  rfl
/-- empty tables -/
theorem tbs_empty {C : Ct} {H : Hp} (h : ∀ t ∈ C.T, H t.P = some (.tbl #[])) : Tbs C H := fun t ht => ⟨#[], h t ht, trivial, fun pos cv hc => by
  have z : codeAmong pos [] = some cv := hc
  simp [codeAmong] at z⟩
theorem cx_none {P : Program} {w : World} {H : Hp} {s : Shared} {e : Value} {s' : Shared} (h : L2.CX P w [] H s (fun _ _ _ => False) e s') : False := by
  obtain ⟨_, _, _, _, _, _, _, _, _, _, _, _, z⟩ := h
  exact z
/-- a law's walk, from what the head tells: tf, the defs with tables; tb, their tables -/
theorem law_at {l : PySem.W.OpenLaw} {w : World} {K : PySem.W.Frag} {n k : Nat} {x : Str} {mg : Str → Option Value} {fa : Addr} {h : Heap} {tf : List He.Defn} {L : List Clo} {T : List Tb} {f : FnS} {fd : FuncData} {fas : List He.Fa} {fns : List He.DefD} {ts : List He.Tab} {ex : PySem.W.Frag → Bool}
    (KX : K.In h) (c : He.SaysX fas fns ts tf ex w h K) (hTf : ∀ t ∈ T, ∃ p ∈ tf, t.P = (He.cT K p).2) (hb : ∀ (s : Shared) (u : Value), BindsTo s fd ⟨[u], []⟩ [(x, u)])
    (hf : ∀ ns : List Int, ns.length ≤ n → (∀ z ∈ ns, Builtin.Int.intBits z ≤ 1048576) → ∃ st', f [.lst (ns.map D.int)] [] = .ok (.bl true) st')
    (hF : ∀ base : Heap, K.In base → base.Ns mainGlobals mg → (∀ p ∈ tf, LamX.TabB base mg (He.cT K p).1 (He.cT K p).2) → FnOk l.prog w K mg base (L2.CX l.prog w) k fa fd [x] (spU ⟨K, T, L⟩ 1 f)) :
    LamX.LawAtS l w K (L2.CX l.prog w) k n x mg fa h := by
  refine ⟨fd, tf.map (He.cT K), spU ⟨K, T, L⟩ 1 f, fun p hp => ?_, fun p hp => ?_, fun p hp => ?_, hb, fun H a ns hl hbits hH hS => ?_, fun base KB G hT => hF base KB G fun p hp => hT _ (List.mem_map.mpr ⟨p, hp, rfl⟩)⟩
  · obtain ⟨d, hd, rfl⟩ := List.mem_map.mp hp
    exact c.empty d hd
  · obtain ⟨d, hd, rfl⟩ := List.mem_map.mp hp
    exact c.out d hd
  · obtain ⟨d, hd, rfl⟩ := List.mem_map.mp hp
    exact PySem.W.codeHd_of_K KX (c.hd d hd)
  · refine law_sp (C := ⟨K, T, L⟩) (tbs_empty fun t ht => ?_) hS (hf ns hl hbits)
    obtain ⟨p, hp, e⟩ := hTf t ht
    rw [e]
    exact hH _ (List.mem_map.mpr ⟨p, hp, rfl⟩)
end CV
/-! CVt: meanings, worked out step by step. -/
namespace CV
open PySem L2
section
variable {α β : Type} {ρ : Envr} {st : Sto}
@[simp] theorem bd_ok {a : α} {f : α → Sto → R β} : (R.ok a st).bd f = f a st := rfl
@[simp] theorem bd_exn {e : Str} {f : α → Sto → R β} : (R.exn e st : R α).bd f = .exn e st := rfl
@[simp] theorem bd_fail {f : α → Sto → R β} : (R.fail : R α).bd f = .fail := rfl
@[simp] theorem bs_ok {a : α} {f : α → Sto → RS} : (R.ok a st).bs f = f a st := rfl
@[simp] theorem bs_exn {e : Str} {f : α → Sto → RS} : (R.exn e st : R α).bs f = .exn e st := rfl
@[simp] theorem bs_fail {f : α → Sto → RS} : (R.fail : R α).bs f = .fail := rfl
@[simp] theorem ap_c {d : D} : mC d ρ st = .ok d st := rfl
@[simp] theorem ap_un {f : D → Sto → R D} {a : ME} : mUn f a ρ st = (a ρ st).bd f := rfl
@[simp] theorem ap_bin {f : D → D → Sto → R D} {a b : ME} : mBin f a b ρ st = (a ρ st).bd fun x st => (b ρ st).bd fun y st => f x y st := rfl
@[simp] theorem ap_nil : aNil ρ st = .ok [] st := rfl
@[simp] theorem ap_cons {a : ME} {r : MA} : aCons a r ρ st = (a ρ st).bd fun d st => (r ρ st).bd fun ds st => .ok (d :: ds) st := rfl
@[simp] theorem ap_tup {a : MA} : mTup a ρ st = (a ρ st).bd fun ds st => if fits ds.length then .ok (.tup ds) st else .fail := rfl
@[simp] theorem ap_lst {a : MA} : mLst a ρ st = (a ρ st).bd fun ds st => if fits ds.length then .ok (.lst ds) st else .fail := rfl
@[simp] theorem ap_lstM {a : MA} : mLstM a ρ st = (a ρ st).bd fun ds st => if fits ds.length then .ok (.obj st.length) (st ++ [.lst ds]) else .fail := rfl
@[simp] theorem ap_call {f : FnS} {a : MA} : mCall f a ρ st = (a ρ st).bd fun ds st => f ds st := rfl
@[simp] theorem ap_and {a b : MT} : tAnd a b ρ st = (a ρ st).bd fun c st => if c then b ρ st else .ok false st := rfl
@[simp] theorem ap_or {a b : MT} : tOr a b ρ st = (a ρ st).bd fun c st => if c then .ok true st else b ρ st := rfl
@[simp] theorem ap_not {a : MT} : tNot a ρ st = (a ρ st).bd fun c st => .ok (!c) st := rfl
@[simp] theorem ap_if {c : MT} {a b : ME} : mIf c a b ρ st = (c ρ st).bd fun c st => if c then a ρ st else b ρ st := rfl
@[simp] theorem ap_tB {a : ME} : tB a ρ st = (a ρ st).bd fun d st => match d with
  | .bl b => .ok b st
  | _ => .fail := rfl
@[simp] theorem ap_yes : tYes ρ st = .ok true st := rfl
@[simp] theorem ap_chain {f g : D → D → Sto → R D} {a b c : ME} : mChain f g a b c ρ st = (a ρ st).bd fun x st => (b ρ st).bd fun y st => (f x y st).bd fun z st => match z with
  | .bl true => (c ρ st).bd fun w st => g y w st
  | .bl false => .ok (.bl false) st
  | _ => .fail := rfl
@[simp] theorem ap_told {caught : Str → Bool} {ret : Str} {m : ME} : mTold caught ret m ρ st = told caught ret (m ρ st) := rfl
@[simp] theorem told_ok {caught : Str → Bool} {ret : Str} {d : D} : told caught ret (.ok d st) = .ok d st := rfl
@[simp] theorem told_exn {caught : Str → Bool} {ret e : Str} : told caught ret (.exn e st) = if caught e then .ok (.str ret) st else .fail := rfl
/-! statements -/
@[simp] theorem ap_sNil : sNil ρ st = .nx ρ st := rfl
@[simp] theorem ap_sBrk : sBrk ρ st = .bk ρ st := rfl
@[simp] theorem ap_sCnt : sCnt ρ st = .ct ρ st := rfl
@[simp] theorem ap_sCons {a b : MS} : sCons a b ρ st = match a ρ st with
  | .nx ρ' st' => b ρ' st'
  | r => r := rfl
@[simp] theorem ap_sExpr {a : ME} : sExpr a ρ st = (a ρ st).bs fun _ st => .nx ρ st := rfl
@[simp] theorem ap_sRet {a : ME} : sRet a ρ st = (a ρ st).bs fun d st => .rt d st := rfl
@[simp] theorem ap_sRetN : sRetN ρ st = .rt .non st := rfl
@[simp] theorem ap_sIf {c : MT} {a b : MS} : sIf c a b ρ st = (c ρ st).bs fun c st => if c then a ρ st else b ρ st := rfl
@[simp] theorem ap_sAsg {a : ME} {g : MG} : sAsg a g ρ st = (a ρ st).bs fun d st => (g d ρ st).bs fun ρ st => .nx ρ st := rfl
@[simp] theorem ap_gName {i : Nat} {d : D} : CV.gName i d ρ st = .ok (setAt ρ i (some d)) st := rfl
@[simp] theorem ap_gTup {gs : List MG} {ds : List D} : gTup gs (.tup ds) ρ st = if ds.length == gs.length then gNames gs ds ρ st else .fail := rfl
@[simp] theorem ap_gN0 : gNames [] [] ρ st = .ok ρ st := rfl
@[simp] theorem ap_gN1 {g : MG} {gs : List MG} {d : D} {ds : List D} : gNames (g :: gs) (d :: ds) ρ st = (g d ρ st).bd fun ρ st => gNames gs ds ρ st := rfl
@[simp] theorem ap_sPar {is : List Nat} {a : MA} : sPar is a ρ st = (a ρ st).bs fun ds st => (gNames (is.map CV.gName) ds ρ st).bs fun ρ st => .nx ρ st := rfl
@[simp] theorem ap_sRaise {e : Str} : sRaise e ρ st = .exn e st := rfl
@[simp] theorem ap_sFor {it : MI} {g : MG} {b : MS} : sFor it g b ρ st = (it ρ st).bs fun ds st => sForL g b ds ρ st := rfl
@[simp] theorem ap_for0 {g : MG} {b : MS} : sForL g b [] ρ st = .nx ρ st := rfl
@[simp] theorem ap_sWhile {c : MT} {b : MS} : sWhile c b ρ st = mWhile turns c b ρ st := rfl
/-! operators -/
@[simp] theorem op_add_i {i j : Int} : oAdd (.int i) (.int j) st = .ok (.int (i + j)) st := rfl
@[simp] theorem op_sub_i {i j : Int} : oSub (.int i) (.int j) st = .ok (.int (i - j)) st := rfl
@[simp] theorem op_neg_i {i : Int} : oNeg (.int i) st = .ok (.int (-i)) st := rfl
@[simp] theorem op_lt_i {i j : Int} : oLt (.int i) (.int j) st = .ok (.bl (decide (i < j))) st := rfl
@[simp] theorem op_le_i {i j : Int} : oLe (.int i) (.int j) st = .ok (.bl (decide (i ≤ j))) st := rfl
@[simp] theorem op_gt_i {i j : Int} : oGt (.int i) (.int j) st = .ok (.bl (decide (j < i))) st := rfl
@[simp] theorem op_ge_i {i j : Int} : oGe (.int i) (.int j) st = .ok (.bl (decide (j ≤ i))) st := rfl
theorem op_mul_l {i j : Int} (h : small i = true) : oMul (.int i) (.int j) st = .ok (.int (i * j)) st := by simp [oMul, h]
theorem op_mul_r {i j : Int} (h : small j = true) : oMul (.int i) (.int j) st = .ok (.int (i * j)) st := by simp [oMul, h]
theorem small_of {i : Int} (h1 : -18446744073709551616 < i) (h2 : i < 18446744073709551616) : small i = true := by
  unfold small
  rw [Bool.and_eq_true, decide_eq_true_eq, decide_eq_true_eq]
  exact ⟨by simpa using h1, by simpa using h2⟩
theorem op_div_i {i j : Int} (h1 : 0 < j) (h2 : j < 18446744073709551616) : oDiv (.int i) (.int j) st = .ok (.int (i / j)) st := by
  have h : j.natAbs.log2 < 9000 := by
    have : j.natAbs < 2 ^ 64 := by omega
    exact Nat.lt_trans ((Nat.log2_lt (by omega)).mpr this) (by decide)
  simp [oDiv, h1, h]
theorem op_mod_i {i j : Int} (h1 : 0 < j) : oMod (.int i) (.int j) st = .ok (.int (i % j)) st := by simp [oMod, h1]
/-! equality -/
@[simp] theorem eqv_ii {i j : Int} : D.eqv (.int i) (.int j) = (i == j) := rfl
@[simp] theorem eqv_ss {i j : Str} : D.eqv (.str i) (.str j) = (i == j) := rfl
@[simp] theorem eqv_bb {i j : Bool} : D.eqv (.bl i) (.bl j) = (i == j) := rfl
def eqvs : List D → List D → Bool
  | [], [] => true
  | x :: xs, y :: ys => D.eqv x y && eqvs xs ys
  | _, _ => false
theorem eqvs_eq : ∀ {xs ys : List D}, PyData.eqvAll (D.pys xs) (D.pys ys) = eqvs xs ys
  | [], [] => rfl
  | [], _ :: _ => rfl
  | _ :: _, [] => rfl
  | x :: xs, y :: ys => by
    show (PyData.eqv x.py y.py && PyData.eqvAll (D.pys xs) (D.pys ys)) = _
    rw [eqvs_eq]
    rfl
@[simp] theorem eqv_tt {xs ys : List D} : D.eqv (.tup xs) (.tup ys) = eqvs xs ys := eqvs_eq
@[simp] theorem eqv_ll {xs ys : List D} : D.eqv (.lst xs) (.lst ys) = eqvs xs ys := eqvs_eq
@[simp] theorem eqv_st {i : Str} {l : List D} : D.eqv (.tup l) (.str i) = false := rfl
@[simp] theorem eqvs_nil : eqvs [] [] = true := rfl
@[simp] theorem eqvs_cons {x y : D} {xs ys : List D} : eqvs (x :: xs) (y :: ys) = (D.eqv x y && eqvs xs ys) := rfl
@[simp] theorem eqvs_nc {y : D} {ys : List D} : eqvs [] (y :: ys) = false := rfl
@[simp] theorem eqvs_cn {x : D} {xs : List D} : eqvs (x :: xs) [] = false := rfl
@[simp] theorem lay_i {n : Nat} {i : Int} : D.lay n (.int i) = true := by cases n <;> rfl
@[simp] theorem lay_b {n : Nat} {i : Bool} : D.lay n (.bl i) = true := by cases n <;> rfl
@[simp] theorem lay_t {n : Nat} {l : List D} : D.lay (n + 1) (.tup l) = D.lays n l := rfl
@[simp] theorem lay_l {n : Nat} {l : List D} : D.lay (n + 1) (.lst l) = D.lays n l := rfl
@[simp] theorem lays_nil {n : Nat} : D.lays n [] = true := by cases n <;> rfl
@[simp] theorem lays_cons {n : Nat} {d : D} {l : List D} : D.lays n (d :: l) = (D.lay n d && D.lays n l) := by cases n <;> rfl
@[simp] theorem pure_i {i : Int} : D.pure (.int i) = true := rfl
@[simp] theorem pure_b {i : Bool} : D.pure (.bl i) = true := rfl
@[simp] theorem pure_s {i : Str} : D.pure (.str i) = true := rfl
@[simp] theorem pure_t {l : List D} : D.pure (.tup l) = D.pures l := rfl
@[simp] theorem pure_l {l : List D} : D.pure (.lst l) = D.pures l := rfl
@[simp] theorem pures_nil : D.pures [] = true := rfl
@[simp] theorem pures_cons {d : D} {l : List D} : D.pures (d :: l) = (D.pure d && D.pures l) := rfl
theorem op_eq_of {x y : D} (h1 : D.lay 12 x = true) (h2 : D.lay 12 y = true) : oEq x y st = .ok (.bl (D.eqv x y)) st := by simp [oEq, h1, h2]
theorem op_ne_of {x y : D} (h1 : D.lay 12 x = true) (h2 : D.lay 12 y = true) : oNe x y st = .ok (.bl (!D.eqv x y)) st := by simp [oNe, h1, h2]
@[simp] theorem op_eq_i {i j : Int} : oEq (.int i) (.int j) st = .ok (.bl (i == j)) st := rfl
@[simp] theorem op_ne_i {i j : Int} : oNe (.int i) (.int j) st = .ok (.bl (!(i == j))) st := rfl
end
end CV
namespace K01
open CV L2 PySem PyProof.Rows PySem.Spec
/-! printed by gen.py: meanings of the defs, and that the machine keeps to them -/
abbrev top (i : Nat) : Stmt := PySem.Challenge.pw_courtstack_k01_exact_numbers_for_courts.main.body.getD i (.Pass ⟨0, 0, 0, 0⟩)
abbrev s_share : Stmt := top 4
abbrev N_share : List Str := ["one", "under", "sign", "left", "right"]
theorem sc_share : FnScope N_share ["one", "under"] (defScope s_share) := C8.fnScope_by (by kernel_rfl)
abbrev s_whole : Stmt := top 5
abbrev N_whole : List Str := ["number"]
theorem sc_whole : FnScope N_whole ["number"] (defScope s_whole) := C8.fnScope_by (by kernel_rfl)
abbrev s_plus : Stmt := top 6
abbrev N_plus : List Str := ["one", "other"]
theorem sc_plus : FnScope N_plus ["one", "other"] (defScope s_plus) := C8.fnScope_by (by kernel_rfl)
abbrev s_minus : Stmt := top 7
abbrev N_minus : List Str := ["one", "other"]
theorem sc_minus : FnScope N_minus ["one", "other"] (defScope s_minus) := C8.fnScope_by (by kernel_rfl)
abbrev s_times : Stmt := top 8
abbrev N_times : List Str := ["one", "other"]
theorem sc_times : FnScope N_times ["one", "other"] (defScope s_times) := C8.fnScope_by (by kernel_rfl)
abbrev s_parted : Stmt := top 9
abbrev N_parted : List Str := ["one", "other"]
theorem sc_parted : FnScope N_parted ["one", "other"] (defScope s_parted) := C8.fnScope_by (by kernel_rfl)
abbrev s_is_less : Stmt := top 10
abbrev N_is_less : List Str := ["one", "other"]
theorem sc_is_less : FnScope N_is_less ["one", "other"] (defScope s_is_less) := C8.fnScope_by (by kernel_rfl)
abbrev s_below : Stmt := top 11
abbrev N_below : List Str := ["one"]
theorem sc_below : FnScope N_below ["one"] (defScope s_below) := C8.fnScope_by (by kernel_rfl)
abbrev s_above : Stmt := top 12
abbrev N_above : List Str := ["one"]
theorem sc_above : FnScope N_above ["one"] (defScope s_above) := C8.fnScope_by (by kernel_rfl)
abbrev s_nearest : Stmt := top 13
abbrev N_nearest : List Str := ["one"]
theorem sc_nearest : FnScope N_nearest ["one"] (defScope s_nearest) := C8.fnScope_by (by kernel_rfl)
abbrev s_sum_of : Stmt := top 14
abbrev N_sum_of : List Str := ["rows", "found", "one"]
theorem sc_sum_of : FnScope N_sum_of ["rows"] (defScope s_sum_of) := C8.fnScope_by (by kernel_rfl)
abbrev s_told_share : Stmt := top 15
abbrev N_told_share : List Str := ["one"]
theorem sc_told_share : FnScope N_told_share ["one"] (defScope s_told_share) := C8.fnScope_by (by kernel_rfl)
abbrev s_split : Stmt := top 16
abbrev N_split : List Str := ["number", "parts", "all_parts", "found", "rests", "rest", "place", "part"]
theorem sc_split : FnScope N_split ["number", "parts"] (defScope s_split) := C8.fnScope_by (by kernel_rfl)
abbrev s__law_dice : Stmt := top 18
abbrev N__law_dice : List Str := ["cell"]
theorem sc__law_dice : FnScope N__law_dice ["cell"] (defScope s__law_dice) := C8.fnScope_by (by kernel_rfl)
abbrev s__law_roll : Stmt := top 19
abbrev N__law_roll : List Str := ["dice", "many", "found"]
theorem sc__law_roll : FnScope N__law_roll ["dice", "many"] (defScope s__law_roll) := C8.fnScope_by (by kernel_rfl)
abbrev s__law_rounds : Stmt := top 20
abbrev N__law_rounds : List Str := ["script", "most", "cells", "cell"]
theorem sc__law_rounds : FnScope N__law_rounds ["script", "most"] (defScope s__law_rounds) := C8.fnScope_by (by kernel_rfl)
abbrev s__law_told : Stmt := top 21
abbrev N__law_told : List Str := ["what"]
theorem sc__law_told : FnScope N__law_told ["what"] (defScope s__law_told) := C8.fnScope_by (by kernel_rfl)
abbrev s__law_gcd : Stmt := top 22
abbrev N__law_gcd : List Str := ["one", "other"]
theorem sc__law_gcd : FnScope N__law_gcd ["one", "other"] (defScope s__law_gcd) := C8.fnScope_by (by kernel_rfl)
abbrev s__law_share : Stmt := top 23
abbrev N__law_share : List Str := ["one", "under", "sign", "both"]
theorem sc__law_share : FnScope N__law_share ["one", "under"] (defScope s__law_share) := C8.fnScope_by (by kernel_rfl)
abbrev s__law_add : Stmt := top 24
abbrev N__law_add : List Str := ["one", "other"]
theorem sc__law_add : FnScope N__law_add ["one", "other"] (defScope s__law_add) := C8.fnScope_by (by kernel_rfl)
abbrev s__law_mul : Stmt := top 25
abbrev N__law_mul : List Str := ["one", "other"]
theorem sc__law_mul : FnScope N__law_mul ["one", "other"] (defScope s__law_mul) := C8.fnScope_by (by kernel_rfl)
abbrev s__law_less : Stmt := top 26
abbrev N__law_less : List Str := ["one", "other"]
theorem sc__law_less : FnScope N__law_less ["one", "other"] (defScope s__law_less) := C8.fnScope_by (by kernel_rfl)
abbrev s__law_one : Stmt := top 27
abbrev N__law_one : List Str := ["dice"]
theorem sc__law_one : FnScope N__law_one ["dice"] (defScope s__law_one) := C8.fnScope_by (by kernel_rfl)
abbrev s__law_plain : Stmt := top 28
abbrev N__law_plain : List Str := ["told", "bad", "k", "f"]
theorem sc__law_plain : FnScope N__law_plain [] (defScope s__law_plain) := C8.fnScope_by (by kernel_rfl)
abbrev s_law : Stmt := top 29
abbrev N_law : List Str := ["script", "dice", "row", "found", "top", "under", "one", "other", "third", "low", "high", "near", "rows", "total", "parts", "number", "floors", "order", "more", "k", "part", "rest"]
theorem sc_law : FnScope N_law ["script"] (defScope s_law) := C8.fnScope_by (by kernel_rfl)
def asgV : Stmt → Expr
  | .Assign _ v _ => v
  | _ => .Tuple [] 0 ⟨0, 0, 0, 0⟩
def binR : Expr → Expr
  | .BinOp _ _ r _ => r
  | e => e
def elt (k : Nat) : Expr → Expr
  | .List es _ => es.getD k (.Tuple [] 0 ⟨0, 0, 0, 0⟩)
  | e => e
def cloAt (q : Str) : Expr → Clo
  | .Lambda ps b sc _ => ⟨ps, b, sc, q⟩
  | e => ⟨defArgs (.Pass ⟨0, 0, 0, 0⟩), e, defScope (.Pass ⟨0, 0, 0, 0⟩), q⟩
abbrev cl_0 : Clo := cloAt ("_law_plain.<locals>." ++ "<lambda>") (elt 4 (asgV ((defBody s__law_plain).getD 3 (.Pass ⟨0, 0, 0, 0⟩))))
theorem cloS_0 : CloS cl_0 := cloS_by (by kernel_rfl) (fun _ _ _ => rfl)
abbrev cl_1 : Clo := cloAt ("_law_plain.<locals>." ++ "<lambda>") (elt 3 (asgV ((defBody s__law_plain).getD 3 (.Pass ⟨0, 0, 0, 0⟩))))
theorem cloS_1 : CloS cl_1 := cloS_by (by kernel_rfl) (fun _ _ _ => rfl)
abbrev cl_2 : Clo := cloAt ("_law_plain.<locals>." ++ "<lambda>") (elt 2 (asgV ((defBody s__law_plain).getD 3 (.Pass ⟨0, 0, 0, 0⟩))))
theorem cloS_2 : CloS cl_2 := cloS_by (by kernel_rfl) (fun _ _ _ => rfl)
abbrev cl_3 : Clo := cloAt ("_law_plain.<locals>." ++ "<lambda>") (elt 1 (asgV ((defBody s__law_plain).getD 3 (.Pass ⟨0, 0, 0, 0⟩))))
theorem cloS_3 : CloS cl_3 := cloS_by (by kernel_rfl) (fun _ _ _ => rfl)
abbrev cl_4 : Clo := cloAt ("_law_plain.<locals>." ++ "<lambda>") (elt 0 (asgV ((defBody s__law_plain).getD 3 (.Pass ⟨0, 0, 0, 0⟩))))
theorem cloS_4 : CloS cl_4 := cloS_by (by kernel_rfl) (fun _ _ _ => rfl)
abbrev cl_5 : Clo := cloAt ("_law_plain.<locals>." ++ "<lambda>") (elt 0 (binR (asgV ((defBody s__law_plain).getD 4 (.Pass ⟨0, 0, 0, 0⟩)))))
theorem cloS_5 : CloS cl_5 := cloS_by (by kernel_rfl) (fun _ _ _ => rfl)
def clos : List Clo := [cl_0, cl_1, cl_2, cl_3, cl_4, cl_5]
def caught (e : Str) : Bool := (["ShareError"] : List Str).contains e
abbrev tb_split (C : Ct) : Tb := ⟨He.tabOf C.K (He.codeOf C.K ("split", none)), "split.<locals>.", []⟩
abbrev tb__law_plain (C : Ct) : Tb := ⟨He.tabOf C.K (He.codeOf C.K ("_law_plain", none)), "_law_plain.<locals>.", [(100, 0), (99, 0), (98, 0), (97, 0), (96, 0), (102, 0)]⟩
abbrev tb_law (C : Ct) : Tb := ⟨He.tabOf C.K (He.codeOf C.K ("law", none)), "law.<locals>.", [(109, 21), (114, 21), (125, 26)]⟩
theorem bb_abs : bootBuiltins "abs" = some (.builtin "abs") := by decide +kernel
theorem bb_int : bootBuiltins "int" = some (.type "int") := by decide +kernel
theorem bb_len : bootBuiltins "len" = some (.builtin "len") := by decide +kernel
theorem bb_list : bootBuiltins "list" = some (.type "list") := by decide +kernel
theorem bb_min : bootBuiltins "min" = some (.builtin "min") := by decide +kernel
theorem bb_sorted : bootBuiltins "sorted" = some (.builtin "sorted") := by decide +kernel
theorem bb_str : bootBuiltins "str" = some (.type "str") := by decide +kernel
theorem bb_sum : bootBuiltins "sum" = some (.builtin "sum") := by decide +kernel
theorem bb_tuple : bootBuiltins "tuple" = some (.type "tuple") := by decide +kernel
structure Facts (C : Ct) (mg : Str → Option Value) (base : Heap) : Prop where
  L : C.L = clos
  b_abs : mg "abs" = none
  b_enumerate : mg "enumerate" = none
  b_int : mg "int" = none
  b_len : mg "len" = none
  b_list : mg "list" = none
  b_min : mg "min" = none
  b_range : mg "range" = none
  b_sorted : mg "sorted" = none
  b_str : mg "str" = none
  b_sum : mg "sum" = none
  b_tuple : mg "tuple" = none
  d_share : DefF C mg "share" s_share
  d_whole : DefF C mg "whole" s_whole
  d_plus : DefF C mg "plus" s_plus
  d_minus : DefF C mg "minus" s_minus
  d_times : DefF C mg "times" s_times
  d_parted : DefF C mg "parted" s_parted
  d_is_less : DefF C mg "is_less" s_is_less
  d_below : DefF C mg "below" s_below
  d_above : DefF C mg "above" s_above
  d_nearest : DefF C mg "nearest" s_nearest
  d_sum_of : DefF C mg "sum_of" s_sum_of
  d_told_share : DefF C mg "told_share" s_told_share
  d_split : DefF C mg "split" s_split
  d__law_dice : DefF C mg "_law_dice" s__law_dice
  d__law_roll : DefF C mg "_law_roll" s__law_roll
  d__law_rounds : DefF C mg "_law_rounds" s__law_rounds
  d__law_told : DefF C mg "_law_told" s__law_told
  d__law_gcd : DefF C mg "_law_gcd" s__law_gcd
  d__law_share : DefF C mg "_law_share" s__law_share
  d__law_add : DefF C mg "_law_add" s__law_add
  d__law_mul : DefF C mg "_law_mul" s__law_mul
  d__law_less : DefF C mg "_law_less" s__law_less
  d__law_one : DefF C mg "_law_one" s__law_one
  d__law_plain : DefF C mg "_law_plain" s__law_plain
  d_law : DefF C mg "law" s_law
  x_ShareError : ExcF C mg "ShareError"
  t_split : TabF C mg base "split" (tb_split C)
  t__law_plain : TabF C mg base "_law_plain" (tb__law_plain C)
  t_law : TabF C mg base "law" (tb_law C)
  ex : ∀ e, caught e = true → PySem.W.exmOne C.K (.ref (He.ga C.K e)) (.ref (He.ga C.K "ShareError")) = some true
section
variable {C : Ct} {P : Program} {w : World} {mg : Str → Option Value} {base : Heap}
theorem hi_0 (Fx : Facts C mg base) : C.L[0]? = some cl_0 := by rw [Fx.L] <;> rfl
theorem hi_1 (Fx : Facts C mg base) : C.L[1]? = some cl_1 := by rw [Fx.L] <;> rfl
theorem hi_2 (Fx : Facts C mg base) : C.L[2]? = some cl_2 := by rw [Fx.L] <;> rfl
theorem hi_3 (Fx : Facts C mg base) : C.L[3]? = some cl_3 := by rw [Fx.L] <;> rfl
theorem hi_4 (Fx : Facts C mg base) : C.L[4]? = some cl_4 := by rw [Fx.L] <;> rfl
theorem hi_5 (Fx : Facts C mg base) : C.L[5]? = some cl_5 := by rw [Fx.L] <;> rfl
theorem told_d (Fx : Facts C mg base) : ∃ fd, FunD C.K "_law_told" "_law_told" (defArgs s__law_told) (defBody s__law_told) (defScope s__law_told) [] [] (He.ga C.K "_law_told") fd ∧ L2.Binds C.K fd ["what"] [] := by
  obtain ⟨fd, F⟩ := Fx.d__law_told.d
  exact ⟨fd, F, F.bindsN fun _ _ _ _ _ _ us hl => match us, hl with | [_], _ => rfl⟩
abbrev m_share : MS := sCons (sIf (tB (mBin oEq (mVar 1) (mC (.int 0)))) (sRaise "ShareError") (sNil)) (sCons (sPar [3, 4] (aCons (mCall fAbs (aCons (mVar 0) (aNil))) (aCons (mCall fAbs (aCons (mVar 1) (aNil))) (aNil)))) (sCons (sWhile (tB (mBin oNe (mVar 4) (mC (.int 0)))) (sPar [3, 4] (aCons (mVar 4) (aCons (mBin oMod (mVar 3) (mVar 4)) (aNil))))) (sCons (sAsg (mIf (tB (mBin oGt (mVar 1) (mC (.int 0)))) (mC (.int 1)) (mBin oSub (mC (.int 0)) (mC (.int 1)))) (gName 2)) (sRet (mTup (aCons (mBin oDiv (mBin oMul (mVar 2) (mVar 0)) (mVar 3)) (aCons (mBin oDiv (mBin oMul (mVar 2) (mVar 1)) (mVar 3)) (aNil))))))))
def f_share : FnS := fnP 5 2 m_share
theorem b_share (Fx : Facts C mg base) : Body C P w mg base N_share "share" (defScope s_share) (He.ga C.K "share") 0 (defBody s_share) m_share := fun cdv hc A outer s H E hr => by
  have nd : N_share.Nodup := sc_share.nd
  exact ss_cons (ss_if (st_cmp (op_eqD (Room.u64 hr)) ops_eq (se_v 1 (pv 1)) (se_int) (nomark _)) (ss_one (ss_raise rfl takes_d (Fx.x_ShareError.pmk rfl rfl))) (ss_nil)) (ss_cons (ss_par rfl nd rfl rfl (by decide) rfl rfl (sa_cons (se_blt call_abs blt_abs rfl Fx.b_abs bb_abs (sa_cons (se_v 0 (pv 0)) (sa_nil))) (sa_cons (se_blt call_abs blt_abs rfl Fx.b_abs bb_abs (sa_cons (se_v 1 (pv 1)) (sa_nil))) (sa_nil))) rfl) (ss_cons (ss_while passes_d (st_cmp (op_neD (Room.u64 hr)) ops_ne (se_v 4 (pv 4)) (se_int) (nomark _)) (ss_one (ss_par rfl nd rfl rfl (by decide) rfl rfl (sa_cons (se_v 4 (pv 4)) (sa_cons (se_bin op_mod ops_mod (se_v 3 (pv 3)) (se_v 4 (pv 4))) (sa_nil))) rfl))) (ss_cons (ss_asg (se_if (st_cmp op_gt ops_gt (se_v 1 (pv 1)) (se_int) (nomark _)) (se_int) (se_bin op_sub ops_sub (se_int) (se_int))) (sg_name (pg_name nd rfl (Or.inl rfl)))) (ss_one (ss_ret (se_tup (sa_cons (se_bin op_fdivW ops_div (se_bin op_mulA ops_mul (se_v 2 (pv 2)) (se_v 0 (pv 0))) (se_v 3 (pv 3))) (sa_cons (se_bin op_fdivW ops_div (se_bin op_mulA ops_mul (se_v 2 (pv 2)) (se_v 1 (pv 1))) (se_v 3 (pv 3))) (sa_nil)))))))))
theorem fs_share (Fx : Facts C mg base) : FS C P w mg base "share" 1 2 f_share := by
  obtain ⟨fd, F⟩ := Fx.d_share.d
  exact fs_P Fx.d_share.g F (F.bindsN fun _ _ _ _ _ _ us hl => match us, hl with | [_, _], _ => rfl) sc_share rfl rfl (b_share Fx)
abbrev m_whole : MS := sRet (mTup (aCons (mVar 0) (aCons (mC (.int 1)) (aNil))))
def f_whole : FnS := fnP 1 1 m_whole
theorem b_whole (Fx : Facts C mg base) : Body C P w mg base N_whole "whole" (defScope s_whole) (He.ga C.K "whole") 0 (defBody s_whole) m_whole := fun cdv hc A outer s H E hr => by
  have nd : N_whole.Nodup := sc_whole.nd
  exact ss_one (ss_ret (se_tup (sa_cons (se_v 0 (pv 0)) (sa_cons (se_int) (sa_nil)))))
theorem fs_whole (Fx : Facts C mg base) : FS C P w mg base "whole" 1 1 f_whole := by
  obtain ⟨fd, F⟩ := Fx.d_whole.d
  exact fs_P Fx.d_whole.g F (F.bindsN fun _ _ _ _ _ _ us hl => match us, hl with | [_], _ => rfl) sc_whole rfl rfl (b_whole Fx)
abbrev m_plus : MS := sRet (mCall f_share (aCons (mBin oAdd (mBin oMul (mBin oIx (mVar 0) (mC (.int 0))) (mBin oIx (mVar 1) (mC (.int 1)))) (mBin oMul (mBin oIx (mVar 1) (mC (.int 0))) (mBin oIx (mVar 0) (mC (.int 1))))) (aCons (mBin oMul (mBin oIx (mVar 0) (mC (.int 1))) (mBin oIx (mVar 1) (mC (.int 1)))) (aNil))))
def f_plus : FnS := fnP 2 2 m_plus
theorem b_plus (Fx : Facts C mg base) : Body C P w mg base N_plus "plus" (defScope s_plus) (He.ga C.K "plus") 1 (defBody s_plus) m_plus := fun cdv hc A outer s H E hr => by
  have nd : N_plus.Nodup := sc_plus.nd
  exact ss_one (ss_ret (se_call (fs_share Fx) rfl (Room.mono hr (by decide)) takes_d rfl (sa_cons (se_bin op_addA ops_add (se_bin op_mulA ops_mul (se_ix (se_v 0 (pv 0)) (se_int) rfl (fun _ _ => rfl)) (se_ix (se_v 1 (pv 1)) (se_int) rfl (fun _ _ => rfl))) (se_bin op_mulA ops_mul (se_ix (se_v 1 (pv 1)) (se_int) rfl (fun _ _ => rfl)) (se_ix (se_v 0 (pv 0)) (se_int) rfl (fun _ _ => rfl)))) (sa_cons (se_bin op_mulA ops_mul (se_ix (se_v 0 (pv 0)) (se_int) rfl (fun _ _ => rfl)) (se_ix (se_v 1 (pv 1)) (se_int) rfl (fun _ _ => rfl))) (sa_nil)))))
theorem fs_plus (Fx : Facts C mg base) : FS C P w mg base "plus" 2 2 f_plus := by
  obtain ⟨fd, F⟩ := Fx.d_plus.d
  exact fs_P Fx.d_plus.g F (F.bindsN fun _ _ _ _ _ _ us hl => match us, hl with | [_, _], _ => rfl) sc_plus rfl rfl (b_plus Fx)
abbrev m_minus : MS := sRet (mCall f_share (aCons (mBin oSub (mBin oMul (mBin oIx (mVar 0) (mC (.int 0))) (mBin oIx (mVar 1) (mC (.int 1)))) (mBin oMul (mBin oIx (mVar 1) (mC (.int 0))) (mBin oIx (mVar 0) (mC (.int 1))))) (aCons (mBin oMul (mBin oIx (mVar 0) (mC (.int 1))) (mBin oIx (mVar 1) (mC (.int 1)))) (aNil))))
def f_minus : FnS := fnP 2 2 m_minus
theorem b_minus (Fx : Facts C mg base) : Body C P w mg base N_minus "minus" (defScope s_minus) (He.ga C.K "minus") 1 (defBody s_minus) m_minus := fun cdv hc A outer s H E hr => by
  have nd : N_minus.Nodup := sc_minus.nd
  exact ss_one (ss_ret (se_call (fs_share Fx) rfl (Room.mono hr (by decide)) takes_d rfl (sa_cons (se_bin op_sub ops_sub (se_bin op_mulA ops_mul (se_ix (se_v 0 (pv 0)) (se_int) rfl (fun _ _ => rfl)) (se_ix (se_v 1 (pv 1)) (se_int) rfl (fun _ _ => rfl))) (se_bin op_mulA ops_mul (se_ix (se_v 1 (pv 1)) (se_int) rfl (fun _ _ => rfl)) (se_ix (se_v 0 (pv 0)) (se_int) rfl (fun _ _ => rfl)))) (sa_cons (se_bin op_mulA ops_mul (se_ix (se_v 0 (pv 0)) (se_int) rfl (fun _ _ => rfl)) (se_ix (se_v 1 (pv 1)) (se_int) rfl (fun _ _ => rfl))) (sa_nil)))))
theorem fs_minus (Fx : Facts C mg base) : FS C P w mg base "minus" 2 2 f_minus := by
  obtain ⟨fd, F⟩ := Fx.d_minus.d
  exact fs_P Fx.d_minus.g F (F.bindsN fun _ _ _ _ _ _ us hl => match us, hl with | [_, _], _ => rfl) sc_minus rfl rfl (b_minus Fx)
abbrev m_times : MS := sRet (mCall f_share (aCons (mBin oMul (mBin oIx (mVar 0) (mC (.int 0))) (mBin oIx (mVar 1) (mC (.int 0)))) (aCons (mBin oMul (mBin oIx (mVar 0) (mC (.int 1))) (mBin oIx (mVar 1) (mC (.int 1)))) (aNil))))
def f_times : FnS := fnP 2 2 m_times
theorem b_times (Fx : Facts C mg base) : Body C P w mg base N_times "times" (defScope s_times) (He.ga C.K "times") 1 (defBody s_times) m_times := fun cdv hc A outer s H E hr => by
  have nd : N_times.Nodup := sc_times.nd
  exact ss_one (ss_ret (se_call (fs_share Fx) rfl (Room.mono hr (by decide)) takes_d rfl (sa_cons (se_bin op_mulA ops_mul (se_ix (se_v 0 (pv 0)) (se_int) rfl (fun _ _ => rfl)) (se_ix (se_v 1 (pv 1)) (se_int) rfl (fun _ _ => rfl))) (sa_cons (se_bin op_mulA ops_mul (se_ix (se_v 0 (pv 0)) (se_int) rfl (fun _ _ => rfl)) (se_ix (se_v 1 (pv 1)) (se_int) rfl (fun _ _ => rfl))) (sa_nil)))))
theorem fs_times (Fx : Facts C mg base) : FS C P w mg base "times" 2 2 f_times := by
  obtain ⟨fd, F⟩ := Fx.d_times.d
  exact fs_P Fx.d_times.g F (F.bindsN fun _ _ _ _ _ _ us hl => match us, hl with | [_, _], _ => rfl) sc_times rfl rfl (b_times Fx)
abbrev m_parted : MS := sCons (sIf (tB (mBin oEq (mBin oIx (mVar 1) (mC (.int 0))) (mC (.int 0)))) (sRaise "ShareError") (sNil)) (sRet (mCall f_share (aCons (mBin oMul (mBin oIx (mVar 0) (mC (.int 0))) (mBin oIx (mVar 1) (mC (.int 1)))) (aCons (mBin oMul (mBin oIx (mVar 0) (mC (.int 1))) (mBin oIx (mVar 1) (mC (.int 0)))) (aNil)))))
def f_parted : FnS := fnP 2 2 m_parted
theorem b_parted (Fx : Facts C mg base) : Body C P w mg base N_parted "parted" (defScope s_parted) (He.ga C.K "parted") 1 (defBody s_parted) m_parted := fun cdv hc A outer s H E hr => by
  have nd : N_parted.Nodup := sc_parted.nd
  exact ss_cons (ss_if (st_cmp (op_eqD (Room.u64 hr)) ops_eq (se_ix (se_v 1 (pv 1)) (se_int) rfl (fun _ _ => rfl)) (se_int) (nomark _)) (ss_one (ss_raise rfl takes_d (Fx.x_ShareError.pmk rfl rfl))) (ss_nil)) (ss_one (ss_ret (se_call (fs_share Fx) rfl (Room.mono hr (by decide)) takes_d rfl (sa_cons (se_bin op_mulA ops_mul (se_ix (se_v 0 (pv 0)) (se_int) rfl (fun _ _ => rfl)) (se_ix (se_v 1 (pv 1)) (se_int) rfl (fun _ _ => rfl))) (sa_cons (se_bin op_mulA ops_mul (se_ix (se_v 0 (pv 0)) (se_int) rfl (fun _ _ => rfl)) (se_ix (se_v 1 (pv 1)) (se_int) rfl (fun _ _ => rfl))) (sa_nil))))))
theorem fs_parted (Fx : Facts C mg base) : FS C P w mg base "parted" 2 2 f_parted := by
  obtain ⟨fd, F⟩ := Fx.d_parted.d
  exact fs_P Fx.d_parted.g F (F.bindsN fun _ _ _ _ _ _ us hl => match us, hl with | [_, _], _ => rfl) sc_parted rfl rfl (b_parted Fx)
abbrev m_is_less : MS := sRet (mBin oLt (mBin oMul (mBin oIx (mVar 0) (mC (.int 0))) (mBin oIx (mVar 1) (mC (.int 1)))) (mBin oMul (mBin oIx (mVar 1) (mC (.int 0))) (mBin oIx (mVar 0) (mC (.int 1)))))
def f_is_less : FnS := fnP 2 2 m_is_less
theorem b_is_less (Fx : Facts C mg base) : Body C P w mg base N_is_less "is_less" (defScope s_is_less) (He.ga C.K "is_less") 0 (defBody s_is_less) m_is_less := fun cdv hc A outer s H E hr => by
  have nd : N_is_less.Nodup := sc_is_less.nd
  exact ss_one (ss_ret (se_cmp op_lt ops_lt (se_bin op_mulA ops_mul (se_ix (se_v 0 (pv 0)) (se_int) rfl (fun _ _ => rfl)) (se_ix (se_v 1 (pv 1)) (se_int) rfl (fun _ _ => rfl))) (se_bin op_mulA ops_mul (se_ix (se_v 1 (pv 1)) (se_int) rfl (fun _ _ => rfl)) (se_ix (se_v 0 (pv 0)) (se_int) rfl (fun _ _ => rfl))) (nomark _)))
theorem fs_is_less (Fx : Facts C mg base) : FS C P w mg base "is_less" 1 2 f_is_less := by
  obtain ⟨fd, F⟩ := Fx.d_is_less.d
  exact fs_P Fx.d_is_less.g F (F.bindsN fun _ _ _ _ _ _ us hl => match us, hl with | [_, _], _ => rfl) sc_is_less rfl rfl (b_is_less Fx)
abbrev m_below : MS := sRet (mBin oDiv (mBin oIx (mVar 0) (mC (.int 0))) (mBin oIx (mVar 0) (mC (.int 1))))
def f_below : FnS := fnP 1 1 m_below
theorem b_below (Fx : Facts C mg base) : Body C P w mg base N_below "below" (defScope s_below) (He.ga C.K "below") 0 (defBody s_below) m_below := fun cdv hc A outer s H E hr => by
  have nd : N_below.Nodup := sc_below.nd
  exact ss_one (ss_ret (se_bin op_fdivW ops_div (se_ix (se_v 0 (pv 0)) (se_int) rfl (fun _ _ => rfl)) (se_ix (se_v 0 (pv 0)) (se_int) rfl (fun _ _ => rfl))))
theorem fs_below (Fx : Facts C mg base) : FS C P w mg base "below" 1 1 f_below := by
  obtain ⟨fd, F⟩ := Fx.d_below.d
  exact fs_P Fx.d_below.g F (F.bindsN fun _ _ _ _ _ _ us hl => match us, hl with | [_], _ => rfl) sc_below rfl rfl (b_below Fx)
abbrev m_above : MS := sRet (mBin oSub (mC (.int 0)) (mBin oDiv (mBin oSub (mC (.int 0)) (mBin oIx (mVar 0) (mC (.int 0)))) (mBin oIx (mVar 0) (mC (.int 1)))))
def f_above : FnS := fnP 1 1 m_above
theorem b_above (Fx : Facts C mg base) : Body C P w mg base N_above "above" (defScope s_above) (He.ga C.K "above") 0 (defBody s_above) m_above := fun cdv hc A outer s H E hr => by
  have nd : N_above.Nodup := sc_above.nd
  exact ss_one (ss_ret (se_bin op_sub ops_sub (se_int) (se_bin op_fdivW ops_div (se_bin op_sub ops_sub (se_int) (se_ix (se_v 0 (pv 0)) (se_int) rfl (fun _ _ => rfl))) (se_ix (se_v 0 (pv 0)) (se_int) rfl (fun _ _ => rfl)))))
theorem fs_above (Fx : Facts C mg base) : FS C P w mg base "above" 1 1 f_above := by
  obtain ⟨fd, F⟩ := Fx.d_above.d
  exact fs_P Fx.d_above.g F (F.bindsN fun _ _ _ _ _ _ us hl => match us, hl with | [_], _ => rfl) sc_above rfl rfl (b_above Fx)
abbrev m_nearest : MS := sRet (mBin oDiv (mBin oAdd (mBin oMul (mC (.int 2)) (mBin oIx (mVar 0) (mC (.int 0)))) (mBin oIx (mVar 0) (mC (.int 1)))) (mBin oMul (mC (.int 2)) (mBin oIx (mVar 0) (mC (.int 1)))))
def f_nearest : FnS := fnP 1 1 m_nearest
theorem b_nearest (Fx : Facts C mg base) : Body C P w mg base N_nearest "nearest" (defScope s_nearest) (He.ga C.K "nearest") 0 (defBody s_nearest) m_nearest := fun cdv hc A outer s H E hr => by
  have nd : N_nearest.Nodup := sc_nearest.nd
  exact ss_one (ss_ret (se_bin op_fdivW ops_div (se_bin op_addA ops_add (se_bin op_mulA ops_mul (se_int) (se_ix (se_v 0 (pv 0)) (se_int) rfl (fun _ _ => rfl))) (se_ix (se_v 0 (pv 0)) (se_int) rfl (fun _ _ => rfl))) (se_bin op_mulA ops_mul (se_int) (se_ix (se_v 0 (pv 0)) (se_int) rfl (fun _ _ => rfl)))))
theorem fs_nearest (Fx : Facts C mg base) : FS C P w mg base "nearest" 1 1 f_nearest := by
  obtain ⟨fd, F⟩ := Fx.d_nearest.d
  exact fs_P Fx.d_nearest.g F (F.bindsN fun _ _ _ _ _ _ us hl => match us, hl with | [_], _ => rfl) sc_nearest rfl rfl (b_nearest Fx)
abbrev m_sum_of : MS := sCons (sAsg (mTup (aCons (mC (.int 0)) (aCons (mC (.int 1)) (aNil)))) (gName 1)) (sCons (sFor (iSeq (mVar 0)) (gName 2) (sAsg (mCall f_plus (aCons (mVar 1) (aCons (mVar 2) (aNil)))) (gName 1))) (sRet (mVar 1)))
def f_sum_of : FnS := fnP 3 1 m_sum_of
theorem b_sum_of (Fx : Facts C mg base) : Body C P w mg base N_sum_of "sum_of" (defScope s_sum_of) (He.ga C.K "sum_of") 2 (defBody s_sum_of) m_sum_of := fun cdv hc A outer s H E hr => by
  have nd : N_sum_of.Nodup := sc_sum_of.nd
  exact ss_cons (ss_asg (se_tup (sa_cons (se_int) (sa_cons (se_int) (sa_nil)))) (sg_name (pg_name nd rfl (Or.inl rfl)))) (ss_cons (ss_for passes_d rfl (si_seq rfl (se_v 0 (pv 0))) (sg_name (pg_name nd rfl (Or.inl rfl))) (ss_one (ss_asg (se_call (fs_plus Fx) rfl (Room.mono hr (by decide)) takes_d rfl (sa_cons (se_v 1 (pv 1)) (sa_cons (se_v 2 (pv 2)) (sa_nil)))) (sg_name (pg_name nd rfl (Or.inl rfl)))))) (ss_one (ss_ret (se_v 1 (pv 1)))))
theorem fs_sum_of (Fx : Facts C mg base) : FS C P w mg base "sum_of" 3 1 f_sum_of := by
  obtain ⟨fd, F⟩ := Fx.d_sum_of.d
  exact fs_P Fx.d_sum_of.g F (F.bindsN fun _ _ _ _ _ _ us hl => match us, hl with | [_], _ => rfl) sc_sum_of rfl rfl (b_sum_of Fx)
abbrev m_told_share : MS := sRet (mBin oAdd (mFmt (mBin oIx (mVar 0) (mC (.int 0)))) (mIf (tB (mBin oNe (mBin oIx (mVar 0) (mC (.int 1))) (mC (.int 1)))) (mJoin [mC (.str ":"), mFmt (mBin oIx (mVar 0) (mC (.int 1)))]) (mC (.str ""))))
def f_told_share : FnS := fnP 1 1 m_told_share
theorem b_told_share (Fx : Facts C mg base) : Body C P w mg base N_told_share "told_share" (defScope s_told_share) (He.ga C.K "told_share") 0 (defBody s_told_share) m_told_share := fun cdv hc A outer s H E hr => by
  have nd : N_told_share.Nodup := sc_told_share.nd
  exact ss_one (ss_ret (se_bin op_addA ops_add (se_join1 (se_fmt (se_ix (se_v 0 (pv 0)) (se_int) rfl (fun _ _ => rfl)))) (se_if (st_cmp (op_neD (Room.u64 hr)) ops_ne (se_ix (se_v 0 (pv 0)) (se_int) rfl (fun _ _ => rfl)) (se_int) (nomark _)) (se_join (pj_cons (se_str) (pj_cons (se_fmt (se_ix (se_v 0 (pv 0)) (se_int) rfl (fun _ _ => rfl))) pj_nil))) (se_str))))
theorem fs_told_share (Fx : Facts C mg base) : FS C P w mg base "told_share" 1 1 f_told_share := by
  obtain ⟨fd, F⟩ := Fx.d_told_share.d
  exact fs_P Fx.d_told_share.g F (F.bindsN fun _ _ _ _ _ _ us hl => match us, hl with | [_], _ => rfl) sc_told_share rfl rfl (b_told_share Fx)
abbrev m_split : MS := sCons (sIf (tOr (tB (mBin oEq (mCall fLen (aCons (mVar 1) (aNil))) (mC (.int 0)))) (tOr (tB (mBin oLt (mCall fMin (aCons (mVar 1) (aNil))) (mC (.int 0)))) (tOr (tB (mBin oEq (mCall fSum (aCons (mVar 1) (aNil))) (mC (.int 0)))) (tB (mBin oLt (mVar 0) (mC (.int 0))))))) (sRaise "ShareError") (sNil)) (sCons (sAsg (mCall fSum (aCons (mVar 1) (aNil))) (gName 2)) (sCons (sAsg (mLcM (iSeq (mVar 1)) [7] (gName 7) (tYes) (mBin oDiv (mBin oMul (mVar 0) (mVar 7)) (mVar 2))) (gName 3)) (sCons (sAsg (mGx (iEnum (mVar 1)) [6, 7] (gTup [gName 6, gName 7]) (tYes) (mTup (aCons (mBin oSub (mC (.int 0)) (mBin oMod (mBin oMul (mVar 0) (mVar 7)) (mVar 2))) (aCons (mVar 6) (aNil)))) kSorted) (gName 4)) (sCons (sFor (iSeq (mSl (mVar 4) oNo (oSome (mBin oSub (mVar 0) (mCall fSum (aCons (mVar 3) (aNil))))))) (gTup [gName 5, gName 6]) (sAugS (mVar 3) (mVar 6) oAddI (mC (.int 1)))) (sRet (mCall fTuple (aCons (mVar 3) (aNil))))))))
def f_split : FnS := fnP 8 2 m_split
theorem b_split (Fx : Facts C mg base) : Body C P w mg base N_split "split" (defScope s_split) (He.ga C.K "split") 6 (defBody s_split) m_split := fun cdv hc A outer s H E hr => by
  have nd : N_split.Nodup := sc_split.nd
  have GT := Fx.t_split.gt (P := P) (w := w) (N := N_split) (scope := defScope s_split) (A := A) (outer := outer) (s := s) (H := H) (E := E) hc
  exact ss_cons (ss_if (PW.pt (sw_or (st_cmp (op_eqD (Room.u64 hr)) ops_eq (se_blt cr_lenA blt_len rfl Fx.b_len bb_len (sa_cons (se_v 1 (pv 1)) (sa_nil))) (se_int) (nomark _)) (sw_or (st_cmp op_lt ops_lt (se_blt (cr_minA rfl (Room.u10 hr)) blt_min rfl Fx.b_min bb_min (sa_cons (se_v 1 (pv 1)) (sa_nil))) (se_int) (nomark _)) (sw_or (st_cmp (op_eqD (Room.u64 hr)) ops_eq (se_blt (cr_sumA rfl) blt_sum rfl Fx.b_sum bb_sum (sa_cons (se_v 1 (pv 1)) (sa_nil))) (se_int) (nomark _)) (sw_or1 (st_cmp op_lt ops_lt (se_v 0 (pv 0)) (se_int) (nomark _))))))) (ss_one (ss_raise rfl takes_d (Fx.x_ShareError.pmk rfl rfl))) (ss_nil)) (ss_cons (ss_asg (se_blt (cr_sumA rfl) blt_sum rfl Fx.b_sum bb_sum (sa_cons (se_v 1 (pv 1)) (sa_nil))) (sg_name (pg_name nd rfl (Or.inr rfl)))) (ss_cons (ss_setLcM (own := [("part", 7)]) (sl := [7]) rfl nd (by decide) rfl rfl (sw_true rfl rfl rfl rfl) (si_seq rfl (se_v 1 (pv 1))) (blkOk_by (by kernel_rfl)) (fun s H c cl fp => sg_name (pg_name nd rfl (Or.inl rfl))) (fun s H c cl fp => stt_nil) (fun s H c cl fp => se_bin op_fdivW ops_div (se_bin op_mulA ops_mul (se_v 0 (pv 0)) (se_v 7 (pv 7))) (se_v 2 (pv 2)))) (ss_cons (ss_asg (se_sortedG (k := 0) (own := [6, 7]) (sl := ([6] ++ ([7] ++ []))) rfl (Room.mono hr (by decide)) rfl Fx.b_sorted bb_sorted GT rfl ⟨rfl, gxOk_by (by kernel_rfl), si_enum rfl rfl Fx.b_enumerate (se_v 1 (pv 1)), (by decide), fun s H A' cl L code fp pn hr' => sg_tup rfl rfl (sgs_cons (fun _ _ _ _ _ h => h) (sg_name (pg_name nd rfl (Or.inl rfl))) (sgs_cons (fun _ _ _ _ _ h => h) (sg_name (pg_name nd rfl (Or.inl rfl))) sgs_nil)), fun s H A' cl L code fp pn hr' => stt_nil, fun s H A' cl L code fp pn hr' => se_tup (sa_cons (se_bin op_sub ops_sub (se_int) (se_bin op_mod ops_mod (se_bin op_mulA ops_mul (se_v 0 (pv 0)) (se_v 7 (pv 7))) (se_v 2 (pv 2)))) (sa_cons (se_v 6 (pv 6)) (sa_nil))), fun _ => rfl⟩) (sg_name (pg_name nd rfl (Or.inl rfl)))) (ss_cons (ss_for passes_d rfl (si_seq rfl (se_sl rfl (se_v 4 (pv 4)) so_no (so_some (se_bin op_sub ops_sub (se_v 0 (pv 0)) (se_blt (cr_sumA rfl) blt_sum rfl Fx.b_sum bb_sum (sa_cons (se_v 3 (pv 3)) (sa_nil))))))) (sg_tup rfl rfl (sgs_cons blind_WD (sg_name (pg_name nd rfl (Or.inl rfl))) (sgs_cons blind_WD (sg_name (pg_name nd rfl (Or.inl rfl))) sgs_nil))) (ss_one (ss_augS (se_v 3 (pv 3)) (se_v 6 (pv 6)) (se_int) ip_add ops_addI rfl))) (ss_one (ss_ret (se_bty call_tuple_of blt_tupleOf rfl Fx.b_tuple bb_tuple (sa_cons (se_v 3 (pv 3)) (sa_nil)))))))))
theorem fs_split (Fx : Facts C mg base) : FS C P w mg base "split" 7 2 f_split := by
  obtain ⟨fd, F⟩ := Fx.d_split.d
  exact fs_P Fx.d_split.g F (F.bindsN fun _ _ _ _ _ _ us hl => match us, hl with | [_, _], _ => rfl) sc_split rfl rfl (b_split Fx)
abbrev m__law_dice : MS := sCons (sIf (tB (mChain oLt oLt (mBin oSub (mC (.int 0)) (mC (.int 10))) (mVar 0) (mC (.int 10)))) (sRet (mLstM (aCons (mCall fAbs (aCons (mVar 0) (aNil))) (aCons (mC (.int 0)) (aCons (mC (.int 2)) (aNil)))))) (sNil)) (sRet (mLstM (aCons (mVar 0) (aCons (mBin oAdd (mC (.int 1)) (mBin oMod (mCall fInt (aCons (mVar 0) (aNil))) (mC (.int 1009)))) (aCons (mCall fInt (aCons (mBin oGe (mVar 0) (mBin oPow (mC (.int 10)) (mC (.int 18)))) (aNil))) (aNil))))))
def f__law_dice : FnS := fnS 1 1 m__law_dice
theorem b__law_dice (Fx : Facts C mg base) : Body C P w mg base N__law_dice "_law_dice" (defScope s__law_dice) (He.ga C.K "_law_dice") 0 (defBody s__law_dice) m__law_dice := fun cdv hc A outer s H E hr => by
  have nd : N__law_dice.Nodup := sc__law_dice.nd
  exact ss_cons (ss_if (st_chain op_lt op_lt ops_lt ops_lt mono_I0 (se_bin op_sub ops_sub (se_int) (se_int)) (se_v 0 (pv 0)) (se_int) rfl) (ss_one (ss_ret (se_lstM (sa_cons (se_blt call_abs blt_abs rfl Fx.b_abs bb_abs (sa_cons (se_v 0 (pv 0)) (sa_nil))) (sa_cons (se_int) (sa_cons (se_int) (sa_nil))))))) (ss_nil)) (ss_one (ss_ret (se_lstM (sa_cons (se_v 0 (pv 0)) (sa_cons (se_bin op_addA ops_add (se_int) (se_bin op_mod ops_mod (se_bty call_int1 blt_int rfl Fx.b_int bb_int (sa_cons (se_v 0 (pv 0)) (sa_nil))) (se_int))) (sa_cons (se_bty call_int1 blt_int rfl Fx.b_int bb_int (sa_cons (se_cmp op_ge ops_ge (se_v 0 (pv 0)) (se_bin op_pow ops_pow (se_int) (se_int)) (nomark _)) (sa_nil))) (sa_nil)))))))
theorem fs__law_dice (Fx : Facts C mg base) : FS C P w mg base "_law_dice" 1 1 f__law_dice := by
  obtain ⟨fd, F⟩ := Fx.d__law_dice.d
  exact fs_S Fx.d__law_dice.g F (F.bindsN fun _ _ _ _ _ _ us hl => match us, hl with | [_], _ => rfl) sc__law_dice rfl rfl (b__law_dice Fx)
abbrev m__law_roll (rec : FnS) : MS := sCons (sIf (tOr (tB (mBin oEq (mBin oIx (mVar 0) (mC (.int 2))) (mC (.int 2)))) (tAnd (tB (mBin oEq (mBin oIx (mVar 0) (mC (.int 2))) (mC (.int 1)))) (tB (mBin oGt (mBin oIx (mVar 0) (mC (.int 0))) (mC (.int 0)))))) (sCons (sAsg (mBin oMod (mCall fInt (aCons (mBin oIx (mVar 0) (mC (.int 0))) (aNil))) (mVar 1)) (gName 2)) (sCons (sAsg (mBin oDiv (mBin oIx (mVar 0) (mC (.int 0))) (mVar 1)) (gSub (mVar 0) (mC (.int 0)))) (sRet (mVar 2)))) (sNil)) (sCons (sAsg (mC (.int 0)) (gSub (mVar 0) (mC (.int 2)))) (sCons (sIf (tB (mBin oGt (mVar 1) (mC (.int 100000000)))) (sRet (mBin oMod (mCall fInt (aCons (mBin oAdd (mBin oMul (mCall rec (aCons (mVar 0) (aCons (mBin oAdd (mBin oDiv (mVar 1) (mC (.int 100000000))) (mC (.int 1))) (aNil)))) (mC (.int 100000000))) (mCall rec (aCons (mVar 0) (aCons (mC (.int 100000000)) (aNil))))) (aNil))) (mVar 1))) (sNil)) (sCons (sAsg (mBin oMod (mCall fInt (aCons (mBin oAdd (mBin oAdd (mBin oMul (mBin oIx (mVar 0) (mC (.int 0))) (mC (.int 48271))) (mBin oMul (mBin oIx (mVar 0) (mC (.int 1))) (mC (.int 69621)))) (mC (.int 11))) (aNil))) (mC (.int 2147483647))) (gSub (mVar 0) (mC (.int 0)))) (sCons (sAsg (mBin oAdd (mBin oIx (mVar 0) (mC (.int 1))) (mC (.int 1))) (gSub (mVar 0) (mC (.int 1)))) (sRet (mBin oMod (mCall fInt (aCons (mBin oDiv (mBin oIx (mVar 0) (mC (.int 0))) (mC (.int 7))) (aNil))) (mVar 1)))))))
def f__law_roll : Nat → FnS
  | 0 => fun _ _ => .fail
  | n + 1 => fnS 3 2 (m__law_roll (f__law_roll n))
theorem b__law_roll (Fx : Facts C mg base) {k : Nat} {rec : FnS} (F : FS C P w mg base "_law_roll" k 2 rec) : Body C P w mg base N__law_roll "_law_roll" (defScope s__law_roll) (He.ga C.K "_law_roll") k (defBody s__law_roll) (m__law_roll rec) := fun cdv hc A outer s H E hr => by
  have nd : N__law_roll.Nodup := sc__law_roll.nd
  exact ss_cons (ss_if (PW.pt (sw_or (st_cmp (op_eqD (Room.u64 hr)) ops_eq (se_ix (se_v 0 (pv 0)) (se_int) rfl (fun _ _ => rfl)) (se_int) (nomark _)) (sw_or1 (PW.pt (sw_and (st_cmp (op_eqD (Room.u64 hr)) ops_eq (se_ix (se_v 0 (pv 0)) (se_int) rfl (fun _ _ => rfl)) (se_int) (nomark _)) (sw_and1 (st_cmp op_gt ops_gt (se_ix (se_v 0 (pv 0)) (se_int) rfl (fun _ _ => rfl)) (se_int) (nomark _)))))))) (ss_cons (ss_asg (se_bin op_mod ops_mod (se_bty call_int1 blt_int rfl Fx.b_int bb_int (sa_cons (se_ix (se_v 0 (pv 0)) (se_int) rfl (fun _ _ => rfl)) (sa_nil))) (se_v 1 (pv 1))) (sg_name (pg_name nd rfl (Or.inl rfl)))) (ss_cons (ss_asg (se_bin op_fdivW ops_div (se_ix (se_v 0 (pv 0)) (se_int) rfl (fun _ _ => rfl)) (se_v 1 (pv 1))) (sg_sub (se_v 0 (pv 0)) (se_int))) (ss_one (ss_ret (se_v 2 (pv 2)))))) (ss_nil)) (ss_cons (ss_asg (se_int) (sg_sub (se_v 0 (pv 0)) (se_int))) (ss_cons (ss_if (st_cmp op_gt ops_gt (se_v 1 (pv 1)) (se_int) (nomark _)) (ss_one (ss_ret (se_bin op_mod ops_mod (se_bty call_int1 blt_int rfl Fx.b_int bb_int (sa_cons (se_bin op_addA ops_add (se_bin op_mulA ops_mul (se_call F rfl hr takes_d rfl (sa_cons (se_v 0 (pv 0)) (sa_cons (se_bin op_addA ops_add (se_bin op_fdivW ops_div (se_v 1 (pv 1)) (se_int)) (se_int)) (sa_nil)))) (se_int)) (se_call F rfl hr takes_d rfl (sa_cons (se_v 0 (pv 0)) (sa_cons (se_int) (sa_nil))))) (sa_nil))) (se_v 1 (pv 1))))) (ss_nil)) (ss_cons (ss_asg (se_bin op_mod ops_mod (se_bty call_int1 blt_int rfl Fx.b_int bb_int (sa_cons (se_bin op_addA ops_add (se_bin op_addA ops_add (se_bin op_mulA ops_mul (se_ix (se_v 0 (pv 0)) (se_int) rfl (fun _ _ => rfl)) (se_int)) (se_bin op_mulA ops_mul (se_ix (se_v 0 (pv 0)) (se_int) rfl (fun _ _ => rfl)) (se_int))) (se_int)) (sa_nil))) (se_int)) (sg_sub (se_v 0 (pv 0)) (se_int))) (ss_cons (ss_asg (se_bin op_addA ops_add (se_ix (se_v 0 (pv 0)) (se_int) rfl (fun _ _ => rfl)) (se_int)) (sg_sub (se_v 0 (pv 0)) (se_int))) (ss_one (ss_ret (se_bin op_mod ops_mod (se_bty call_int1 blt_int rfl Fx.b_int bb_int (sa_cons (se_bin op_fdivW ops_div (se_ix (se_v 0 (pv 0)) (se_int) rfl (fun _ _ => rfl)) (se_int)) (sa_nil))) (se_v 1 (pv 1)))))))))
theorem fs__law_roll (Fx : Facts C mg base) : ∀ n, FS C P w mg base "_law_roll" n 2 (f__law_roll n)
  | 0 => by
    obtain ⟨fd, F⟩ := Fx.d__law_roll.d
    exact fs_0 (ps := ["dice", "many"]) Fx.d__law_roll.g F (F.bindsN fun _ _ _ _ _ _ us hl => match us, hl with | [_, _], _ => rfl) rfl
  | n + 1 => by
    obtain ⟨fd, F⟩ := Fx.d__law_roll.d
    exact fs_S Fx.d__law_roll.g F (F.bindsN fun _ _ _ _ _ _ us hl => match us, hl with | [_, _], _ => rfl) sc__law_roll rfl rfl (b__law_roll Fx (fs__law_roll Fx n))
abbrev m__law_rounds : MS := sCons (sAsg (mSl (mVar 0) oNo (oSome (mVar 1))) (gName 2)) (sCons (sIf (tB (mBin oEq (mVar 2) (mLst (aNil)))) (sAsg (mLst (aCons (mC (.int 0)) (aNil))) (gName 2)) (sNil)) (sRet (mLc (iSeq (mVar 2)) [3] (gName 3) (tYes) (mCall f__law_dice (aCons (mVar 3) (aNil))))))
def f__law_rounds : FnS := fnS 4 2 m__law_rounds
theorem b__law_rounds (Fx : Facts C mg base) : Body C P w mg base N__law_rounds "_law_rounds" (defScope s__law_rounds) (He.ga C.K "_law_rounds") 1 (defBody s__law_rounds) m__law_rounds := fun cdv hc A outer s H E hr => by
  have nd : N__law_rounds.Nodup := sc__law_rounds.nd
  exact ss_cons (ss_asg (se_sl rfl (se_v 0 (pv 0)) so_no (so_some (se_v 1 (pv 1)))) (sg_name (pg_name nd rfl (Or.inl rfl)))) (ss_cons (ss_if (st_cmp (op_eqD (Room.u64 hr)) ops_eq (se_v 2 (pv 2)) (se_lst (sa_nil)) (nomark _)) (ss_one (ss_asg (se_lst (sa_cons (se_int) (sa_nil))) (sg_name (pg_name nd rfl (Or.inl rfl))))) (ss_nil)) (ss_one (ss_ret (se_lc (own := [("cell", 3)]) (sl := [3]) rfl nd (by decide) (si_seq rfl (se_v 2 (pv 2))) (blkOk_by (by kernel_rfl)) (fun s H c cl fp => sg_name (pg_name nd rfl (Or.inl rfl))) (fun s H c cl fp => stt_nil) (fun s H c cl fp => se_call (fs__law_dice Fx) rfl (Room.mono hr (by decide)) LamX.takes0 rfl (sa_cons (se_v 3 (pv 3)) (sa_nil)))))))
theorem fs__law_rounds (Fx : Facts C mg base) : FS C P w mg base "_law_rounds" 2 2 f__law_rounds := by
  obtain ⟨fd, F⟩ := Fx.d__law_rounds.d
  exact fs_S Fx.d__law_rounds.g F (F.bindsN fun _ _ _ _ _ _ us hl => match us, hl with | [_, _], _ => rfl) sc__law_rounds rfl rfl (b__law_rounds Fx)
def cm : Nat → Sto → R D
  | 0, st => (mCall f_split (aCons (mUn oNeg (mC (.int 1))) (aCons (mTup (aCons (mC (.int 1)) (aNil))) (aNil)))) [] st
  | 1, st => (mCall f_split (aCons (mC (.int 1)) (aCons (mTup (aCons (mC (.int 0)) (aCons (mC (.int 0)) (aNil)))) (aNil)))) [] st
  | 2, st => (mCall f_split (aCons (mC (.int 1)) (aCons (mTup (aNil)) (aNil)))) [] st
  | 3, st => (mCall f_parted (aCons (mTup (aCons (mC (.int 1)) (aCons (mC (.int 2)) (aNil)))) (aCons (mTup (aCons (mC (.int 0)) (aCons (mC (.int 1)) (aNil)))) (aNil)))) [] st
  | 4, st => (mCall f_share (aCons (mC (.int 1)) (aCons (mC (.int 0)) (aNil)))) [] st
  | 5, st => (mCall f_split (aCons (mC (.int 1)) (aCons (mTup (aCons (mC (.int 2)) (aCons (mUn oNeg (mC (.int 1))) (aNil)))) (aNil)))) [] st
  | _, _ => .fail
theorem clo_all (Fx : Facts C mg base) : ∀ (i : Nat) (c : Clo), C.L[i]? = some c → CloS c ∧ ∀ (A : Around) (outer : List Env) (s : Shared) (H : Hp) (E : XK) (f c' : Addr), Room 7 (A.deeper (cloEnv c s.heap.objs.size f c')) → SE C (cloCx C P w mg base A outer s H E c f c') (WD E) c.body (fun _ st => cm i st) := by
  intro i c h
  rw [Fx.L] at h
  rcases i with _ | _ | _ | _ | _ | _ | i
  · cases h
    refine ⟨cloS_0, fun A outer s H E f c' hr => ?_⟩
    have q : SE C (cloCx C P w mg base A outer s H E cl_0 f c') (WD E) cl_0.body (mCall f_split (aCons (mUn oNeg (mC (.int 1))) (aCons (mTup (aCons (mC (.int 1)) (aNil))) (aNil)))) := se_call (fs_split Fx) rfl (Room.mono hr (by decide)) takes_clo rfl (sa_cons (se_un un_neg uns_neg (se_int)) (sa_cons (se_tup (sa_cons (se_int) (sa_nil))) (sa_nil)))
    exact q
  · cases h
    refine ⟨cloS_1, fun A outer s H E f c' hr => ?_⟩
    have q : SE C (cloCx C P w mg base A outer s H E cl_1 f c') (WD E) cl_1.body (mCall f_split (aCons (mC (.int 1)) (aCons (mTup (aCons (mC (.int 0)) (aCons (mC (.int 0)) (aNil)))) (aNil)))) := se_call (fs_split Fx) rfl (Room.mono hr (by decide)) takes_clo rfl (sa_cons (se_int) (sa_cons (se_tup (sa_cons (se_int) (sa_cons (se_int) (sa_nil)))) (sa_nil)))
    exact q
  · cases h
    refine ⟨cloS_2, fun A outer s H E f c' hr => ?_⟩
    have q : SE C (cloCx C P w mg base A outer s H E cl_2 f c') (WD E) cl_2.body (mCall f_split (aCons (mC (.int 1)) (aCons (mTup (aNil)) (aNil)))) := se_call (fs_split Fx) rfl (Room.mono hr (by decide)) takes_clo rfl (sa_cons (se_int) (sa_cons (se_tup (sa_nil)) (sa_nil)))
    exact q
  · cases h
    refine ⟨cloS_3, fun A outer s H E f c' hr => ?_⟩
    have q : SE C (cloCx C P w mg base A outer s H E cl_3 f c') (WD E) cl_3.body (mCall f_parted (aCons (mTup (aCons (mC (.int 1)) (aCons (mC (.int 2)) (aNil)))) (aCons (mTup (aCons (mC (.int 0)) (aCons (mC (.int 1)) (aNil)))) (aNil)))) := se_call (fs_parted Fx) rfl (Room.mono hr (by decide)) takes_clo rfl (sa_cons (se_tup (sa_cons (se_int) (sa_cons (se_int) (sa_nil)))) (sa_cons (se_tup (sa_cons (se_int) (sa_cons (se_int) (sa_nil)))) (sa_nil)))
    exact q
  · cases h
    refine ⟨cloS_4, fun A outer s H E f c' hr => ?_⟩
    have q : SE C (cloCx C P w mg base A outer s H E cl_4 f c') (WD E) cl_4.body (mCall f_share (aCons (mC (.int 1)) (aCons (mC (.int 0)) (aNil)))) := se_call (fs_share Fx) rfl (Room.mono hr (by decide)) takes_clo rfl (sa_cons (se_int) (sa_cons (se_int) (sa_nil)))
    exact q
  · cases h
    refine ⟨cloS_5, fun A outer s H E f c' hr => ?_⟩
    have q : SE C (cloCx C P w mg base A outer s H E cl_5 f c') (WD E) cl_5.body (mCall f_split (aCons (mC (.int 1)) (aCons (mTup (aCons (mC (.int 2)) (aCons (mUn oNeg (mC (.int 1))) (aNil)))) (aNil)))) := se_call (fs_split Fx) rfl (Room.mono hr (by decide)) takes_clo rfl (sa_cons (se_int) (sa_cons (se_tup (sa_cons (se_int) (sa_cons (se_un un_neg uns_neg (se_int)) (sa_nil)))) (sa_nil)))
    exact q
  · simp [clos] at h
theorem fs__law_told (Fx : Facts C mg base) : FS C P w mg base "_law_told" 9 1 (fTold caught "ShareError" cm) :=
  fs_told Fx.d__law_told.g (told_d Fx).choose_spec.1 (told_d Fx).choose_spec.2 sc__law_told rfl rfl Fx.x_ShareError.g rfl (.inl rfl) rfl rfl Fx.ex (clo_all Fx)
abbrev m__law_gcd (rec : FnS) : MS := sRet (mIf (tB (mBin oEq (mVar 1) (mC (.int 0)))) (mVar 0) (mCall rec (aCons (mVar 1) (aCons (mBin oMod (mVar 0) (mVar 1)) (aNil)))))
def f__law_gcd : Nat → FnS
  | 0 => fun _ _ => .fail
  | n + 1 => fnP 2 2 (m__law_gcd (f__law_gcd n))
theorem b__law_gcd (Fx : Facts C mg base) {k : Nat} {rec : FnS} (F : FS C P w mg base "_law_gcd" k 2 rec) : Body C P w mg base N__law_gcd "_law_gcd" (defScope s__law_gcd) (He.ga C.K "_law_gcd") k (defBody s__law_gcd) (m__law_gcd rec) := fun cdv hc A outer s H E hr => by
  have nd : N__law_gcd.Nodup := sc__law_gcd.nd
  exact ss_one (ss_ret (se_if (st_cmp (op_eqD (Room.u64 hr)) ops_eq (se_v 1 (pv 1)) (se_int) (nomark _)) (se_v 0 (pv 0)) (se_call F rfl hr takes_d rfl (sa_cons (se_v 1 (pv 1)) (sa_cons (se_bin op_mod ops_mod (se_v 0 (pv 0)) (se_v 1 (pv 1))) (sa_nil))))))
theorem fs__law_gcd (Fx : Facts C mg base) : ∀ n, FS C P w mg base "_law_gcd" n 2 (f__law_gcd n)
  | 0 => by
    obtain ⟨fd, F⟩ := Fx.d__law_gcd.d
    exact fs_0 (ps := ["one", "other"]) Fx.d__law_gcd.g F (F.bindsN fun _ _ _ _ _ _ us hl => match us, hl with | [_, _], _ => rfl) rfl
  | n + 1 => by
    obtain ⟨fd, F⟩ := Fx.d__law_gcd.d
    exact fs_P Fx.d__law_gcd.g F (F.bindsN fun _ _ _ _ _ _ us hl => match us, hl with | [_, _], _ => rfl) sc__law_gcd rfl rfl (b__law_gcd Fx (fs__law_gcd Fx n))
abbrev m__law_share : MS := sCons (sAsg (mIf (tB (mBin oLt (mVar 1) (mC (.int 0)))) (mUn oNeg (mC (.int 1))) (mC (.int 1))) (gName 2)) (sCons (sAsg (mCall (f__law_gcd 40) (aCons (mCall fAbs (aCons (mVar 0) (aNil))) (aCons (mCall fAbs (aCons (mVar 1) (aNil))) (aNil)))) (gName 3)) (sRet (mTup (aCons (mBin oDiv (mBin oMul (mVar 2) (mVar 0)) (mVar 3)) (aCons (mBin oDiv (mBin oMul (mVar 2) (mVar 1)) (mVar 3)) (aNil))))))
def f__law_share : FnS := fnP 4 2 m__law_share
theorem b__law_share (Fx : Facts C mg base) : Body C P w mg base N__law_share "_law_share" (defScope s__law_share) (He.ga C.K "_law_share") 40 (defBody s__law_share) m__law_share := fun cdv hc A outer s H E hr => by
  have nd : N__law_share.Nodup := sc__law_share.nd
  exact ss_cons (ss_asg (se_if (st_cmp op_lt ops_lt (se_v 1 (pv 1)) (se_int) (nomark _)) (se_un un_neg uns_neg (se_int)) (se_int)) (sg_name (pg_name nd rfl (Or.inl rfl)))) (ss_cons (ss_asg (se_call (fs__law_gcd Fx 40) rfl (Room.mono hr (by decide)) takes_d rfl (sa_cons (se_blt call_abs blt_abs rfl Fx.b_abs bb_abs (sa_cons (se_v 0 (pv 0)) (sa_nil))) (sa_cons (se_blt call_abs blt_abs rfl Fx.b_abs bb_abs (sa_cons (se_v 1 (pv 1)) (sa_nil))) (sa_nil)))) (sg_name (pg_name nd rfl (Or.inl rfl)))) (ss_one (ss_ret (se_tup (sa_cons (se_bin op_fdivW ops_div (se_bin op_mulA ops_mul (se_v 2 (pv 2)) (se_v 0 (pv 0))) (se_v 3 (pv 3))) (sa_cons (se_bin op_fdivW ops_div (se_bin op_mulA ops_mul (se_v 2 (pv 2)) (se_v 1 (pv 1))) (se_v 3 (pv 3))) (sa_nil)))))))
theorem fs__law_share (Fx : Facts C mg base) : FS C P w mg base "_law_share" 41 2 f__law_share := by
  obtain ⟨fd, F⟩ := Fx.d__law_share.d
  exact fs_P Fx.d__law_share.g F (F.bindsN fun _ _ _ _ _ _ us hl => match us, hl with | [_, _], _ => rfl) sc__law_share rfl rfl (b__law_share Fx)
abbrev m__law_add : MS := sRet (mCall f__law_share (aCons (mBin oAdd (mBin oMul (mBin oIx (mVar 0) (mC (.int 0))) (mBin oIx (mVar 1) (mC (.int 1)))) (mBin oMul (mBin oIx (mVar 1) (mC (.int 0))) (mBin oIx (mVar 0) (mC (.int 1))))) (aCons (mBin oMul (mBin oIx (mVar 0) (mC (.int 1))) (mBin oIx (mVar 1) (mC (.int 1)))) (aNil))))
def f__law_add : FnS := fnP 2 2 m__law_add
theorem b__law_add (Fx : Facts C mg base) : Body C P w mg base N__law_add "_law_add" (defScope s__law_add) (He.ga C.K "_law_add") 41 (defBody s__law_add) m__law_add := fun cdv hc A outer s H E hr => by
  have nd : N__law_add.Nodup := sc__law_add.nd
  exact ss_one (ss_ret (se_call (fs__law_share Fx) rfl (Room.mono hr (by decide)) takes_d rfl (sa_cons (se_bin op_addA ops_add (se_bin op_mulA ops_mul (se_ix (se_v 0 (pv 0)) (se_int) rfl (fun _ _ => rfl)) (se_ix (se_v 1 (pv 1)) (se_int) rfl (fun _ _ => rfl))) (se_bin op_mulA ops_mul (se_ix (se_v 1 (pv 1)) (se_int) rfl (fun _ _ => rfl)) (se_ix (se_v 0 (pv 0)) (se_int) rfl (fun _ _ => rfl)))) (sa_cons (se_bin op_mulA ops_mul (se_ix (se_v 0 (pv 0)) (se_int) rfl (fun _ _ => rfl)) (se_ix (se_v 1 (pv 1)) (se_int) rfl (fun _ _ => rfl))) (sa_nil)))))
theorem fs__law_add (Fx : Facts C mg base) : FS C P w mg base "_law_add" 42 2 f__law_add := by
  obtain ⟨fd, F⟩ := Fx.d__law_add.d
  exact fs_P Fx.d__law_add.g F (F.bindsN fun _ _ _ _ _ _ us hl => match us, hl with | [_, _], _ => rfl) sc__law_add rfl rfl (b__law_add Fx)
abbrev m__law_mul : MS := sRet (mCall f__law_share (aCons (mBin oMul (mBin oIx (mVar 0) (mC (.int 0))) (mBin oIx (mVar 1) (mC (.int 0)))) (aCons (mBin oMul (mBin oIx (mVar 0) (mC (.int 1))) (mBin oIx (mVar 1) (mC (.int 1)))) (aNil))))
def f__law_mul : FnS := fnP 2 2 m__law_mul
theorem b__law_mul (Fx : Facts C mg base) : Body C P w mg base N__law_mul "_law_mul" (defScope s__law_mul) (He.ga C.K "_law_mul") 41 (defBody s__law_mul) m__law_mul := fun cdv hc A outer s H E hr => by
  have nd : N__law_mul.Nodup := sc__law_mul.nd
  exact ss_one (ss_ret (se_call (fs__law_share Fx) rfl (Room.mono hr (by decide)) takes_d rfl (sa_cons (se_bin op_mulA ops_mul (se_ix (se_v 0 (pv 0)) (se_int) rfl (fun _ _ => rfl)) (se_ix (se_v 1 (pv 1)) (se_int) rfl (fun _ _ => rfl))) (sa_cons (se_bin op_mulA ops_mul (se_ix (se_v 0 (pv 0)) (se_int) rfl (fun _ _ => rfl)) (se_ix (se_v 1 (pv 1)) (se_int) rfl (fun _ _ => rfl))) (sa_nil)))))
theorem fs__law_mul (Fx : Facts C mg base) : FS C P w mg base "_law_mul" 42 2 f__law_mul := by
  obtain ⟨fd, F⟩ := Fx.d__law_mul.d
  exact fs_P Fx.d__law_mul.g F (F.bindsN fun _ _ _ _ _ _ us hl => match us, hl with | [_, _], _ => rfl) sc__law_mul rfl rfl (b__law_mul Fx)
abbrev m__law_less : MS := sRet (mBin oLt (mBin oMul (mBin oIx (mVar 0) (mC (.int 0))) (mBin oIx (mVar 1) (mC (.int 1)))) (mBin oMul (mBin oIx (mVar 1) (mC (.int 0))) (mBin oIx (mVar 0) (mC (.int 1)))))
def f__law_less : FnS := fnP 2 2 m__law_less
theorem b__law_less (Fx : Facts C mg base) : Body C P w mg base N__law_less "_law_less" (defScope s__law_less) (He.ga C.K "_law_less") 0 (defBody s__law_less) m__law_less := fun cdv hc A outer s H E hr => by
  have nd : N__law_less.Nodup := sc__law_less.nd
  exact ss_one (ss_ret (se_cmp op_lt ops_lt (se_bin op_mulA ops_mul (se_ix (se_v 0 (pv 0)) (se_int) rfl (fun _ _ => rfl)) (se_ix (se_v 1 (pv 1)) (se_int) rfl (fun _ _ => rfl))) (se_bin op_mulA ops_mul (se_ix (se_v 1 (pv 1)) (se_int) rfl (fun _ _ => rfl)) (se_ix (se_v 0 (pv 0)) (se_int) rfl (fun _ _ => rfl))) (nomark _)))
theorem fs__law_less (Fx : Facts C mg base) : FS C P w mg base "_law_less" 1 2 f__law_less := by
  obtain ⟨fd, F⟩ := Fx.d__law_less.d
  exact fs_P Fx.d__law_less.g F (F.bindsN fun _ _ _ _ _ _ us hl => match us, hl with | [_, _], _ => rfl) sc__law_less rfl rfl (b__law_less Fx)
abbrev m__law_one : MS := sRet (mCall f__law_share (aCons (mBin oSub (mCall (f__law_roll 2) (aCons (mVar 0) (aCons (mC (.int 41)) (aNil)))) (mC (.int 20))) (aCons (mBin oAdd (mC (.int 1)) (mCall (f__law_roll 2) (aCons (mVar 0) (aCons (mC (.int 12)) (aNil))))) (aNil))))
def f__law_one : FnS := fnS 1 1 m__law_one
theorem b__law_one (Fx : Facts C mg base) : Body C P w mg base N__law_one "_law_one" (defScope s__law_one) (He.ga C.K "_law_one") 41 (defBody s__law_one) m__law_one := fun cdv hc A outer s H E hr => by
  have nd : N__law_one.Nodup := sc__law_one.nd
  exact ss_one (ss_ret (se_call (fs__law_share Fx) rfl (Room.mono hr (by decide)) takes_d rfl (sa_cons (se_bin op_sub ops_sub (se_call (fs__law_roll Fx 2) rfl (Room.mono hr (by decide)) takes_d rfl (sa_cons (se_v 0 (pv 0)) (sa_cons (se_int) (sa_nil)))) (se_int)) (sa_cons (se_bin op_addA ops_add (se_int) (se_call (fs__law_roll Fx 2) rfl (Room.mono hr (by decide)) takes_d rfl (sa_cons (se_v 0 (pv 0)) (sa_cons (se_int) (sa_nil))))) (sa_nil)))))
theorem fs__law_one (Fx : Facts C mg base) : FS C P w mg base "_law_one" 42 1 f__law_one := by
  obtain ⟨fd, F⟩ := Fx.d__law_one.d
  exact fs_S Fx.d__law_one.g F (F.bindsN fun _ _ _ _ _ _ us hl => match us, hl with | [_], _ => rfl) sc__law_one rfl rfl (b__law_one Fx)
abbrev m__law_plain : MS := sCons (sAsg (mLst (aCons (mCall f_share (aCons (mC (.int 4)) (aCons (mUn oNeg (mC (.int 6))) (aNil)))) (aCons (mCall f_share (aCons (mC (.int 0)) (aCons (mC (.int 5)) (aNil)))) (aCons (mCall f_whole (aCons (mC (.int 3)) (aNil))) (aCons (mCall f_plus (aCons (mTup (aCons (mC (.int 1)) (aCons (mC (.int 2)) (aNil)))) (aCons (mTup (aCons (mC (.int 1)) (aCons (mC (.int 3)) (aNil)))) (aNil)))) (aCons (mCall f_minus (aCons (mTup (aCons (mC (.int 1)) (aCons (mC (.int 2)) (aNil)))) (aCons (mTup (aCons (mC (.int 1)) (aCons (mC (.int 3)) (aNil)))) (aNil)))) (aCons (mCall f_times (aCons (mTup (aCons (mC (.int 2)) (aCons (mC (.int 3)) (aNil)))) (aCons (mTup (aCons (mC (.int 3)) (aCons (mC (.int 4)) (aNil)))) (aNil)))) (aCons (mCall f_parted (aCons (mTup (aCons (mC (.int 1)) (aCons (mC (.int 2)) (aNil)))) (aCons (mTup (aCons (mUn oNeg (mC (.int 1))) (aCons (mC (.int 4)) (aNil)))) (aNil)))) (aNil))))))))) (gName 0)) (sCons (sAsg (mBin oAdd (mVar 0) (mLst (aCons (mCall f_is_less (aCons (mTup (aCons (mC (.int 1)) (aCons (mC (.int 3)) (aNil)))) (aCons (mTup (aCons (mC (.int 1)) (aCons (mC (.int 2)) (aNil)))) (aNil)))) (aCons (mCall f_is_less (aCons (mTup (aCons (mC (.int 1)) (aCons (mC (.int 2)) (aNil)))) (aCons (mTup (aCons (mC (.int 1)) (aCons (mC (.int 2)) (aNil)))) (aNil)))) (aCons (mCall f_below (aCons (mTup (aCons (mUn oNeg (mC (.int 7))) (aCons (mC (.int 2)) (aNil)))) (aNil))) (aCons (mCall f_above (aCons (mTup (aCons (mUn oNeg (mC (.int 7))) (aCons (mC (.int 2)) (aNil)))) (aNil))) (aCons (mCall f_above (aCons (mTup (aCons (mC (.int 6)) (aCons (mC (.int 1)) (aNil)))) (aNil))) (aCons (mCall f_nearest (aCons (mTup (aCons (mC (.int 1)) (aCons (mC (.int 2)) (aNil)))) (aNil))) (aCons (mCall f_nearest (aCons (mTup (aCons (mUn oNeg (mC (.int 1))) (aCons (mC (.int 2)) (aNil)))) (aNil))) (aCons (mCall f_sum_of (aCons (mTup (aNil)) (aNil))) (aNil))))))))))) (gName 0)) (sCons (sAsg (mBin oAdd (mVar 0) (mLst (aCons (mCall f_sum_of (aCons (mTup (aCons (mTup (aCons (mC (.int 1)) (aCons (mC (.int 2)) (aNil)))) (aCons (mTup (aCons (mC (.int 1)) (aCons (mC (.int 3)) (aNil)))) (aNil)))) (aNil))) (aCons (mCall f_told_share (aCons (mTup (aCons (mC (.int 1)) (aCons (mC (.int 2)) (aNil)))) (aNil))) (aCons (mCall f_told_share (aCons (mTup (aCons (mC (.int 3)) (aCons (mC (.int 1)) (aNil)))) (aNil))) (aCons (mCall f_split (aCons (mC (.int 10)) (aCons (mTup (aCons (mC (.int 1)) (aCons (mC (.int 1)) (aCons (mC (.int 1)) (aNil))))) (aNil)))) (aCons (mCall f_split (aCons (mC (.int 7)) (aCons (mTup (aCons (mC (.int 0)) (aCons (mC (.int 3)) (aCons (mC (.int 2)) (aNil))))) (aNil)))) (aCons (mCall f_split (aCons (mC (.int 0)) (aCons (mTup (aCons (mC (.int 1)) (aNil))) (aNil)))) (aNil))))))))) (gName 0)) (sCons (sAsg (mLst (aCons (mC (.clo 4)) (aCons (mC (.clo 3)) (aCons (mC (.clo 2)) (aCons (mC (.clo 1)) (aCons (mC (.clo 0)) (aNil))))))) (gName 1)) (sCons (sAsg (mBin oAdd (mVar 1) (mLst (aCons (mC (.clo 5)) (aNil)))) (gName 1)) (sCons (sIf (tB (mBin oNe (mLc (iEnum (mVar 1)) [2, 3] (gTup [gName 2, gName 3]) (tB (mBin oNe (mCall (fTold caught "ShareError" cm) (aCons (mVar 3) (aNil))) (mC (.str "ShareError")))) (mVar 2)) (mLst (aNil)))) (sRet (mC (.bl false))) (sNil)) (sRet (mBin oEq (mVar 0) (mLst (aCons (mTup (aCons (mUn oNeg (mC (.int 2))) (aCons (mC (.int 3)) (aNil)))) (aCons (mTup (aCons (mC (.int 0)) (aCons (mC (.int 1)) (aNil)))) (aCons (mTup (aCons (mC (.int 3)) (aCons (mC (.int 1)) (aNil)))) (aCons (mTup (aCons (mC (.int 5)) (aCons (mC (.int 6)) (aNil)))) (aCons (mTup (aCons (mC (.int 1)) (aCons (mC (.int 6)) (aNil)))) (aCons (mTup (aCons (mC (.int 1)) (aCons (mC (.int 2)) (aNil)))) (aCons (mTup (aCons (mUn oNeg (mC (.int 2))) (aCons (mC (.int 1)) (aNil)))) (aCons (mC (.bl true)) (aCons (mC (.bl false)) (aCons (mUn oNeg (mC (.int 4))) (aCons (mUn oNeg (mC (.int 3))) (aCons (mC (.int 6)) (aCons (mC (.int 1)) (aCons (mC (.int 0)) (aCons (mTup (aCons (mC (.int 0)) (aCons (mC (.int 1)) (aNil)))) (aCons (mTup (aCons (mC (.int 5)) (aCons (mC (.int 6)) (aNil)))) (aCons (mC (.str "1:2")) (aCons (mC (.str "3")) (aCons (mTup (aCons (mC (.int 4)) (aCons (mC (.int 3)) (aCons (mC (.int 3)) (aNil))))) (aCons (mTup (aCons (mC (.int 0)) (aCons (mC (.int 4)) (aCons (mC (.int 3)) (aNil))))) (aCons (mTup (aCons (mC (.int 0)) (aNil))) (aNil))))))))))))))))))))))))))))))
def f__law_plain : FnS := fnP 4 0 m__law_plain
theorem b__law_plain (Fx : Facts C mg base) : Body C P w mg base N__law_plain "_law_plain" (defScope s__law_plain) (He.ga C.K "_law_plain") 9 (defBody s__law_plain) m__law_plain := fun cdv hc A outer s H E hr => by
  have nd : N__law_plain.Nodup := sc__law_plain.nd
  have GT := Fx.t__law_plain.gt (P := P) (w := w) (N := N__law_plain) (scope := defScope s__law_plain) (A := A) (outer := outer) (s := s) (H := H) (E := E) hc
  exact ss_cons (ss_asg (se_lst (sa_cons (se_call (fs_share Fx) rfl (Room.mono hr (by decide)) takes_d rfl (sa_cons (se_int) (sa_cons (se_un un_neg uns_neg (se_int)) (sa_nil)))) (sa_cons (se_call (fs_share Fx) rfl (Room.mono hr (by decide)) takes_d rfl (sa_cons (se_int) (sa_cons (se_int) (sa_nil)))) (sa_cons (se_call (fs_whole Fx) rfl (Room.mono hr (by decide)) takes_d rfl (sa_cons (se_int) (sa_nil))) (sa_cons (se_call (fs_plus Fx) rfl (Room.mono hr (by decide)) takes_d rfl (sa_cons (se_tup (sa_cons (se_int) (sa_cons (se_int) (sa_nil)))) (sa_cons (se_tup (sa_cons (se_int) (sa_cons (se_int) (sa_nil)))) (sa_nil)))) (sa_cons (se_call (fs_minus Fx) rfl (Room.mono hr (by decide)) takes_d rfl (sa_cons (se_tup (sa_cons (se_int) (sa_cons (se_int) (sa_nil)))) (sa_cons (se_tup (sa_cons (se_int) (sa_cons (se_int) (sa_nil)))) (sa_nil)))) (sa_cons (se_call (fs_times Fx) rfl (Room.mono hr (by decide)) takes_d rfl (sa_cons (se_tup (sa_cons (se_int) (sa_cons (se_int) (sa_nil)))) (sa_cons (se_tup (sa_cons (se_int) (sa_cons (se_int) (sa_nil)))) (sa_nil)))) (sa_cons (se_call (fs_parted Fx) rfl (Room.mono hr (by decide)) takes_d rfl (sa_cons (se_tup (sa_cons (se_int) (sa_cons (se_int) (sa_nil)))) (sa_cons (se_tup (sa_cons (se_un un_neg uns_neg (se_int)) (sa_cons (se_int) (sa_nil)))) (sa_nil)))) (sa_nil))))))))) (sg_name (pg_name nd rfl (Or.inl rfl)))) (ss_cons (ss_asg (se_bin op_addA ops_add (se_v 0 (pv 0)) (se_lst (sa_cons (se_call (fs_is_less Fx) rfl (Room.mono hr (by decide)) takes_d rfl (sa_cons (se_tup (sa_cons (se_int) (sa_cons (se_int) (sa_nil)))) (sa_cons (se_tup (sa_cons (se_int) (sa_cons (se_int) (sa_nil)))) (sa_nil)))) (sa_cons (se_call (fs_is_less Fx) rfl (Room.mono hr (by decide)) takes_d rfl (sa_cons (se_tup (sa_cons (se_int) (sa_cons (se_int) (sa_nil)))) (sa_cons (se_tup (sa_cons (se_int) (sa_cons (se_int) (sa_nil)))) (sa_nil)))) (sa_cons (se_call (fs_below Fx) rfl (Room.mono hr (by decide)) takes_d rfl (sa_cons (se_tup (sa_cons (se_un un_neg uns_neg (se_int)) (sa_cons (se_int) (sa_nil)))) (sa_nil))) (sa_cons (se_call (fs_above Fx) rfl (Room.mono hr (by decide)) takes_d rfl (sa_cons (se_tup (sa_cons (se_un un_neg uns_neg (se_int)) (sa_cons (se_int) (sa_nil)))) (sa_nil))) (sa_cons (se_call (fs_above Fx) rfl (Room.mono hr (by decide)) takes_d rfl (sa_cons (se_tup (sa_cons (se_int) (sa_cons (se_int) (sa_nil)))) (sa_nil))) (sa_cons (se_call (fs_nearest Fx) rfl (Room.mono hr (by decide)) takes_d rfl (sa_cons (se_tup (sa_cons (se_int) (sa_cons (se_int) (sa_nil)))) (sa_nil))) (sa_cons (se_call (fs_nearest Fx) rfl (Room.mono hr (by decide)) takes_d rfl (sa_cons (se_tup (sa_cons (se_un un_neg uns_neg (se_int)) (sa_cons (se_int) (sa_nil)))) (sa_nil))) (sa_cons (se_call (fs_sum_of Fx) rfl (Room.mono hr (by decide)) takes_d rfl (sa_cons (se_tup (sa_nil)) (sa_nil))) (sa_nil))))))))))) (sg_name (pg_name nd rfl (Or.inl rfl)))) (ss_cons (ss_asg (se_bin op_addA ops_add (se_v 0 (pv 0)) (se_lst (sa_cons (se_call (fs_sum_of Fx) rfl (Room.mono hr (by decide)) takes_d rfl (sa_cons (se_tup (sa_cons (se_tup (sa_cons (se_int) (sa_cons (se_int) (sa_nil)))) (sa_cons (se_tup (sa_cons (se_int) (sa_cons (se_int) (sa_nil)))) (sa_nil)))) (sa_nil))) (sa_cons (se_call (fs_told_share Fx) rfl (Room.mono hr (by decide)) takes_d rfl (sa_cons (se_tup (sa_cons (se_int) (sa_cons (se_int) (sa_nil)))) (sa_nil))) (sa_cons (se_call (fs_told_share Fx) rfl (Room.mono hr (by decide)) takes_d rfl (sa_cons (se_tup (sa_cons (se_int) (sa_cons (se_int) (sa_nil)))) (sa_nil))) (sa_cons (se_call (fs_split Fx) rfl (Room.mono hr (by decide)) takes_d rfl (sa_cons (se_int) (sa_cons (se_tup (sa_cons (se_int) (sa_cons (se_int) (sa_cons (se_int) (sa_nil))))) (sa_nil)))) (sa_cons (se_call (fs_split Fx) rfl (Room.mono hr (by decide)) takes_d rfl (sa_cons (se_int) (sa_cons (se_tup (sa_cons (se_int) (sa_cons (se_int) (sa_cons (se_int) (sa_nil))))) (sa_nil)))) (sa_cons (se_call (fs_split Fx) rfl (Room.mono hr (by decide)) takes_d rfl (sa_cons (se_int) (sa_cons (se_tup (sa_cons (se_int) (sa_nil))) (sa_nil)))) (sa_nil))))))))) (sg_name (pg_name nd rfl (Or.inl rfl)))) (ss_cons (ss_asg (se_lst (sa_cons (se_clo GT rfl rfl (hi_4 Fx) rfl cloS_4) (sa_cons (se_clo GT rfl rfl (hi_3 Fx) rfl cloS_3) (sa_cons (se_clo GT rfl rfl (hi_2 Fx) rfl cloS_2) (sa_cons (se_clo GT rfl rfl (hi_1 Fx) rfl cloS_1) (sa_cons (se_clo GT rfl rfl (hi_0 Fx) rfl cloS_0) (sa_nil))))))) (sg_name (pg_name nd rfl (Or.inl rfl)))) (ss_cons (ss_asg (se_bin op_addA ops_add (se_v 1 (pv 1)) (se_lst (sa_cons (se_clo GT rfl rfl (hi_5 Fx) rfl cloS_5) (sa_nil)))) (sg_name (pg_name nd rfl (Or.inl rfl)))) (ss_cons (ss_if (st_cmp (op_neD (Room.u64 hr)) ops_ne (se_lc (own := [("k", 2), ("f", 3)]) (sl := ([2] ++ ([3] ++ []))) rfl nd (by decide) (si_enum rfl rfl Fx.b_enumerate (se_v 1 (pv 1))) (blkOk_by (by kernel_rfl)) (fun s H c cl fp => sg_tup rfl rfl (sgs_cons (fun _ _ _ _ _ h => h) (sg_name (pg_name nd rfl (Or.inl rfl))) (sgs_cons (fun _ _ _ _ _ h => h) (sg_name (pg_name nd rfl (Or.inl rfl))) sgs_nil))) (fun s H c cl fp => stt_one (st_cmp (op_neD (Room.u64 hr)) ops_ne (se_call (fs__law_told Fx) rfl (Room.mono hr (by decide)) LamX.takes0 rfl (sa_cons (se_v 3 (pv 3)) (sa_nil))) (se_str) (nomark _))) (fun s H c cl fp => se_v 2 (pv 2))) (se_lst (sa_nil)) (nomark _)) (ss_one (ss_ret (se_bl))) (ss_nil)) (ss_one (ss_ret (se_cmp (op_eqD (Room.u64 hr)) ops_eq (se_v 0 (pv 0)) (se_lst (sa_cons (se_tup (sa_cons (se_un un_neg uns_neg (se_int)) (sa_cons (se_int) (sa_nil)))) (sa_cons (se_tup (sa_cons (se_int) (sa_cons (se_int) (sa_nil)))) (sa_cons (se_tup (sa_cons (se_int) (sa_cons (se_int) (sa_nil)))) (sa_cons (se_tup (sa_cons (se_int) (sa_cons (se_int) (sa_nil)))) (sa_cons (se_tup (sa_cons (se_int) (sa_cons (se_int) (sa_nil)))) (sa_cons (se_tup (sa_cons (se_int) (sa_cons (se_int) (sa_nil)))) (sa_cons (se_tup (sa_cons (se_un un_neg uns_neg (se_int)) (sa_cons (se_int) (sa_nil)))) (sa_cons (se_bl) (sa_cons (se_bl) (sa_cons (se_un un_neg uns_neg (se_int)) (sa_cons (se_un un_neg uns_neg (se_int)) (sa_cons (se_int) (sa_cons (se_int) (sa_cons (se_int) (sa_cons (se_tup (sa_cons (se_int) (sa_cons (se_int) (sa_nil)))) (sa_cons (se_tup (sa_cons (se_int) (sa_cons (se_int) (sa_nil)))) (sa_cons (se_str) (sa_cons (se_str) (sa_cons (se_tup (sa_cons (se_int) (sa_cons (se_int) (sa_cons (se_int) (sa_nil))))) (sa_cons (se_tup (sa_cons (se_int) (sa_cons (se_int) (sa_cons (se_int) (sa_nil))))) (sa_cons (se_tup (sa_cons (se_int) (sa_nil))) (sa_nil))))))))))))))))))))))) (nomark _)))))))))
theorem fs__law_plain (Fx : Facts C mg base) : FS C P w mg base "_law_plain" 10 0 f__law_plain := by
  obtain ⟨fd, F⟩ := Fx.d__law_plain.d
  exact fs_P Fx.d__law_plain.g F (F.bindsN fun _ _ _ _ _ _ us hl => match us, hl with | [], _ => rfl) sc__law_plain rfl rfl (b__law_plain Fx)
abbrev m_law : MS := sCons (sFor (iSeq (mCall f__law_rounds (aCons (mVar 0) (aCons (mC (.int 1)) (aNil))))) (gName 1) (sCons (sAsg (mTup (aCons (mBin oSub (mCall (f__law_roll 2) (aCons (mVar 1) (aCons (mC (.int 400)) (aNil)))) (mC (.int 200))) (aCons (mBin oSub (mCall (f__law_roll 2) (aCons (mVar 1) (aCons (mC (.int 60)) (aNil)))) (mC (.int 30))) (aNil)))) (gTup [gName 4, gName 5])) (sCons (sIf (tB (mBin oNe (mTold caught "ShareError" (mCall f_share (aCons (mVar 4) (aCons (mVar 5) (aNil))))) (mIf (tB (mBin oNe (mVar 5) (mC (.int 0)))) (mCall f__law_share (aCons (mVar 4) (aCons (mVar 5) (aNil)))) (mC (.str "ShareError"))))) (sRet (mC (.bl false))) (sNil)) (sCons (sAsg (mTup (aCons (mCall f__law_one (aCons (mVar 1) (aNil))) (aCons (mCall f__law_one (aCons (mVar 1) (aNil))) (aCons (mCall f__law_one (aCons (mVar 1) (aNil))) (aNil))))) (gTup [gName 6, gName 7, gName 8])) (sCons (sIf (tOr (tB (mBin oNe (mCall f_plus (aCons (mVar 6) (aCons (mVar 7) (aNil)))) (mCall f__law_add (aCons (mVar 6) (aCons (mVar 7) (aNil)))))) (tOr (tB (mBin oNe (mCall f_minus (aCons (mCall f_plus (aCons (mVar 6) (aCons (mVar 7) (aNil)))) (aCons (mVar 7) (aNil)))) (mVar 6))) (tOr (tB (mBin oNe (mCall f_times (aCons (mVar 6) (aCons (mVar 7) (aNil)))) (mCall f__law_mul (aCons (mVar 6) (aCons (mVar 7) (aNil)))))) (tB (mBin oNe (mCall f_times (aCons (mVar 6) (aCons (mCall f_plus (aCons (mVar 7) (aCons (mVar 8) (aNil)))) (aNil)))) (mCall f_plus (aCons (mCall f_times (aCons (mVar 6) (aCons (mVar 7) (aNil)))) (aCons (mCall f_times (aCons (mVar 6) (aCons (mVar 8) (aNil)))) (aNil))))))))) (sRet (mC (.bl false))) (sNil)) (sCons (sIf (tB (mBin oNe (mTold caught "ShareError" (mCall f_parted (aCons (mVar 6) (aCons (mVar 7) (aNil))))) (mIf (tB (mBin oNe (mBin oIx (mVar 7) (mC (.int 0))) (mC (.int 0)))) (mCall f__law_share (aCons (mBin oMul (mBin oIx (mVar 6) (mC (.int 0))) (mBin oIx (mVar 7) (mC (.int 1)))) (aCons (mBin oMul (mBin oIx (mVar 6) (mC (.int 1))) (mBin oIx (mVar 7) (mC (.int 0)))) (aNil)))) (mC (.str "ShareError"))))) (sRet (mC (.bl false))) (sNil)) (sCons (sPar [9, 10, 11] (aCons (mCall f_below (aCons (mVar 6) (aNil))) (aCons (mCall f_above (aCons (mVar 6) (aNil))) (aCons (mCall f_nearest (aCons (mVar 6) (aNil))) (aNil))))) (sCons (sIf (tOr (tNot (tB (mChain oLe oLt (mBin oMul (mVar 9) (mBin oIx (mVar 6) (mC (.int 1)))) (mBin oIx (mVar 6) (mC (.int 0))) (mBin oMul (mBin oAdd (mVar 9) (mC (.int 1))) (mBin oIx (mVar 6) (mC (.int 1))))))) (tOr (tNot (tB (mChain oLt oLe (mBin oMul (mBin oSub (mVar 10) (mC (.int 1))) (mBin oIx (mVar 6) (mC (.int 1)))) (mBin oIx (mVar 6) (mC (.int 0))) (mBin oMul (mVar 10) (mBin oIx (mVar 6) (mC (.int 1))))))) (tNot (tB (mChain oLe oLt (mBin oMul (mBin oSub (mBin oMul (mC (.int 2)) (mVar 11)) (mC (.int 1))) (mBin oIx (mVar 6) (mC (.int 1)))) (mBin oMul (mC (.int 2)) (mBin oIx (mVar 6) (mC (.int 0)))) (mBin oMul (mBin oAdd (mBin oMul (mC (.int 2)) (mVar 11)) (mC (.int 1))) (mBin oIx (mVar 6) (mC (.int 1))))))))) (sRet (mC (.bl false))) (sNil)) (sCons (sPar [12, 13] (aCons (mLc (iRange1 (aCons (mCall (f__law_roll 2) (aCons (mVar 1) (aCons (mC (.int 6)) (aNil)))) (aNil))) [19] (gName 19) (tYes) (mCall f__law_one (aCons (mVar 1) (aNil)))) (aCons (mTup (aCons (mC (.int 0)) (aCons (mC (.int 1)) (aNil)))) (aNil)))) (sCons (sFor (iSeq (mVar 12)) (gName 2) (sAsg (mCall f__law_add (aCons (mVar 13) (aCons (mVar 2) (aNil)))) (gName 13))) (sCons (sIf (tOr (tB (mBin oNe (mCall f_is_less (aCons (mVar 6) (aCons (mVar 7) (aNil)))) (mCall f__law_less (aCons (mVar 6) (aCons (mVar 7) (aNil)))))) (tOr (tB (mBin oNe (mCall f_sum_of (aCons (mVar 12) (aNil))) (mVar 13))) (tOr (tB (mBin oNe (mCall f_whole (aCons (mVar 4) (aNil))) (mTup (aCons (mVar 4) (aCons (mC (.int 1)) (aNil)))))) (tB (mBin oNe (mCall f_told_share (aCons (mVar 6) (aNil))) (mIf (tB (mBin oEq (mBin oIx (mVar 6) (mC (.int 1))) (mC (.int 1)))) (mCall fStr (aCons (mBin oIx (mVar 6) (mC (.int 0))) (aNil))) (mBin oAdd (mBin oAdd (mCall fStr (aCons (mBin oIx (mVar 6) (mC (.int 0))) (aNil))) (mC (.str ":"))) (mCall fStr (aCons (mBin oIx (mVar 6) (mC (.int 1))) (aNil)))))))))) (sRet (mC (.bl false))) (sNil)) (sCons (sAsg (mTup (aCons (mLc (iRange1 (aCons (mCall (f__law_roll 2) (aCons (mVar 1) (aCons (mC (.int 6)) (aNil)))) (aNil))) [19] (gName 19) (tYes) (mCall (f__law_roll 2) (aCons (mVar 1) (aCons (mC (.int 6)) (aNil))))) (aCons (mCall (f__law_roll 2) (aCons (mVar 1) (aCons (mC (.int 50)) (aNil)))) (aNil)))) (gTup [gName 14, gName 15])) (sCons (sAsg (mTold caught "ShareError" (mCall f_split (aCons (mVar 15) (aCons (mVar 14) (aNil))))) (gName 3)) (sCons (sIf (tB (mBin oNe (mBin oEq (mVar 3) (mC (.str "ShareError"))) (mBin oEq (mCall fSum (aCons (mVar 14) (aNil))) (mC (.int 0))))) (sRet (mC (.bl false))) (sNil)) (sIf (tB (mBin oNe (mVar 3) (mC (.str "ShareError")))) (sCons (sAsg (mLc (iSeq (mVar 14)) [20] (gName 20) (tYes) (mBin oDiv (mBin oMul (mVar 15) (mVar 20)) (mCall fSum (aCons (mVar 14) (aNil))))) (gName 16)) (sCons (sAsg (mLc (iSeq (mCall fSorted (aCons (mLc (iEnum (mVar 14)) [19, 20] (gTup [gName 19, gName 20]) (tYes) (mTup (aCons (mBin oSub (mBin oMul (mBin oIx (mVar 16) (mVar 19)) (mCall fSum (aCons (mVar 14) (aNil)))) (mBin oMul (mVar 15) (mVar 20))) (aCons (mVar 19) (aNil))))) (aNil)))) [21, 19] (gTup [gName 21, gName 19]) (tYes) (mVar 19)) (gName 17)) (sCons (sAsg (mSl (mVar 17) oNo (oSome (mBin oSub (mVar 15) (mCall fSum (aCons (mVar 16) (aNil)))))) (gName 18)) (sIf (tOr (tB (mBin oNe (mCall fList (aCons (mVar 3) (aNil))) (mLc (iRange1 (aCons (mCall fLen (aCons (mVar 14) (aNil))) (aNil))) [19] (gName 19) (tYes) (mBin oAdd (mBin oIx (mVar 16) (mVar 19)) (mCall fInt (aCons (mBin (oInS false) (mVar 19) (mVar 18)) (aNil))))))) (tB (mBin oNe (mCall fSum (aCons (mVar 3) (aNil))) (mVar 15)))) (sRet (mC (.bl false))) (sNil))))) (sNil)))))))))))))))) (sRet (mCall f__law_plain aNil))
def f_law : FnS := fnS 22 1 m_law
theorem b_law (Fx : Facts C mg base) : Body C P w mg base N_law "law" (defScope s_law) (He.ga C.K "law") 42 (defBody s_law) m_law := fun cdv hc A outer s H E hr => by
  have nd : N_law.Nodup := sc_law.nd
  have GT := Fx.t_law.gt (P := P) (w := w) (N := N_law) (scope := defScope s_law) (A := A) (outer := outer) (s := s) (H := H) (E := E) hc
  exact ss_cons (ss_for passes_d rfl (si_seq rfl (se_call (fs__law_rounds Fx) rfl (Room.mono hr (by decide)) takes_d rfl (sa_cons (se_v 0 (pv 0)) (sa_cons (se_int) (sa_nil))))) (sg_name (pg_name nd rfl (Or.inr rfl))) (ss_cons (ss_asg (se_tup (sa_cons (se_bin op_sub ops_sub (se_call (fs__law_roll Fx 2) rfl (Room.mono hr (by decide)) takes_d rfl (sa_cons (se_v 1 (pv 1)) (sa_cons (se_int) (sa_nil)))) (se_int)) (sa_cons (se_bin op_sub ops_sub (se_call (fs__law_roll Fx 2) rfl (Room.mono hr (by decide)) takes_d rfl (sa_cons (se_v 1 (pv 1)) (sa_cons (se_int) (sa_nil)))) (se_int)) (sa_nil)))) (sg_tup rfl rfl (sgs_cons blind_WD (sg_name (pg_name nd rfl (Or.inr rfl))) (sgs_cons blind_WD (sg_name (pg_name nd rfl (Or.inr rfl))) sgs_nil)))) (ss_cons (ss_if (st_cmp (op_neD (Room.u64 hr)) ops_ne (se_told (k := 1) rfl rfl Fx.d__law_told.g (told_d Fx).choose_spec.1 (told_d Fx).choose_spec.2 sc__law_told rfl rfl Fx.x_ShareError.g rfl (.inl rfl) rfl rfl rfl Fx.ex GT rfl (Room.mono hr (by decide)) (LamX.lamS_by (by kernel_rfl)) rfl (fun _ _ _ _ _ => rfl) (fun A outer s H E f c' hr => se_call (fs_share Fx) rfl (Room.mono hr (by decide)) (takes_of (E := E) rfl rfl rfl rfl) rfl (sa_cons (se_v 4 (pv 4)) (sa_cons (se_v 5 (pv 5)) (sa_nil))))) (se_if (st_cmp (op_neD (Room.u64 hr)) ops_ne (se_v 5 (pv 5)) (se_int) (nomark _)) (se_call (fs__law_share Fx) rfl (Room.mono hr (by decide)) takes_d rfl (sa_cons (se_v 4 (pv 4)) (sa_cons (se_v 5 (pv 5)) (sa_nil)))) (se_str)) (nomark _)) (ss_one (ss_ret (se_bl))) (ss_nil)) (ss_cons (ss_asg (se_tup (sa_cons (se_call (fs__law_one Fx) rfl (Room.mono hr (by decide)) takes_d rfl (sa_cons (se_v 1 (pv 1)) (sa_nil))) (sa_cons (se_call (fs__law_one Fx) rfl (Room.mono hr (by decide)) takes_d rfl (sa_cons (se_v 1 (pv 1)) (sa_nil))) (sa_cons (se_call (fs__law_one Fx) rfl (Room.mono hr (by decide)) takes_d rfl (sa_cons (se_v 1 (pv 1)) (sa_nil))) (sa_nil))))) (sg_tup rfl rfl (sgs_cons blind_WD (sg_name (pg_name nd rfl (Or.inr rfl))) (sgs_cons blind_WD (sg_name (pg_name nd rfl (Or.inr rfl))) (sgs_cons blind_WD (sg_name (pg_name nd rfl (Or.inl rfl))) sgs_nil))))) (ss_cons (ss_if (PW.pt (sw_or (st_cmp (op_neD (Room.u64 hr)) ops_ne (se_call (fs_plus Fx) rfl (Room.mono hr (by decide)) takes_d rfl (sa_cons (se_v 6 (pv 6)) (sa_cons (se_v 7 (pv 7)) (sa_nil)))) (se_call (fs__law_add Fx) rfl (Room.mono hr (by decide)) takes_d rfl (sa_cons (se_v 6 (pv 6)) (sa_cons (se_v 7 (pv 7)) (sa_nil)))) (nomark _)) (sw_or (st_cmp (op_neD (Room.u64 hr)) ops_ne (se_call (fs_minus Fx) rfl (Room.mono hr (by decide)) takes_d rfl (sa_cons (se_call (fs_plus Fx) rfl (Room.mono hr (by decide)) takes_d rfl (sa_cons (se_v 6 (pv 6)) (sa_cons (se_v 7 (pv 7)) (sa_nil)))) (sa_cons (se_v 7 (pv 7)) (sa_nil)))) (se_v 6 (pv 6)) (nomark _)) (sw_or (st_cmp (op_neD (Room.u64 hr)) ops_ne (se_call (fs_times Fx) rfl (Room.mono hr (by decide)) takes_d rfl (sa_cons (se_v 6 (pv 6)) (sa_cons (se_v 7 (pv 7)) (sa_nil)))) (se_call (fs__law_mul Fx) rfl (Room.mono hr (by decide)) takes_d rfl (sa_cons (se_v 6 (pv 6)) (sa_cons (se_v 7 (pv 7)) (sa_nil)))) (nomark _)) (sw_or1 (st_cmp (op_neD (Room.u64 hr)) ops_ne (se_call (fs_times Fx) rfl (Room.mono hr (by decide)) takes_d rfl (sa_cons (se_v 6 (pv 6)) (sa_cons (se_call (fs_plus Fx) rfl (Room.mono hr (by decide)) takes_d rfl (sa_cons (se_v 7 (pv 7)) (sa_cons (se_v 8 (pv 8)) (sa_nil)))) (sa_nil)))) (se_call (fs_plus Fx) rfl (Room.mono hr (by decide)) takes_d rfl (sa_cons (se_call (fs_times Fx) rfl (Room.mono hr (by decide)) takes_d rfl (sa_cons (se_v 6 (pv 6)) (sa_cons (se_v 7 (pv 7)) (sa_nil)))) (sa_cons (se_call (fs_times Fx) rfl (Room.mono hr (by decide)) takes_d rfl (sa_cons (se_v 6 (pv 6)) (sa_cons (se_v 8 (pv 8)) (sa_nil)))) (sa_nil)))) (nomark _))))))) (ss_one (ss_ret (se_bl))) (ss_nil)) (ss_cons (ss_if (st_cmp (op_neD (Room.u64 hr)) ops_ne (se_told (k := 2) rfl rfl Fx.d__law_told.g (told_d Fx).choose_spec.1 (told_d Fx).choose_spec.2 sc__law_told rfl rfl Fx.x_ShareError.g rfl (.inl rfl) rfl rfl rfl Fx.ex GT rfl (Room.mono hr (by decide)) (LamX.lamS_by (by kernel_rfl)) rfl (fun _ _ _ _ _ => rfl) (fun A outer s H E f c' hr => se_call (fs_parted Fx) rfl (Room.mono hr (by decide)) (takes_of (E := E) rfl rfl rfl rfl) rfl (sa_cons (se_v 6 (pv 6)) (sa_cons (se_v 7 (pv 7)) (sa_nil))))) (se_if (st_cmp (op_neD (Room.u64 hr)) ops_ne (se_ix (se_v 7 (pv 7)) (se_int) rfl (fun _ _ => rfl)) (se_int) (nomark _)) (se_call (fs__law_share Fx) rfl (Room.mono hr (by decide)) takes_d rfl (sa_cons (se_bin op_mulA ops_mul (se_ix (se_v 6 (pv 6)) (se_int) rfl (fun _ _ => rfl)) (se_ix (se_v 7 (pv 7)) (se_int) rfl (fun _ _ => rfl))) (sa_cons (se_bin op_mulA ops_mul (se_ix (se_v 6 (pv 6)) (se_int) rfl (fun _ _ => rfl)) (se_ix (se_v 7 (pv 7)) (se_int) rfl (fun _ _ => rfl))) (sa_nil)))) (se_str)) (nomark _)) (ss_one (ss_ret (se_bl))) (ss_nil)) (ss_cons (ss_par3 rfl nd rfl rfl rfl (by decide) (by decide) (by decide) rfl rfl rfl (sa_cons (se_call (fs_below Fx) rfl (Room.mono hr (by decide)) takes_d rfl (sa_cons (se_v 6 (pv 6)) (sa_nil))) (sa_cons (se_call (fs_above Fx) rfl (Room.mono hr (by decide)) takes_d rfl (sa_cons (se_v 6 (pv 6)) (sa_nil))) (sa_cons (se_call (fs_nearest Fx) rfl (Room.mono hr (by decide)) takes_d rfl (sa_cons (se_v 6 (pv 6)) (sa_nil))) (sa_nil)))) rfl) (ss_cons (ss_if (PW.pt (sw_or (st_not (st_chain op_le op_lt ops_le ops_lt mono_I0 (se_bin op_mulA ops_mul (se_v 9 (pv 9)) (se_ix (se_v 6 (pv 6)) (se_int) rfl (fun _ _ => rfl))) (se_ix (se_v 6 (pv 6)) (se_int) rfl (fun _ _ => rfl)) (se_bin op_mulA ops_mul (se_bin op_addA ops_add (se_v 9 (pv 9)) (se_int)) (se_ix (se_v 6 (pv 6)) (se_int) rfl (fun _ _ => rfl))) rfl)) (sw_or (st_not (st_chain op_lt op_le ops_lt ops_le mono_I0 (se_bin op_mulA ops_mul (se_bin op_sub ops_sub (se_v 10 (pv 10)) (se_int)) (se_ix (se_v 6 (pv 6)) (se_int) rfl (fun _ _ => rfl))) (se_ix (se_v 6 (pv 6)) (se_int) rfl (fun _ _ => rfl)) (se_bin op_mulA ops_mul (se_v 10 (pv 10)) (se_ix (se_v 6 (pv 6)) (se_int) rfl (fun _ _ => rfl))) rfl)) (sw_or1 (st_not (st_chain op_le op_lt ops_le ops_lt mono_I0 (se_bin op_mulA ops_mul (se_bin op_sub ops_sub (se_bin op_mulA ops_mul (se_int) (se_v 11 (pv 11))) (se_int)) (se_ix (se_v 6 (pv 6)) (se_int) rfl (fun _ _ => rfl))) (se_bin op_mulA ops_mul (se_int) (se_ix (se_v 6 (pv 6)) (se_int) rfl (fun _ _ => rfl))) (se_bin op_mulA ops_mul (se_bin op_addA ops_add (se_bin op_mulA ops_mul (se_int) (se_v 11 (pv 11))) (se_int)) (se_ix (se_v 6 (pv 6)) (se_int) rfl (fun _ _ => rfl))) rfl)))))) (ss_one (ss_ret (se_bl))) (ss_nil)) (ss_cons (ss_par rfl nd rfl rfl (by decide) rfl rfl (sa_cons (se_lc (own := [("k", 19)]) (sl := [19]) rfl nd (by decide) (si_range1 rfl Fx.b_range (sa_cons (se_call (fs__law_roll Fx 2) rfl (Room.mono hr (by decide)) takes_d rfl (sa_cons (se_v 1 (pv 1)) (sa_cons (se_int) (sa_nil)))) (sa_nil))) (blkOk_by (by kernel_rfl)) (fun s H c cl fp => sg_name (pg_name nd rfl (Or.inl rfl))) (fun s H c cl fp => stt_nil) (fun s H c cl fp => se_call (fs__law_one Fx) rfl (Room.mono hr (by decide)) LamX.takes0 rfl (sa_cons (se_v 1 (pv 1)) (sa_nil)))) (sa_cons (se_tup (sa_cons (se_int) (sa_cons (se_int) (sa_nil)))) (sa_nil))) rfl) (ss_cons (ss_for passes_d rfl (si_seq rfl (se_v 12 (pv 12))) (sg_name (pg_name nd rfl (Or.inl rfl))) (ss_one (ss_asg (se_call (fs__law_add Fx) rfl (Room.mono hr (by decide)) takes_d rfl (sa_cons (se_v 13 (pv 13)) (sa_cons (se_v 2 (pv 2)) (sa_nil)))) (sg_name (pg_name nd rfl (Or.inl rfl)))))) (ss_cons (ss_if (PW.pt (sw_or (st_cmp (op_neD (Room.u64 hr)) ops_ne (se_call (fs_is_less Fx) rfl (Room.mono hr (by decide)) takes_d rfl (sa_cons (se_v 6 (pv 6)) (sa_cons (se_v 7 (pv 7)) (sa_nil)))) (se_call (fs__law_less Fx) rfl (Room.mono hr (by decide)) takes_d rfl (sa_cons (se_v 6 (pv 6)) (sa_cons (se_v 7 (pv 7)) (sa_nil)))) (nomark _)) (sw_or (st_cmp (op_neD (Room.u64 hr)) ops_ne (se_call (fs_sum_of Fx) rfl (Room.mono hr (by decide)) takes_d rfl (sa_cons (se_v 12 (pv 12)) (sa_nil))) (se_v 13 (pv 13)) (nomark _)) (sw_or (st_cmp (op_neD (Room.u64 hr)) ops_ne (se_call (fs_whole Fx) rfl (Room.mono hr (by decide)) takes_d rfl (sa_cons (se_v 4 (pv 4)) (sa_nil))) (se_tup (sa_cons (se_v 4 (pv 4)) (sa_cons (se_int) (sa_nil)))) (nomark _)) (sw_or1 (st_cmp (op_neD (Room.u64 hr)) ops_ne (se_call (fs_told_share Fx) rfl (Room.mono hr (by decide)) takes_d rfl (sa_cons (se_v 6 (pv 6)) (sa_nil))) (se_if (st_cmp (op_eqD (Room.u64 hr)) ops_eq (se_ix (se_v 6 (pv 6)) (se_int) rfl (fun _ _ => rfl)) (se_int) (nomark _)) (se_bty call_str_int blt_str rfl Fx.b_str bb_str (sa_cons (se_ix (se_v 6 (pv 6)) (se_int) rfl (fun _ _ => rfl)) (sa_nil))) (se_bin op_addA ops_add (se_bin op_addA ops_add (se_bty call_str_int blt_str rfl Fx.b_str bb_str (sa_cons (se_ix (se_v 6 (pv 6)) (se_int) rfl (fun _ _ => rfl)) (sa_nil))) (se_str)) (se_bty call_str_int blt_str rfl Fx.b_str bb_str (sa_cons (se_ix (se_v 6 (pv 6)) (se_int) rfl (fun _ _ => rfl)) (sa_nil))))) (nomark _))))))) (ss_one (ss_ret (se_bl))) (ss_nil)) (ss_cons (ss_asg (se_tup (sa_cons (se_lc (own := [("k", 19)]) (sl := [19]) rfl nd (by decide) (si_range1 rfl Fx.b_range (sa_cons (se_call (fs__law_roll Fx 2) rfl (Room.mono hr (by decide)) takes_d rfl (sa_cons (se_v 1 (pv 1)) (sa_cons (se_int) (sa_nil)))) (sa_nil))) (blkOk_by (by kernel_rfl)) (fun s H c cl fp => sg_name (pg_name nd rfl (Or.inl rfl))) (fun s H c cl fp => stt_nil) (fun s H c cl fp => se_call (fs__law_roll Fx 2) rfl (Room.mono hr (by decide)) LamX.takes0 rfl (sa_cons (se_v 1 (pv 1)) (sa_cons (se_int) (sa_nil))))) (sa_cons (se_call (fs__law_roll Fx 2) rfl (Room.mono hr (by decide)) takes_d rfl (sa_cons (se_v 1 (pv 1)) (sa_cons (se_int) (sa_nil)))) (sa_nil)))) (sg_tup rfl rfl (sgs_cons blind_WD (sg_name (pg_name nd rfl (Or.inr rfl))) (sgs_cons blind_WD (sg_name (pg_name nd rfl (Or.inr rfl))) sgs_nil)))) (ss_cons (ss_asg (se_told (k := 7) rfl rfl Fx.d__law_told.g (told_d Fx).choose_spec.1 (told_d Fx).choose_spec.2 sc__law_told rfl rfl Fx.x_ShareError.g rfl (.inl rfl) rfl rfl rfl Fx.ex GT rfl (Room.mono hr (by decide)) (LamX.lamS_by (by kernel_rfl)) rfl (fun _ _ _ _ _ => rfl) (fun A outer s H E f c' hr => se_call (fs_split Fx) rfl (Room.mono hr (by decide)) (takes_of (E := E) rfl rfl rfl rfl) rfl (sa_cons (se_v 15 (pv 15)) (sa_cons (se_v 14 (pv 14)) (sa_nil))))) (sg_name (pg_name nd rfl (Or.inl rfl)))) (ss_cons (ss_if (st_cmp (op_neD (Room.u64 hr)) ops_ne (se_cmp (op_eqD (Room.u64 hr)) ops_eq (se_v 3 (pv 3)) (se_str) (nomark _)) (se_cmp (op_eqD (Room.u64 hr)) ops_eq (se_blt (cr_sumA rfl) blt_sum rfl Fx.b_sum bb_sum (sa_cons (se_v 14 (pv 14)) (sa_nil))) (se_int) (nomark _)) (nomark _)) (ss_one (ss_ret (se_bl))) (ss_nil)) (ss_one (ss_if (st_cmp (op_neD (Room.u64 hr)) ops_ne (se_v 3 (pv 3)) (se_str) (nomark _)) (ss_cons (ss_asg (se_lc (own := [("part", 20)]) (sl := [20]) rfl nd (by decide) (si_seq rfl (se_v 14 (pv 14))) (blkOk_by (by kernel_rfl)) (fun s H c cl fp => sg_name (pg_name nd rfl (Or.inl rfl))) (fun s H c cl fp => stt_nil) (fun s H c cl fp => se_bin op_fdivW ops_div (se_bin op_mulA ops_mul (se_v 15 (pv 15)) (se_v 20 (pv 20))) (se_blt (cr_sumA rfl) blt_sum rfl Fx.b_sum bb_sum (sa_cons (se_v 14 (pv 14)) (sa_nil))))) (sg_name (pg_name nd rfl (Or.inr rfl)))) (ss_cons (ss_setLc (own := [("rest", 21), ("k", 19)]) (sl := ([21] ++ ([19] ++ []))) rfl nd (by decide) rfl rfl (sw_true rfl rfl rfl rfl) (si_seq rfl (se_blt (cr_sortD rfl hr) blt_sorted rfl Fx.b_sorted bb_sorted (sa_cons (se_lc (own := [("k", 19), ("part", 20)]) (sl := ([19] ++ ([20] ++ []))) rfl nd (by decide) (si_enum rfl rfl Fx.b_enumerate (se_v 14 (pv 14))) (blkOk_by (by kernel_rfl)) (fun s H c cl fp => sg_tup rfl rfl (sgs_cons (fun _ _ _ _ _ h => h) (sg_name (pg_name nd rfl (Or.inl rfl))) (sgs_cons (fun _ _ _ _ _ h => h) (sg_name (pg_name nd rfl (Or.inl rfl))) sgs_nil))) (fun s H c cl fp => stt_nil) (fun s H c cl fp => se_tup (sa_cons (se_bin op_sub ops_sub (se_bin op_mulA ops_mul (se_ix (se_v 16 (pv 16)) (se_v 19 (pv 19)) rfl (fun _ _ => rfl)) (se_blt (cr_sumA rfl) blt_sum rfl Fx.b_sum bb_sum (sa_cons (se_v 14 (pv 14)) (sa_nil)))) (se_bin op_mulA ops_mul (se_v 15 (pv 15)) (se_v 20 (pv 20)))) (sa_cons (se_v 19 (pv 19)) (sa_nil))))) (sa_nil)))) (blkOk_by (by kernel_rfl)) (fun s H c cl fp => sg_tup rfl rfl (sgs_cons (fun _ _ _ _ _ h => h) (sg_name (pg_name nd rfl (Or.inl rfl))) (sgs_cons (fun _ _ _ _ _ h => h) (sg_name (pg_name nd rfl (Or.inl rfl))) sgs_nil))) (fun s H c cl fp => stt_nil) (fun s H c cl fp => se_v 19 (pv 19))) (ss_cons (ss_asg (se_sl rfl (se_v 17 (pv 17)) so_no (so_some (se_bin op_sub ops_sub (se_v 15 (pv 15)) (se_blt (cr_sumA rfl) blt_sum rfl Fx.b_sum bb_sum (sa_cons (se_v 16 (pv 16)) (sa_nil)))))) (sg_name (pg_name nd rfl (Or.inr rfl)))) (ss_one (ss_if (PW.pt (sw_or (st_cmp (op_neD (Room.u64 hr)) ops_ne (se_bty call_list_of blt_listOf rfl Fx.b_list bb_list (sa_cons (se_v 3 (pv 3)) (sa_nil))) (se_lc (own := [("k", 19)]) (sl := [19]) rfl nd (by decide) (si_range1 rfl Fx.b_range (sa_cons (se_blt cr_lenA blt_len rfl Fx.b_len bb_len (sa_cons (se_v 14 (pv 14)) (sa_nil))) (sa_nil))) (blkOk_by (by kernel_rfl)) (fun s H c cl fp => sg_name (pg_name nd rfl (Or.inl rfl))) (fun s H c cl fp => stt_nil) (fun s H c cl fp => se_bin op_addA ops_add (se_ix (se_v 16 (pv 16)) (se_v 19 (pv 19)) rfl (fun _ _ => rfl)) (se_bty call_int1 blt_int rfl Fx.b_int bb_int (sa_cons (se_cmp (op_inA (Room.u65 hr)) ops_in (se_v 19 (pv 19)) (se_v 18 (pv 18)) rfl) (sa_nil))))) (nomark _)) (sw_or1 (st_cmp (op_neD (Room.u64 hr)) ops_ne (se_blt (cr_sumA rfl) blt_sum rfl Fx.b_sum bb_sum (sa_cons (se_v 3 (pv 3)) (sa_nil))) (se_v 15 (pv 15)) (nomark _))))) (ss_one (ss_ret (se_bl))) (ss_nil)))))) (ss_nil))))))))))))))))) (ss_one (ss_ret (se_call0 (fs__law_plain Fx) rfl (Room.mono hr (by decide)) takes_d rfl)))
theorem fs_law (Fx : Facts C mg base) : FS C P w mg base "law" 43 1 f_law := by
  obtain ⟨fd, F⟩ := Fx.d_law.d
  exact fs_S Fx.d_law.g F (F.bindsN fun _ _ _ _ _ _ us hl => match us, hl with | [_], _ => rfl) sc_law rfl rfl (b_law Fx)
end
/-! the head -/
def dd_share : He.DefD := ⟨("share", none), "share", "share", defArgs s_share, defBody s_share, defScope s_share, [], []⟩
def dd_whole : He.DefD := ⟨("whole", none), "whole", "whole", defArgs s_whole, defBody s_whole, defScope s_whole, [], []⟩
def dd_plus : He.DefD := ⟨("plus", none), "plus", "plus", defArgs s_plus, defBody s_plus, defScope s_plus, [], []⟩
def dd_minus : He.DefD := ⟨("minus", none), "minus", "minus", defArgs s_minus, defBody s_minus, defScope s_minus, [], []⟩
def dd_times : He.DefD := ⟨("times", none), "times", "times", defArgs s_times, defBody s_times, defScope s_times, [], []⟩
def dd_parted : He.DefD := ⟨("parted", none), "parted", "parted", defArgs s_parted, defBody s_parted, defScope s_parted, [], []⟩
def dd_is_less : He.DefD := ⟨("is_less", none), "is_less", "is_less", defArgs s_is_less, defBody s_is_less, defScope s_is_less, [], []⟩
def dd_below : He.DefD := ⟨("below", none), "below", "below", defArgs s_below, defBody s_below, defScope s_below, [], []⟩
def dd_above : He.DefD := ⟨("above", none), "above", "above", defArgs s_above, defBody s_above, defScope s_above, [], []⟩
def dd_nearest : He.DefD := ⟨("nearest", none), "nearest", "nearest", defArgs s_nearest, defBody s_nearest, defScope s_nearest, [], []⟩
def dd_sum_of : He.DefD := ⟨("sum_of", none), "sum_of", "sum_of", defArgs s_sum_of, defBody s_sum_of, defScope s_sum_of, [], []⟩
def dd_told_share : He.DefD := ⟨("told_share", none), "told_share", "told_share", defArgs s_told_share, defBody s_told_share, defScope s_told_share, [], []⟩
def dd_split : He.DefD := ⟨("split", none), "split", "split", defArgs s_split, defBody s_split, defScope s_split, [], []⟩
def dd__law_dice : He.DefD := ⟨("_law_dice", none), "_law_dice", "_law_dice", defArgs s__law_dice, defBody s__law_dice, defScope s__law_dice, [], []⟩
def dd__law_roll : He.DefD := ⟨("_law_roll", none), "_law_roll", "_law_roll", defArgs s__law_roll, defBody s__law_roll, defScope s__law_roll, [], []⟩
def dd__law_rounds : He.DefD := ⟨("_law_rounds", none), "_law_rounds", "_law_rounds", defArgs s__law_rounds, defBody s__law_rounds, defScope s__law_rounds, [], []⟩
def dd__law_told : He.DefD := ⟨("_law_told", none), "_law_told", "_law_told", defArgs s__law_told, defBody s__law_told, defScope s__law_told, [], []⟩
def dd__law_gcd : He.DefD := ⟨("_law_gcd", none), "_law_gcd", "_law_gcd", defArgs s__law_gcd, defBody s__law_gcd, defScope s__law_gcd, [], []⟩
def dd__law_share : He.DefD := ⟨("_law_share", none), "_law_share", "_law_share", defArgs s__law_share, defBody s__law_share, defScope s__law_share, [], []⟩
def dd__law_add : He.DefD := ⟨("_law_add", none), "_law_add", "_law_add", defArgs s__law_add, defBody s__law_add, defScope s__law_add, [], []⟩
def dd__law_mul : He.DefD := ⟨("_law_mul", none), "_law_mul", "_law_mul", defArgs s__law_mul, defBody s__law_mul, defScope s__law_mul, [], []⟩
def dd__law_less : He.DefD := ⟨("_law_less", none), "_law_less", "_law_less", defArgs s__law_less, defBody s__law_less, defScope s__law_less, [], []⟩
def dd__law_one : He.DefD := ⟨("_law_one", none), "_law_one", "_law_one", defArgs s__law_one, defBody s__law_one, defScope s__law_one, [], []⟩
def dd__law_plain : He.DefD := ⟨("_law_plain", none), "_law_plain", "_law_plain", defArgs s__law_plain, defBody s__law_plain, defScope s__law_plain, [], []⟩
def dd_law : He.DefD := ⟨("law", none), "law", "law", defArgs s_law, defBody s_law, defScope s_law, [], []⟩
def hfn : List He.DefD := [dd_share, dd_whole, dd_plus, dd_minus, dd_times, dd_parted, dd_is_less, dd_below, dd_above, dd_nearest, dd_sum_of, dd_told_share, dd_split, dd__law_dice, dd__law_roll, dd__law_rounds, dd__law_told, dd__law_gcd, dd__law_share, dd__law_add, dd__law_mul, dd__law_less, dd__law_one, dd__law_plain, dd_law]
def hfa : List He.Fa := [.glo "share", .glo "whole", .glo "plus", .glo "minus", .glo "times", .glo "parted", .glo "is_less", .glo "below", .glo "above", .glo "nearest", .glo "sum_of", .glo "told_share", .glo "split", .glo "_law_dice", .glo "_law_roll", .glo "_law_rounds", .glo "_law_told", .glo "_law_gcd", .glo "_law_share", .glo "_law_add", .glo "_law_mul", .glo "_law_less", .glo "_law_one", .glo "_law_plain", .glo "law", .free "abs", .free "enumerate", .free "int", .free "len", .free "list", .free "min", .free "range", .free "sorted", .free "str", .free "sum", .free "tuple", .glo "ShareError", .exc "ShareError", .exm "ShareError" "ShareError" true]
def htf : List He.Defn := [("split", none), ("_law_plain", none), ("law", none)]
def hex (K : PySem.W.Frag) : Bool := decide ((htf.map fun p => (He.cT K p).2).Nodup)
abbrev hR : PySem.W.OpenRow := PySem.W.OpenLaw.row PySem.Challenge.rw_courtstack_k01_exact_numbers_for_courts
abbrev hK : PySem.W.Hook := He.hookX 4 hfa hfn [] htf hex
def hob (s : PySem.W.SharedT) : He.AlX := He.obsX 4 hfa hfn [] htf hex (HandSHeadRun.getT s)
theorem hob_eq (s : PySem.W.SharedT) : hob s = hK.obs s.abs := He.obsX_eq (HandSHeadRun.getT_eq s)
abbrev loose : List Str := ["CourtFault", "ShareError", "share", "whole", "plus", "minus", "times", "parted", "is_less", "below", "above", "nearest", "sum_of", "told_share", "split", "_law_dice", "_law_roll", "_law_rounds", "_law_told", "_law_gcd", "_law_share", "_law_add", "_law_mul", "_law_less", "_law_one", "_law_plain"]
theorem hrun (w : World) : HandSHeadRun.RunEq hR (PySem.W.view hR.prog [29]) hK hob 1400 loose w := by
  intro os
  kernel_rfl
def tbs (K : PySem.W.Frag) : List Tb := [tb_split ⟨K, [], []⟩, tb__law_plain ⟨K, [], []⟩, tb_law ⟨K, [], []⟩]
theorem mk_facts {w : World} {K : PySem.W.Frag} {h base : Heap} {mg : Str → Option Value} (X : K.In h) (G : h.Ns mainGlobals mg) (c : He.SaysX hfa hfn [] htf hex w h K) (hT : ∀ p ∈ htf, LamX.TabB base mg (He.cT K p).1 (He.cT K p).2) : Facts ⟨K, tbs K, clos⟩ mg base := by
  have cd := c.t.d
  have nd : (htf.map fun p => (He.cT K p).2).Nodup := of_decide_eq_true c.more
  simp only [htf, List.map_cons, List.map_nil, List.nodup_cons, List.mem_cons, List.not_mem_nil, or_false, not_or, not_false_eq_true, List.nodup_nil, and_true] at nd
  exact {
    L := rfl
    b_abs := He.free_ok X G (cd.fact 25 (f := .free "abs") rfl)
    b_enumerate := He.free_ok X G (cd.fact 26 (f := .free "enumerate") rfl)
    b_int := He.free_ok X G (cd.fact 27 (f := .free "int") rfl)
    b_len := He.free_ok X G (cd.fact 28 (f := .free "len") rfl)
    b_list := He.free_ok X G (cd.fact 29 (f := .free "list") rfl)
    b_min := He.free_ok X G (cd.fact 30 (f := .free "min") rfl)
    b_range := He.free_ok X G (cd.fact 31 (f := .free "range") rfl)
    b_sorted := He.free_ok X G (cd.fact 32 (f := .free "sorted") rfl)
    b_str := He.free_ok X G (cd.fact 33 (f := .free "str") rfl)
    b_sum := He.free_ok X G (cd.fact 34 (f := .free "sum") rfl)
    b_tuple := He.free_ok X G (cd.fact 35 (f := .free "tuple") rfl)
    d_share := ⟨He.glo_ok X G (cd.fact 0 (f := .glo "share") rfl), cd.def_ 0 (d := dd_share) rfl⟩
    d_whole := ⟨He.glo_ok X G (cd.fact 1 (f := .glo "whole") rfl), cd.def_ 1 (d := dd_whole) rfl⟩
    d_plus := ⟨He.glo_ok X G (cd.fact 2 (f := .glo "plus") rfl), cd.def_ 2 (d := dd_plus) rfl⟩
    d_minus := ⟨He.glo_ok X G (cd.fact 3 (f := .glo "minus") rfl), cd.def_ 3 (d := dd_minus) rfl⟩
    d_times := ⟨He.glo_ok X G (cd.fact 4 (f := .glo "times") rfl), cd.def_ 4 (d := dd_times) rfl⟩
    d_parted := ⟨He.glo_ok X G (cd.fact 5 (f := .glo "parted") rfl), cd.def_ 5 (d := dd_parted) rfl⟩
    d_is_less := ⟨He.glo_ok X G (cd.fact 6 (f := .glo "is_less") rfl), cd.def_ 6 (d := dd_is_less) rfl⟩
    d_below := ⟨He.glo_ok X G (cd.fact 7 (f := .glo "below") rfl), cd.def_ 7 (d := dd_below) rfl⟩
    d_above := ⟨He.glo_ok X G (cd.fact 8 (f := .glo "above") rfl), cd.def_ 8 (d := dd_above) rfl⟩
    d_nearest := ⟨He.glo_ok X G (cd.fact 9 (f := .glo "nearest") rfl), cd.def_ 9 (d := dd_nearest) rfl⟩
    d_sum_of := ⟨He.glo_ok X G (cd.fact 10 (f := .glo "sum_of") rfl), cd.def_ 10 (d := dd_sum_of) rfl⟩
    d_told_share := ⟨He.glo_ok X G (cd.fact 11 (f := .glo "told_share") rfl), cd.def_ 11 (d := dd_told_share) rfl⟩
    d_split := ⟨He.glo_ok X G (cd.fact 12 (f := .glo "split") rfl), cd.def_ 12 (d := dd_split) rfl⟩
    d__law_dice := ⟨He.glo_ok X G (cd.fact 13 (f := .glo "_law_dice") rfl), cd.def_ 13 (d := dd__law_dice) rfl⟩
    d__law_roll := ⟨He.glo_ok X G (cd.fact 14 (f := .glo "_law_roll") rfl), cd.def_ 14 (d := dd__law_roll) rfl⟩
    d__law_rounds := ⟨He.glo_ok X G (cd.fact 15 (f := .glo "_law_rounds") rfl), cd.def_ 15 (d := dd__law_rounds) rfl⟩
    d__law_told := ⟨He.glo_ok X G (cd.fact 16 (f := .glo "_law_told") rfl), cd.def_ 16 (d := dd__law_told) rfl⟩
    d__law_gcd := ⟨He.glo_ok X G (cd.fact 17 (f := .glo "_law_gcd") rfl), cd.def_ 17 (d := dd__law_gcd) rfl⟩
    d__law_share := ⟨He.glo_ok X G (cd.fact 18 (f := .glo "_law_share") rfl), cd.def_ 18 (d := dd__law_share) rfl⟩
    d__law_add := ⟨He.glo_ok X G (cd.fact 19 (f := .glo "_law_add") rfl), cd.def_ 19 (d := dd__law_add) rfl⟩
    d__law_mul := ⟨He.glo_ok X G (cd.fact 20 (f := .glo "_law_mul") rfl), cd.def_ 20 (d := dd__law_mul) rfl⟩
    d__law_less := ⟨He.glo_ok X G (cd.fact 21 (f := .glo "_law_less") rfl), cd.def_ 21 (d := dd__law_less) rfl⟩
    d__law_one := ⟨He.glo_ok X G (cd.fact 22 (f := .glo "_law_one") rfl), cd.def_ 22 (d := dd__law_one) rfl⟩
    d__law_plain := ⟨He.glo_ok X G (cd.fact 23 (f := .glo "_law_plain") rfl), cd.def_ 23 (d := dd__law_plain) rfl⟩
    d_law := ⟨He.glo_ok X G (cd.fact 24 (f := .glo "law") rfl), cd.def_ 24 (d := dd_law) rfl⟩
    x_ShareError := by
      obtain ⟨e1, e2, e3, e4⟩ := He.exc_ok (cd.fact 37 (f := .exc "ShareError") rfl)
      exact ⟨He.glo_ok X G (cd.fact 36 (f := .glo "ShareError") rfl), e1, e2, e3, e4⟩
    t_split := ⟨rfl, rfl, hT _ (by simp [htf]), by simp [tbs], by
      intro t' ht' e
      simp only [tbs, List.mem_cons, List.not_mem_nil, or_false] at ht'
      rcases ht' with rfl | rfl | rfl <;> first | rfl | (exfalso; revert e nd; simp only [He.cT]; intro nd e; simp_all)⟩
    t__law_plain := ⟨rfl, rfl, hT _ (by simp [htf]), by simp [tbs], by
      intro t' ht' e
      simp only [tbs, List.mem_cons, List.not_mem_nil, or_false] at ht'
      rcases ht' with rfl | rfl | rfl <;> first | rfl | (exfalso; revert e nd; simp only [He.cT]; intro nd e; simp_all)⟩
    t_law := ⟨rfl, rfl, hT _ (by simp [htf]), by simp [tbs], by
      intro t' ht' e
      simp only [tbs, List.mem_cons, List.not_mem_nil, or_false] at ht'
      rcases ht' with rfl | rfl | rfl <;> first | rfl | (exfalso; revert e nd; simp only [He.cT]; intro nd e; simp_all)⟩
    ex := by
      intro e he
      have he : (["ShareError"] : List Str).contains e = true := he
      simp only [List.contains_eq_mem, List.mem_cons, List.not_mem_nil, or_false, decide_eq_true_eq] at he
      subst he
      exact He.exm_ok (cd.fact 38 (f := .exm "ShareError" "ShareError" true) rfl) }
theorem law_holds (hf : ∀ ns : List Int, ns.length ≤ 63 → (∀ z ∈ ns, Builtin.Int.intBits z ≤ 1048576) → ∃ st', f_law [.lst (ns.map D.int)] [] = .ok (.bl true) st') : PySem.Challenge.rw_courtstack_k01_exact_numbers_for_courts.Holds := by
  w_on; o_law
  refine HandSHeadRun.head_any (r := hR) (q := PySem.W.view hR.prog [29]) (H := hK) (ob := hob) (M := 1400) (loose := loose) (d := HandSHeadRun.topDef hR.prog 29) (kwd := []) hob_eq
    (by kernel_rfl) (fun s => by kernel_rfl) hrun (by kernel_rfl) (by kernel_rfl) (by kernel_rfl) (by rfl)
    (by first | assumption | decide +kernel) (by decide +kernel) ⟨rfl, rfl, rfl, rfl, rfl, by decide +kernel⟩ ?hw ?hc
  case hw => w_witness2
  case hc =>
    refine LamX.walk_ofTsE (l := PySem.Challenge.rw_courtstack_k01_exact_numbers_for_courts) (n := 63) (k := 43) (x := "script") (CX := fun w => L2.CX PySem.Challenge.rw_courtstack_k01_exact_numbers_for_courts.prog w) rfl
      (by decide) (by kernel_rfl) ⟨rfl, by decide, by decide⟩ ?F (fun _ _ _ _ _ z => cx_none z)
    intro w mg fa h Y G hmg0
    obtain ⟨K, KX, c⟩ := Y
    have hmg : mg ("law" : Str) = some (.ref fa) := by
      have e : (HandSHeadRun.topDef hR.prog 29).name = ("law" : Str) := by kernel_rfl
      rw [← e]
      exact hmg0
    obtain ⟨fd, F⟩ := c.t.d.def_ 24 (d := dd_law) rfl
    have g := hmg.symm.trans (He.glo_ok KX G (c.t.d.fact 24 (f := .glo "law") rfl))
    cases g
    have hb := FunD.bindsA (ps := ["script"]) F fun _ _ _ _ _ _ us hl => match us, hl with | [_], _ => rfl
    refine ⟨K, KX, law_at (fd := fd) (T := tbs K) (L := clos) KX c (fun t ht => ?_) (fun s u => hb s [u] rfl) hf fun base KB GB hT => ?_⟩
    · simp only [tbs, List.mem_cons, List.not_mem_nil, or_false] at ht
      rcases ht with rfl | rfl | rfl
      · exact ⟨("split", none), by simp [htf], rfl⟩
      · exact ⟨("_law_plain", none), by simp [htf], rfl⟩
      · exact ⟨("law", none), by simp [htf], rfl⟩
    · have Fx := mk_facts (base := base) KX G c hT
      obtain ⟨⟨a, fd2, ps, h1, h2, h3, h4⟩, _⟩ := fs_law (P := PySem.Challenge.rw_courtstack_k01_exact_numbers_for_courts.prog) (w := w) Fx
      exact fnok_S F sc_law rfl rfl (b_law (P := PySem.Challenge.rw_courtstack_k01_exact_numbers_for_courts.prog) (w := w) Fx)
end K01
/-! K01m: what the defs of law k01 compute. -/
namespace K01
open CV PySem L2
variable {st : Sto}
/-- a fraction as the program keeps it -/
def fr (q : Rat) : D := .tup [.int q.num, .int q.den]
theorem gcd_step {l r : Int} (hl : 0 ≤ l) (hr : 0 < r) : Int.gcd r (l % r) = Int.gcd l r := by
  obtain ⟨a, rfl⟩ := Int.eq_ofNat_of_zero_le hl
  obtain ⟨b, rfl⟩ := Int.eq_ofNat_of_zero_le (Int.le_of_lt hr)
  show Nat.gcd b (a % b) = Nat.gcd a b
  rw [Nat.gcd_comm a b, Nat.gcd_rec b a, Nat.gcd_comm]
theorem share_loop (x y s : Option D) : ∀ (n : Nat) (l r : Int), 0 ≤ l → 0 ≤ r → r < n → mWhile n (tB (mBin oNe (mVar 4) (mC (.int 0)))) (sPar [3, 4] (aCons (mVar 4) (aCons (mBin oMod (mVar 3) (mVar 4)) (aNil)))) [x, y, s, some (.int l), some (.int r)] st = .nx [x, y, s, some (.int (Int.gcd l r)), some (.int 0)] st
  | 0, l, r, _, h1, h2 => by omega
  | n + 1, l, r, hl, hr, hn => by
    unfold mWhile
    by_cases h : r = 0
    · subst h
      simp [mVar, look, Int.natAbs_of_nonneg hl]
    · have hm : 0 ≤ l % r := Int.emod_nonneg _ h
      have hm2 : l % r < r := Int.emod_lt_of_pos _ (by omega)
      have ih := share_loop x y s n r (l % r) hr hm (by omega)
      rw [gcd_step hl (by omega)] at ih
      have ho : oMod (.int l) (.int r) st = .ok (.int (l % r)) st := op_mod_i (by omega)
      simp [mVar, look, h, ho, setAt, ih]
/-- the bounds of what is drawn -/
def mid (b : Int) : Prop := -1000000 < b ∧ b < 1000000
theorem gcd_pos {a b : Int} (hb : b ≠ 0) : (0 : Int) < (Int.gcd a b : Int) := by
  have := Int.gcd_pos_of_ne_zero_right a hb
  omega
theorem gcd_le {a b : Int} (hb : b ≠ 0) (h : mid b) : (Int.gcd a b : Int) < 1000000 := by
  have h1 : Int.gcd a b ∣ b.natAbs := Nat.gcd_dvd_right _ _
  have h2 := Nat.le_of_dvd (by omega) h1
  have := h.1
  have := h.2
  omega
theorem fr_divInt {a b : Int} (hb : b ≠ 0) : fr (Rat.divInt a b) = .tup [.int (b.sign * a / (Int.gcd a b : Int)), .int (b.sign * b / (Int.gcd a b : Int))] := by
  unfold fr
  rw [Rat.num_divInt, Rat.den_divInt, if_neg hb, Int.gcd_comm b a]
  have e : b.sign * b = (b.natAbs : Int) := Int.sign_mul_self b
  rw [e]
  rfl
theorem abs_eq {i : Int} : (if i < 0 then -i else i) = (i.natAbs : Int) := by
  split <;> omega
theorem share_eq {a b : Int} (hb : b ≠ 0) (h : mid b) : f_share [.int a, .int b] st = .ok (fr (Rat.divInt a b)) st := by
  rw [fr_divInt hb]
  have hg := gcd_pos (a := a) hb
  have hl := gcd_le (a := a) hb h
  have L := fun (s : Option D) (st : Sto) => share_loop (st := st) (some (.int a)) (some (.int b)) s turns (a.natAbs : Int) (b.natAbs : Int) (by omega) (by omega) (by have := h.1; have := h.2; unfold turns; omega)
  have eg : Int.gcd (a.natAbs : Int) (b.natAbs : Int) = Int.gcd a b := by simp [Int.gcd]
  rw [eg] at L
  have hd1 : ∀ (i : Int) (st : Sto), oDiv (.int i) (.int (Int.gcd a b : Int)) st = .ok (.int (i / (Int.gcd a b : Int))) st := fun i st => op_div_i hg (by omega)
  rcases Int.lt_trichotomy b 0 with hn | hz | hp
  · have hs : b.sign = -1 := Int.sign_eq_neg_one_of_neg hn
    have hnn : ¬ 0 < b := by omega
    have hm : ∀ (i : Int) (st : Sto), oMul (.int (-1)) (.int i) st = .ok (.int (-1 * i)) st := fun i st => op_mul_l (by decide)
    rw [hs]
    simp [f_share, fnP, startE, mVar, look, setAt, fAbs, abs_eq, hb, L, hnn, hm, hd1, fits]
  · exact absurd hz hb
  · have hs : b.sign = 1 := Int.sign_eq_one_of_pos hp
    have hm : ∀ (i : Int) (st : Sto), oMul (.int 1) (.int i) st = .ok (.int (1 * i)) st := fun i st => op_mul_l (by decide)
    rw [hs]
    simp [f_share, fnP, startE, mVar, look, setAt, fAbs, abs_eq, hb, L, hp, hm, hd1, fits]
theorem share_0 {a : Int} : f_share [.int a, .int 0] st = .exn "ShareError" st := by
  simp [f_share, fnP, startE, mVar, look, setAt]
end K01
/-! K01n: sums, products and the like. -/
namespace K01
open CV PySem L2
variable {st : Sto}
theorem gcd_fuel : ∀ (k n : Nat) (l r : Int), 0 ≤ l → 0 ≤ r → r < 2 ^ k → 2 * k + 1 ≤ n → ∀ st, f__law_gcd n [.int l, .int r] st = .ok (.int (Int.gcd l r)) st
  | k, 0, l, r, h1, h2, h3, h4, st => by omega
  | k, n + 1, l, r, h1, h2, h3, h4, st => by
    by_cases h : r = 0
    · subst h
      simp [f__law_gcd, fnP, startE, mVar, look, Int.natAbs_of_nonneg h1]
    · have a1 : 0 ≤ l % r := Int.emod_nonneg _ h
      have a2 : l % r < r := Int.emod_lt_of_pos _ (by omega)
      have ho : ∀ st, oMod (.int l) (.int r) st = .ok (.int (l % r)) st := fun st => op_mod_i (by omega)
      have key : ∀ st, f__law_gcd n [.int r, .int (l % r)] st = .ok (.int (Int.gcd r (l % r))) st := by
        match k, n, h3, h4 with
        | 0, _, h3, _ => omega
        | k + 1, 0, _, h4 => omega
        | k + 1, n + 1, h3, h4 =>
          intro st
          by_cases h' : l % r = 0
          · have q := gcd_fuel 0 (n + 1) r (l % r) h2 a1 (by rw [h']; decide) (by omega) st
            exact q
          · have b1 : 0 ≤ r % (l % r) := Int.emod_nonneg _ h'
            have b2 : r % (l % r) < l % r := Int.emod_lt_of_pos _ (by omega)
            have b3 : r % (l % r) < 2 ^ k := by
              have e := Int.mul_ediv_add_emod r (l % r)
              have q1 : 1 ≤ r / (l % r) := by
                rw [Int.le_ediv_iff_mul_le (by omega)]
                omega
              have q2 : (l % r) * 1 ≤ (l % r) * (r / (l % r)) := Int.mul_le_mul_of_nonneg_left q1 a1
              have q3 : (2 : Int) ^ (k + 1) = 2 * 2 ^ k := by rw [Int.pow_succ, Int.mul_comm]
              omega
            have ho2 : ∀ st, oMod (.int r) (.int (l % r)) st = .ok (.int (r % (l % r))) st := fun st => op_mod_i (by omega)
            have q := gcd_fuel k n (l % r) (r % (l % r)) a1 b1 b3 (by omega)
            rw [gcd_step h2 (by omega)] at q
            simp [f__law_gcd, fnP, startE, mVar, look, h', ho2, q]
      rw [gcd_step h1 (by omega)] at key
      simp [f__law_gcd, fnP, startE, mVar, look, h, ho, key]
theorem gcd40 {l r : Int} (h1 : 0 ≤ l) (h2 : 0 ≤ r) (h3 : r < 500000) (st : Sto) : f__law_gcd 40 [.int l, .int r] st = .ok (.int (Int.gcd l r)) st := gcd_fuel 19 40 l r h1 h2 (by omega) (by omega) st
/-- the bounds of what the law's own gcd is asked -/
def low (b : Int) : Prop := -500000 < b ∧ b < 500000
theorem low.mid {b : Int} (h : low b) : mid b := ⟨by have := h.1; omega, by have := h.2; omega⟩
theorem lshare_eq {a b : Int} (hb : b ≠ 0) (h : low b) (st : Sto) : f__law_share [.int a, .int b] st = .ok (fr (Rat.divInt a b)) st := by
  rw [fr_divInt hb]
  have hg := gcd_pos (a := a) hb
  have hl := gcd_le (a := a) hb h.mid
  have G := fun (st : Sto) => gcd40 (l := (a.natAbs : Int)) (r := (b.natAbs : Int)) (by omega) (by omega) (by have := h.1; have := h.2; omega) st
  have eg : Int.gcd (a.natAbs : Int) (b.natAbs : Int) = Int.gcd a b := by simp [Int.gcd]
  rw [eg] at G
  have hd1 : ∀ (i : Int) (st : Sto), oDiv (.int i) (.int (Int.gcd a b : Int)) st = .ok (.int (i / (Int.gcd a b : Int))) st := fun i st => op_div_i hg (by omega)
  rcases Int.lt_trichotomy b 0 with hn | hz | hp
  · have hs : b.sign = -1 := Int.sign_eq_neg_one_of_neg hn
    have hm : ∀ (i : Int) (st : Sto), oMul (.int (-1)) (.int i) st = .ok (.int (-1 * i)) st := fun i st => op_mul_l (by decide)
    rw [hs]
    simp [f__law_share, fnP, startE, mVar, look, setAt, fAbs, abs_eq, hn, G, hm, hd1, fits]
  · exact absurd hz hb
  · have hs : b.sign = 1 := Int.sign_eq_one_of_pos hp
    have hm : ∀ (i : Int) (st : Sto), oMul (.int 1) (.int i) st = .ok (.int (1 * i)) st := fun i st => op_mul_l (by decide)
    have hnn : ¬ b < 0 := by omega
    rw [hs]
    simp [f__law_share, fnP, startE, mVar, look, setAt, fAbs, abs_eq, hnn, G, hm, hd1, fits]
/-! fractions -/
theorem fr_pure {x : Rat} : D.pure (fr x) = true := rfl
theorem fr_lay {x : Rat} : D.lay 12 (fr x) = true := rfl
theorem fr_ix0 {x : Rat} : oIx (fr x) (.int 0) st = .ok (.int x.num) st := rfl
theorem fr_ix1 {x : Rat} : oIx (fr x) (.int 1) st = .ok (.int x.den) st := rfl
theorem den_pos (x : Rat) : (0 : Int) < x.den := by have := x.den_pos; omega
/-- a denominator below n -/
abbrev dn (n : Int) (x : Rat) : Prop := (x.den : Int) ≤ n
theorem sm_den {n : Int} {x : Rat} (h : dn n x) (hn : n < 18446744073709551616) : small (x.den : Int) = true := small_of (by have := den_pos x; omega) (by omega)
theorem den_mul {m n : Int} {x y : Rat} (h1 : dn m x) (h2 : dn n y) : (x.den : Int) * y.den ≤ m * n := by
  have p := den_pos x
  have q := den_pos y
  exact Int.mul_le_mul h1 h2 (by omega) (by omega)
theorem den_divInt {a b n : Int} (hb : 0 < b) (h : b ≤ n) : dn n (Rat.divInt a b) := by
  have : (Rat.divInt a b).den ≤ b.natAbs := by
    rw [Rat.den_divInt, if_neg (by omega)]
    exact Nat.div_le_self _ _
  show (((Rat.divInt a b).den : Nat) : Int) ≤ n
  omega
theorem add_divInt (x y : Rat) : Rat.divInt (x.num * y.den + y.num * x.den) (x.den * y.den) = x + y := by
  rw [Rat.add_def', ← Int.natCast_mul, Rat.divInt_ofNat]
theorem sub_divInt (x y : Rat) : Rat.divInt (x.num * y.den - y.num * x.den) (x.den * y.den) = x - y := by
  rw [Rat.sub_def', ← Int.natCast_mul, Rat.divInt_ofNat]
theorem mul_divInt (x y : Rat) : Rat.divInt (x.num * y.num) (x.den * y.den) = x * y := by
  rw [Rat.mul_def', ← Int.natCast_mul, Rat.divInt_ofNat]
theorem den_add {m n : Int} {x y : Rat} (h1 : dn m x) (h2 : dn n y) : dn (m * n) (x + y) := by
  rw [← add_divInt]
  exact den_divInt (Int.mul_pos (den_pos x) (den_pos y)) (den_mul h1 h2)
theorem den_times {m n : Int} {x y : Rat} (h1 : dn m x) (h2 : dn n y) : dn (m * n) (x * y) := by
  rw [← mul_divInt]
  exact den_divInt (Int.mul_pos (den_pos x) (den_pos y)) (den_mul h1 h2)
theorem low_of {m n : Int} {x y : Rat} (h1 : dn m x) (h2 : dn n y) (h : m * n < 500000) : low ((x.den : Int) * y.den) := by
  have p := Int.mul_pos (den_pos x) (den_pos y)
  have q := den_mul h1 h2
  exact ⟨by omega, by omega⟩
theorem ne_of {x y : Rat} : (x.den : Int) * y.den ≠ 0 := by
  have p := Int.mul_pos (den_pos x) (den_pos y)
  omega
theorem big_of {m n : Int} {x y : Rat} (h1 : dn m x) (h : m * n < 500000) (hn : 1 ≤ n) : m < 18446744073709551616 := by
  have p := den_pos x
  have : m * 1 ≤ m * n := Int.mul_le_mul_of_nonneg_left hn (by omega)
  omega
theorem plus_eq {m n : Int} {x y : Rat} (h1 : dn m x) (h2 : dn n y) (h : m * n < 500000) (st : Sto) : f_plus [fr x, fr y] st = .ok (fr (x + y)) st ∧ f__law_add [fr x, fr y] st = .ok (fr (x + y)) st := by
  have s1 := sm_den h1 (big_of (x := x) (y := y) h1 h (by have := den_pos y; omega))
  have s2 := sm_den h2 (big_of (x := y) (y := x) h2 (by rw [Int.mul_comm]; exact h) (by have := den_pos x; omega))
  have e1 := fun st => share_eq (a := x.num * y.den + y.num * x.den) (st := st) (ne_of (x := x) (y := y)) (low_of h1 h2 h).mid
  have e2 := fun st => lshare_eq (a := x.num * y.den + y.num * x.den) (ne_of (x := x) (y := y)) (low_of h1 h2 h) st
  rw [add_divInt] at e1 e2
  constructor
  · simp -implicitDefEqProofs [f_plus, fnP, startE, mVar, look, fr_ix0, fr_ix1, fr_pure, op_mul_r s2, op_mul_r s1, e1]
  · simp -implicitDefEqProofs [f__law_add, fnP, startE, mVar, look, fr_ix0, fr_ix1, fr_pure, op_mul_r s2, op_mul_r s1, e2]
theorem minus_eq {m n : Int} {x y : Rat} (h1 : dn m x) (h2 : dn n y) (h : m * n < 500000) (st : Sto) : f_minus [fr x, fr y] st = .ok (fr (x - y)) st := by
  have s1 := sm_den h1 (big_of (x := x) (y := y) h1 h (by have := den_pos y; omega))
  have s2 := sm_den h2 (big_of (x := y) (y := x) h2 (by rw [Int.mul_comm]; exact h) (by have := den_pos x; omega))
  have e1 := fun st => share_eq (a := x.num * y.den - y.num * x.den) (st := st) (ne_of (x := x) (y := y)) (low_of h1 h2 h).mid
  rw [sub_divInt] at e1
  simp -implicitDefEqProofs [f_minus, fnP, startE, mVar, look, fr_ix0, fr_ix1, fr_pure, op_mul_r s2, op_mul_r s1, e1]
theorem times_eq {m n : Int} {x y : Rat} (h1 : dn m x) (h2 : dn n y) (h : m * n < 500000) (hx : small x.num = true) (st : Sto) : f_times [fr x, fr y] st = .ok (fr (x * y)) st ∧ f__law_mul [fr x, fr y] st = .ok (fr (x * y)) st := by
  have s2 := sm_den h2 (big_of (x := y) (y := x) h2 (by rw [Int.mul_comm]; exact h) (by have := den_pos x; omega))
  have e1 := fun st => share_eq (a := x.num * y.num) (st := st) (ne_of (x := x) (y := y)) (low_of h1 h2 h).mid
  have e2 := fun st => lshare_eq (a := x.num * y.num) (ne_of (x := x) (y := y)) (low_of h1 h2 h) st
  rw [mul_divInt] at e1 e2
  constructor
  · simp -implicitDefEqProofs [f_times, fnP, startE, mVar, look, fr_ix0, fr_ix1, fr_pure, op_mul_r s2, op_mul_l hx, e1]
  · simp -implicitDefEqProofs [f__law_mul, fnP, startE, mVar, look, fr_ix0, fr_ix1, fr_pure, op_mul_r s2, op_mul_l hx, e2]
end K01
/-! K01o: the dice, and what is drawn. -/
namespace K01
open CV PySem L2
variable {st : Sto}
def Ds (st : Sto) : Prop := ∃ a b c : Int, st = [.lst [.int a, .int b, .int c]]
section
variable {a b c d : Int} {ρ : Envr}
theorem ox0 : oIx (.obj 0) (.int 0) [.lst [.int a, .int b, .int c]] = .ok (.int a) [.lst [.int a, .int b, .int c]] := rfl
theorem ox1 : oIx (.obj 0) (.int 1) [.lst [.int a, .int b, .int c]] = .ok (.int b) [.lst [.int a, .int b, .int c]] := rfl
theorem ox2 : oIx (.obj 0) (.int 2) [.lst [.int a, .int b, .int c]] = .ok (.int c) [.lst [.int a, .int b, .int c]] := rfl
theorem pt0 : putO [.lst [.int a, .int b, .int c]] 0 0 (.int d) = some [.lst [.int d, .int b, .int c]] := rfl
theorem pt1 : putO [.lst [.int a, .int b, .int c]] 0 1 (.int d) = some [.lst [.int a, .int d, .int c]] := rfl
theorem pt2 : putO [.lst [.int a, .int b, .int c]] 0 2 (.int d) = some [.lst [.int a, .int b, .int d]] := rfl
theorem ap_gSub {o i : ME} {d : D} {st : Sto} : gSub o i d ρ st = (o ρ st).bd fun x st => (i ρ st).bd fun y st => match x, y with
  | .obj a, .int k => (match putO st a k d with
    | some st' => .ok ρ st'
    | none => .fail)
  | _, _ => .fail := rfl
theorem fInt_i {i : Int} {st : Sto} : fInt [.int i] st = .ok (.int i) st := rfl
theorem fInt_b {i : Bool} {st : Sto} : fInt [.bl i] st = .ok (.int (if i then 1 else 0)) st := rfl
end
theorem roll_ok {many : Int} (h1 : 0 < many) (h2 : many ≤ 100000000) (h : Ds st) : ∃ r st', f__law_roll 2 [.obj 0, .int many] st = .ok (.int r) st' ∧ 0 ≤ r ∧ r < many ∧ Ds st' := by
  obtain ⟨a, b, c, rfl⟩ := h
  have md : ∀ (i : Int) (st : Sto), oMod (.int i) (.int many) st = .ok (.int (i % many)) st := fun i st => op_mod_i h1
  have dv : ∀ (i : Int) (st : Sto), oDiv (.int i) (.int many) st = .ok (.int (i / many)) st := fun i st => op_div_i h1 (by omega)
  have m7 : ∀ (i : Int) (st : Sto), oDiv (.int i) (.int 7) st = .ok (.int (i / 7)) st := fun i st => op_div_i (by omega) (by omega)
  have mm : ∀ (i : Int) (st : Sto), oMod (.int i) (.int 2147483647) st = .ok (.int (i % 2147483647)) st := fun i st => op_mod_i (by omega)
  have u1 : ∀ (i : Int) (st : Sto), oMul (.int i) (.int 48271) st = .ok (.int (i * 48271)) st := fun i st => op_mul_r (by decide)
  have u2 : ∀ (i : Int) (st : Sto), oMul (.int i) (.int 69621) st = .ok (.int (i * 69621)) st := fun i st => op_mul_r (by decide)
  have lo : ∀ i : Int, 0 ≤ i % many := fun i => Int.emod_nonneg _ (by omega)
  have hi : ∀ i : Int, i % many < many := fun i => Int.emod_lt_of_pos _ h1
  have nb : ¬ (100000000 < many) := by omega
  show ∃ r st', fnS 3 2 (m__law_roll (f__law_roll 1)) [.obj 0, .int many] [.lst [.int a, .int b, .int c]] = _ ∧ _
  generalize f__law_roll 1 = rec
  by_cases hc : c = 2
  · subst hc
    refine ⟨a % many, [.lst [.int (a / many), .int b, .int 2]], ?_, lo _, hi _, ⟨_, _, _, rfl⟩⟩
    simp -implicitDefEqProofs [fnS, startE, mVar, look, setAt, ox0, ox1, ox2, pt0, pt1, pt2, ap_gSub, fInt_i, md, dv]
  · by_cases hd : c = 1 ∧ 0 < a
    · obtain ⟨rfl, hd⟩ := hd
      refine ⟨a % many, [.lst [.int (a / many), .int b, .int 1]], ?_, lo _, hi _, ⟨_, _, _, rfl⟩⟩
      simp -implicitDefEqProofs [fnS, startE, mVar, look, setAt, ox0, ox1, ox2, pt0, pt1, pt2, ap_gSub, fInt_i, md, dv, hd]
    · refine ⟨((a * 48271 + b * 69621 + 11) % 2147483647) / 7 % many, [.lst [.int ((a * 48271 + b * 69621 + 11) % 2147483647), .int (b + 1), .int 0]], ?_, lo _, hi _, ⟨_, _, _, rfl⟩⟩
      by_cases h3 : c = 1
      · subst h3
        have h4 : ¬ 0 < a := fun z => hd ⟨rfl, z⟩
        simp -implicitDefEqProofs [fnS, startE, mVar, look, setAt, ox0, ox1, ox2, pt0, pt1, pt2, ap_gSub, fInt_i, md, dv, h4, m7, mm, u1, u2, nb]
      · simp -implicitDefEqProofs [fnS, startE, mVar, look, setAt, ox0, ox1, ox2, pt0, pt1, pt2, ap_gSub, fInt_i, md, dv, hc, h3, m7, mm, u1, u2, nb]
theorem num_divInt_le {a b : Int} (hb : 0 < b) : (Rat.divInt a b).num.natAbs ≤ a.natAbs := by
  obtain ⟨m, hm, e, _⟩ := Rat.divInt_num_den (n := a) (d := b) (n' := (Rat.divInt a b).num) (d' := (Rat.divInt a b).den) (z' := (Rat.divInt a b).den_nz) (c := (Rat.divInt a b).reduced) (by omega) rfl
  have q : a.natAbs = (Rat.divInt a b).num.natAbs * m.natAbs := by
    rw [← Int.natAbs_mul, ← e]
  have r : (Rat.divInt a b).num.natAbs * 1 ≤ (Rat.divInt a b).num.natAbs * m.natAbs := Nat.mul_le_mul_left _ (by omega)
  omega
/-- what is drawn: a small share -/
def Sm (x : Rat) : Prop := dn 12 x ∧ (-21 < x.num ∧ x.num < 21)
theorem Sm.small {x : Rat} (h : Sm x) : small x.num = true := small_of (by have := h.2.1; omega) (by have := h.2.2; omega)
theorem one_ok (h : Ds st) : ∃ x st', f__law_one [.obj 0] st = .ok (fr x) st' ∧ Sm x ∧ Ds st' := by
  obtain ⟨r, st1, e1, l1, u1, D1⟩ := roll_ok (many := 41) (by omega) (by omega) h
  obtain ⟨t, st2, e2, l2, u2, D2⟩ := roll_ok (many := 12) (by omega) (by omega) D1
  have hb : 1 + t ≠ 0 := by omega
  have e3 := lshare_eq (a := r - 20) hb ⟨by omega, by omega⟩ st2
  refine ⟨Rat.divInt (r - 20) (1 + t), st2, ?_, ⟨den_divInt (by omega) (by omega), ?_⟩, D2⟩
  rotate_left
  · have q := num_divInt_le (a := r - 20) (b := 1 + t) (by omega)
    constructor <;> omega
  simp -implicitDefEqProofs [f__law_one, fnS, startE, mVar, look, e1, e2, e3]
theorem look_setAt {ρ : Envr} {i j : Nat} {d : Option D} (h : i ≠ j) : look (setAt ρ i d) j = look ρ j := by
  induction ρ generalizing i j with
  | nil => rfl
  | cons x r ih =>
    cases i with
    | zero =>
      cases j with
      | zero => exact absurd rfl h
      | succ j => rfl
    | succ i =>
      cases j with
      | zero => rfl
      | succ j =>
        show look (setAt r i d) j = look r j
        exact ih (by omega)
theorem lcL_cons {g : MG} {t : MT} {e : ME} {ρ ρ' : Envr} {d x : D} {ds r : List D} {st st1 st2 st3 st4 : Sto} (h1 : g d ρ st = .ok ρ' st1) (h2 : t ρ' st1 = .ok true st2) (h3 : e ρ' st2 = .ok x st3) (h4 : lcL g t e ρ ds st3 = .ok r st4) : lcL g t e ρ (d :: ds) st = .ok (x :: r) st4 := by
  unfold lcL
  simp only [h1, h2, h3, h4]
theorem lc_draw {e : ME} {ρ : Envr} {f : Nat} {α : Type} {enc : α → D} {Z : α → Prop} (he : ∀ (d : D) st, Ds st → ∃ x st', e (setAt ρ f (some d)) st = .ok (enc x) st' ∧ Z x ∧ Ds st') :
    ∀ (ds : List D) (st : Sto), Ds st → ∃ (xs : List α) (st' : Sto), lcL (gName f) tYes e ρ ds st = .ok (xs.map enc) st' ∧ xs.length = ds.length ∧ (∀ x ∈ xs, Z x) ∧ Ds st'
  | [], st, h => ⟨[], st, rfl, rfl, (fun x m => absurd m (List.not_mem_nil)), h⟩
  | d :: ds, st, h => by
    obtain ⟨x, st1, e1, z1, D1⟩ := he d st h
    obtain ⟨xs, st2, e2, l2, z2, D2⟩ := lc_draw he ds st1 D1
    refine ⟨x :: xs, st2, lcL_cons rfl rfl e1 e2, by simp [l2], fun y m => ?_, D2⟩
    rcases List.mem_cons.mp m with rfl | m
    · exact z1
    · exact z2 y m
theorem rangeD_len {lo : Int} {n : Nat} : (rangeD lo n).length = n := by simp [rangeD]
/-- a list of n drawn things -/
theorem draw {e : ME} {a : MA} {ρ : Envr} {f : Nat} {α : Type} {enc : α → D} {Z : α → Prop} {n : Int} {st1 : Sto} (hn : n ≤ 1000) (hm : -1000 ≤ n) (ha : a ρ st = .ok [.int n] st1) (h1 : Ds st1) (he : ∀ (d : D) st, Ds st → ∃ x st', e (setAt (wipeE ρ [f]) f (some d)) st = .ok (enc x) st' ∧ Z x ∧ Ds st') :
    ∃ (xs : List α) (st' : Sto), mLc (iRange1 a) [f] (gName f) tYes e ρ st = .ok (.lst (xs.map enc)) st' ∧ xs.length = n.toNat ∧ (∀ x ∈ xs, Z x) ∧ Ds st' := by
  obtain ⟨xs, st2, e2, l2, z2, D2⟩ := lc_draw (f := f) he (rangeD 0 n.toNat) st1 h1
  refine ⟨xs, st2, ?_, by rw [l2, rangeD_len], z2, D2⟩
  have i : inLine n = true := by
    unfold inLine
    rw [Bool.and_eq_true, decide_eq_true_eq, decide_eq_true_eq]
    exact ⟨by omega, by omega⟩
  have q : fits (rangeD 0 n.toNat).length = true := by
    rw [rangeD_len]
    exact decide_eq_true (by omega)
  simp -implicitDefEqProofs only [mLc, iRange1, ha, bd_ok, i, q, e2, if_true]
end K01
/-! K01p: the turn of the law, statement by statement. -/
namespace K01
open CV PySem L2
variable {st : Sto} {ρ : Envr}
abbrev B1 : MS := sAsg (mTup (aCons (mBin oSub (mCall (f__law_roll 2) (aCons (mVar 1) (aCons (mC (.int 400)) (aNil)))) (mC (.int 200))) (aCons (mBin oSub (mCall (f__law_roll 2) (aCons (mVar 1) (aCons (mC (.int 60)) (aNil)))) (mC (.int 30))) (aNil)))) (gTup [gName 4, gName 5])
abbrev B2 : MS := sIf (tB (mBin oNe (mTold caught "ShareError" (mCall f_share (aCons (mVar 4) (aCons (mVar 5) (aNil))))) (mIf (tB (mBin oNe (mVar 5) (mC (.int 0)))) (mCall f__law_share (aCons (mVar 4) (aCons (mVar 5) (aNil)))) (mC (.str "ShareError"))))) (sRet (mC (.bl false))) (sNil)
abbrev B3 : MS := sAsg (mTup (aCons (mCall f__law_one (aCons (mVar 1) (aNil))) (aCons (mCall f__law_one (aCons (mVar 1) (aNil))) (aCons (mCall f__law_one (aCons (mVar 1) (aNil))) (aNil))))) (gTup [gName 6, gName 7, gName 8])
abbrev B4 : MS := sIf (tOr (tB (mBin oNe (mCall f_plus (aCons (mVar 6) (aCons (mVar 7) (aNil)))) (mCall f__law_add (aCons (mVar 6) (aCons (mVar 7) (aNil)))))) (tOr (tB (mBin oNe (mCall f_minus (aCons (mCall f_plus (aCons (mVar 6) (aCons (mVar 7) (aNil)))) (aCons (mVar 7) (aNil)))) (mVar 6))) (tOr (tB (mBin oNe (mCall f_times (aCons (mVar 6) (aCons (mVar 7) (aNil)))) (mCall f__law_mul (aCons (mVar 6) (aCons (mVar 7) (aNil)))))) (tB (mBin oNe (mCall f_times (aCons (mVar 6) (aCons (mCall f_plus (aCons (mVar 7) (aCons (mVar 8) (aNil)))) (aNil)))) (mCall f_plus (aCons (mCall f_times (aCons (mVar 6) (aCons (mVar 7) (aNil)))) (aCons (mCall f_times (aCons (mVar 6) (aCons (mVar 8) (aNil)))) (aNil))))))))) (sRet (mC (.bl false))) (sNil)
abbrev B5 : MS := sIf (tB (mBin oNe (mTold caught "ShareError" (mCall f_parted (aCons (mVar 6) (aCons (mVar 7) (aNil))))) (mIf (tB (mBin oNe (mBin oIx (mVar 7) (mC (.int 0))) (mC (.int 0)))) (mCall f__law_share (aCons (mBin oMul (mBin oIx (mVar 6) (mC (.int 0))) (mBin oIx (mVar 7) (mC (.int 1)))) (aCons (mBin oMul (mBin oIx (mVar 6) (mC (.int 1))) (mBin oIx (mVar 7) (mC (.int 0)))) (aNil)))) (mC (.str "ShareError"))))) (sRet (mC (.bl false))) (sNil)
abbrev B6 : MS := sPar [9, 10, 11] (aCons (mCall f_below (aCons (mVar 6) (aNil))) (aCons (mCall f_above (aCons (mVar 6) (aNil))) (aCons (mCall f_nearest (aCons (mVar 6) (aNil))) (aNil))))
abbrev B7 : MS := sIf (tOr (tNot (tB (mChain oLe oLt (mBin oMul (mVar 9) (mBin oIx (mVar 6) (mC (.int 1)))) (mBin oIx (mVar 6) (mC (.int 0))) (mBin oMul (mBin oAdd (mVar 9) (mC (.int 1))) (mBin oIx (mVar 6) (mC (.int 1))))))) (tOr (tNot (tB (mChain oLt oLe (mBin oMul (mBin oSub (mVar 10) (mC (.int 1))) (mBin oIx (mVar 6) (mC (.int 1)))) (mBin oIx (mVar 6) (mC (.int 0))) (mBin oMul (mVar 10) (mBin oIx (mVar 6) (mC (.int 1))))))) (tNot (tB (mChain oLe oLt (mBin oMul (mBin oSub (mBin oMul (mC (.int 2)) (mVar 11)) (mC (.int 1))) (mBin oIx (mVar 6) (mC (.int 1)))) (mBin oMul (mC (.int 2)) (mBin oIx (mVar 6) (mC (.int 0)))) (mBin oMul (mBin oAdd (mBin oMul (mC (.int 2)) (mVar 11)) (mC (.int 1))) (mBin oIx (mVar 6) (mC (.int 1))))))))) (sRet (mC (.bl false))) (sNil)
abbrev B8 : MS := sPar [12, 13] (aCons (mLc (iRange1 (aCons (mCall (f__law_roll 2) (aCons (mVar 1) (aCons (mC (.int 6)) (aNil)))) (aNil))) [19] (gName 19) (tYes) (mCall f__law_one (aCons (mVar 1) (aNil)))) (aCons (mTup (aCons (mC (.int 0)) (aCons (mC (.int 1)) (aNil)))) (aNil)))
abbrev B9 : MS := sFor (iSeq (mVar 12)) (gName 2) (sAsg (mCall f__law_add (aCons (mVar 13) (aCons (mVar 2) (aNil)))) (gName 13))
abbrev B10 : MS := sIf (tOr (tB (mBin oNe (mCall f_is_less (aCons (mVar 6) (aCons (mVar 7) (aNil)))) (mCall f__law_less (aCons (mVar 6) (aCons (mVar 7) (aNil)))))) (tOr (tB (mBin oNe (mCall f_sum_of (aCons (mVar 12) (aNil))) (mVar 13))) (tOr (tB (mBin oNe (mCall f_whole (aCons (mVar 4) (aNil))) (mTup (aCons (mVar 4) (aCons (mC (.int 1)) (aNil)))))) (tB (mBin oNe (mCall f_told_share (aCons (mVar 6) (aNil))) (mIf (tB (mBin oEq (mBin oIx (mVar 6) (mC (.int 1))) (mC (.int 1)))) (mCall fStr (aCons (mBin oIx (mVar 6) (mC (.int 0))) (aNil))) (mBin oAdd (mBin oAdd (mCall fStr (aCons (mBin oIx (mVar 6) (mC (.int 0))) (aNil))) (mC (.str ":"))) (mCall fStr (aCons (mBin oIx (mVar 6) (mC (.int 1))) (aNil)))))))))) (sRet (mC (.bl false))) (sNil)
abbrev B11 : MS := sAsg (mTup (aCons (mLc (iRange1 (aCons (mCall (f__law_roll 2) (aCons (mVar 1) (aCons (mC (.int 6)) (aNil)))) (aNil))) [19] (gName 19) (tYes) (mCall (f__law_roll 2) (aCons (mVar 1) (aCons (mC (.int 6)) (aNil))))) (aCons (mCall (f__law_roll 2) (aCons (mVar 1) (aCons (mC (.int 50)) (aNil)))) (aNil)))) (gTup [gName 14, gName 15])
abbrev B12 : MS := sAsg (mTold caught "ShareError" (mCall f_split (aCons (mVar 15) (aCons (mVar 14) (aNil))))) (gName 3)
abbrev B13 : MS := sIf (tB (mBin oNe (mBin oEq (mVar 3) (mC (.str "ShareError"))) (mBin oEq (mCall fSum (aCons (mVar 14) (aNil))) (mC (.int 0))))) (sRet (mC (.bl false))) (sNil)
abbrev B14 : MS := sIf (tB (mBin oNe (mVar 3) (mC (.str "ShareError")))) (sCons (sAsg (mLc (iSeq (mVar 14)) [20] (gName 20) (tYes) (mBin oDiv (mBin oMul (mVar 15) (mVar 20)) (mCall fSum (aCons (mVar 14) (aNil))))) (gName 16)) (sCons (sAsg (mLc (iSeq (mCall fSorted (aCons (mLc (iEnum (mVar 14)) [19, 20] (gTup [gName 19, gName 20]) (tYes) (mTup (aCons (mBin oSub (mBin oMul (mBin oIx (mVar 16) (mVar 19)) (mCall fSum (aCons (mVar 14) (aNil)))) (mBin oMul (mVar 15) (mVar 20))) (aCons (mVar 19) (aNil))))) (aNil)))) [21, 19] (gTup [gName 21, gName 19]) (tYes) (mVar 19)) (gName 17)) (sCons (sAsg (mSl (mVar 17) oNo (oSome (mBin oSub (mVar 15) (mCall fSum (aCons (mVar 16) (aNil)))))) (gName 18)) (sIf (tOr (tB (mBin oNe (mCall fList (aCons (mVar 3) (aNil))) (mLc (iRange1 (aCons (mCall fLen (aCons (mVar 14) (aNil))) (aNil))) [19] (gName 19) (tYes) (mBin oAdd (mBin oIx (mVar 16) (mVar 19)) (mCall fInt (aCons (mBin (oInS false) (mVar 19) (mVar 18)) (aNil))))))) (tB (mBin oNe (mCall fSum (aCons (mVar 3) (aNil))) (mVar 15)))) (sRet (mC (.bl false))) (sNil))))) (sNil)
theorem law_cut : m_law = sCons (sFor (iSeq (mCall f__law_rounds (aCons (mVar 0) (aCons (mC (.int 1)) (aNil))))) (gName 1) (sCons B1 (sCons B2 (sCons B3 (sCons B4 (sCons B5 (sCons B6 (sCons B7 (sCons B8 (sCons B9 (sCons B10 (sCons B11 (sCons B12 (sCons B13 (B14))))))))))))))) (sRet (mCall f__law_plain aNil)) := rfl
theorem caught_se : caught "ShareError" = true := by decide +kernel
theorem eqv_self_i {i : Int} : (i == i) = true := beq_self_eq_true i
theorem fr_ne {x : Rat} {st : Sto} : oNe (fr x) (fr x) st = .ok (.bl false) st := by
  rw [op_ne_of fr_lay fr_lay]
  unfold fr
  simp
theorem se_ne {st : Sto} : oNe (.str "ShareError") (.str "ShareError") st = .ok (.bl false) st := by
  rw [op_ne_of (by decide +kernel) (by decide +kernel)]
  simp
theorem se_eq {st : Sto} : oEq (.str "ShareError") (.str "ShareError") st = .ok (.bl true) st := by
  rw [op_eq_of (by decide +kernel) (by decide +kernel)]
  simp
theorem bl_ne {b : Bool} {st : Sto} : oNe (.bl b) (.bl b) st = .ok (.bl false) st := by
  rw [op_ne_of (lay_b) (lay_b)]
  simp
/-- the share of two ints, and ShareError if the second is 0 -/
theorem B2_ok {t u : Int} (h4 : look ρ 4 = some (.int t)) (h5 : look ρ 5 = some (.int u)) (hu : low u) : B2 ρ st = .nx ρ st := by
  by_cases h : u = 0
  · subst h
    simp -implicitDefEqProofs [B2, mVar, h4, h5, share_0, caught_se, se_ne]
  · have e1 := fun st => share_eq (a := t) (st := st) h hu.mid
    have e2 := fun st => lshare_eq (a := t) h hu st
    simp -implicitDefEqProofs [B2, mVar, h4, h5, h, e1, e2, fr_ne]
theorem B4_ok {x y z : Rat} (h6 : look ρ 6 = some (fr x)) (h7 : look ρ 7 = some (fr y)) (h8 : look ρ 8 = some (fr z)) (hx : Sm x) (hy : Sm y) (hz : Sm z) : B4 ρ st = .nx ρ st := by
  have e1 := fun st => (plus_eq hx.1 hy.1 (by omega) st).1
  have e2 := fun st => (plus_eq hx.1 hy.1 (by omega) st).2
  have e3 := fun st => minus_eq (den_add hx.1 hy.1) hy.1 (by omega) st
  rw [Rat.add_sub_cancel] at e3
  have e4 := fun st => (times_eq hx.1 hy.1 (by omega) hx.small st).1
  have e5 := fun st => (times_eq hx.1 hy.1 (by omega) hx.small st).2
  have e6 := fun st => (plus_eq hy.1 hz.1 (by omega) st).1
  have e7 := fun st => (times_eq hx.1 (den_add hy.1 hz.1) (by omega) hx.small st).1
  have e8 := fun st => (times_eq hx.1 hz.1 (by omega) hx.small st).1
  have e9 := fun st => (plus_eq (den_times hx.1 hy.1) (den_times hx.1 hz.1) (by omega) st).1
  rw [← Rat.mul_add] at e9
  simp -implicitDefEqProofs [B4, mVar, h6, h7, h8, e1, e2, e3, e4, e5, e6, e7, e8, e9, fr_ne]
theorem B5_ok {x y : Rat} (h6 : look ρ 6 = some (fr x)) (h7 : look ρ 7 = some (fr y)) (hx : Sm x) (hy : Sm y) : B5 ρ st = .nx ρ st := by
  by_cases h : y.num = 0
  · have e : ∀ st, f_parted [fr x, fr y] st = .exn "ShareError" st := fun st => by
      simp -implicitDefEqProofs [f_parted, fnP, startE, mVar, look, fr_ix0, fr_ix1, fr_pure, h]
    simp -implicitDefEqProofs [B5, mVar, h6, h7, e, h, caught_se, se_ne, fr_ix0]
  · have s1 := sm_den hx.1 (by omega)
    have s2 := sm_den hy.1 (by omega)
    have b1 : (x.den : Int) * y.num ≠ 0 := Int.mul_ne_zero (by have := den_pos x; omega) h
    have b2 : low ((x.den : Int) * y.num) := by
      have p := den_pos x
      have q := hx.1
      have q1 := hy.2.1
      have q2 := hy.2.2
      have r1 : (x.den : Int) * y.num ≤ x.den * 20 := Int.mul_le_mul_of_nonneg_left (by omega) (by omega)
      have r2 : (x.den : Int) * (-20) ≤ x.den * y.num := Int.mul_le_mul_of_nonneg_left (by omega) (by omega)
      constructor <;> omega
    have e1 := fun st => share_eq (a := x.num * y.den) (st := st) b1 b2.mid
    have e2 := fun st => lshare_eq (a := x.num * y.den) b1 b2 st
    have e : ∀ st, f_parted [fr x, fr y] st = .ok (fr (Rat.divInt (x.num * y.den) (x.den * y.num))) st := fun st => by
      simp -implicitDefEqProofs [f_parted, fnP, startE, mVar, look, fr_ix0, fr_ix1, fr_pure, h, e1, op_mul_r s2, op_mul_l s1]
    simp -implicitDefEqProofs [B5, mVar, h6, h7, e, h, e2, op_mul_r s2, op_mul_l s1, fr_ix0, fr_ix1, fr_ne]
/-! floors -/
def lo (x : Rat) : Int := x.num / x.den
def hi (x : Rat) : Int := 0 - (0 - x.num) / x.den
def nr (x : Rat) : Int := (2 * x.num + x.den) / (2 * x.den)
theorem B6_ok {x : Rat} (h6 : look ρ 6 = some (fr x)) (hx : Sm x) : B6 ρ st = .nx (setAt (setAt (setAt ρ 9 (some (.int (lo x)))) 10 (some (.int (hi x)))) 11 (some (.int (nr x)))) st := by
  have p := den_pos x
  have q := hx.1
  have d1 : ∀ (i : Int) (st : Sto), oDiv (.int i) (.int x.den) st = .ok (.int (i / x.den)) st := fun i st => op_div_i p (by omega)
  have d2 : ∀ (i : Int) (st : Sto), oDiv (.int i) (.int (2 * x.den)) st = .ok (.int (i / (2 * x.den))) st := fun i st => op_div_i (by omega) (by omega)
  have m2 : ∀ (i : Int) (st : Sto), oMul (.int 2) (.int i) st = .ok (.int (2 * i)) st := fun i st => op_mul_l (by decide)
  have e1 : ∀ st, f_below [fr x] st = .ok (.int (lo x)) st := fun st => by
    simp -implicitDefEqProofs [f_below, fnP, startE, mVar, look, fr_ix0, fr_ix1, fr_pure, d1, lo]
  have e2 : ∀ st, f_above [fr x] st = .ok (.int (hi x)) st := fun st => by
    simp -implicitDefEqProofs [f_above, fnP, startE, mVar, look, fr_ix0, fr_ix1, fr_pure, d1, hi]
  have e3 : ∀ st, f_nearest [fr x] st = .ok (.int (nr x)) st := fun st => by
    simp -implicitDefEqProofs [f_nearest, fnP, startE, mVar, look, fr_ix0, fr_ix1, fr_pure, d2, m2, nr]
  simp -implicitDefEqProofs [B6, mVar, h6, e1, e2, e3]
theorem floor_le (n : Int) {d : Int} (h : 0 < d) : n / d * d ≤ n ∧ n < (n / d + 1) * d := by
  have e := Int.mul_ediv_add_emod n d
  have a := Int.emod_nonneg n (show d ≠ 0 by omega)
  have b := Int.emod_lt_of_pos n h
  rw [Int.mul_comm d] at e
  rw [Int.add_mul]
  constructor <;> omega
theorem B7_ok {x : Rat} (h6 : look ρ 6 = some (fr x)) (h9 : look ρ 9 = some (.int (lo x))) (h10 : look ρ 10 = some (.int (hi x))) (h11 : look ρ 11 = some (.int (nr x))) (hx : Sm x) : B7 ρ st = .nx ρ st := by
  have p := den_pos x
  have s1 := sm_den hx.1 (by omega)
  have m2 : ∀ (i : Int) (st : Sto), oMul (.int 2) (.int i) st = .ok (.int (2 * i)) st := fun i st => op_mul_l (by decide)
  have a := floor_le x.num p
  have b := floor_le (0 - x.num) p
  have c : nr x * (2 * x.den) ≤ 2 * x.num + x.den ∧ 2 * x.num + x.den < (nr x + 1) * (2 * x.den) := floor_le (2 * x.num + x.den) (d := 2 * x.den) (by omega)
  have b1 : (hi x - 1) * x.den < x.num := by
    show (0 - (0 - x.num) / x.den - 1) * x.den < x.num
    rw [Int.sub_mul, Int.sub_mul]
    rw [Int.add_mul] at b
    omega
  have b2 : x.num ≤ hi x * x.den := by
    show x.num ≤ (0 - (0 - x.num) / x.den) * x.den
    rw [Int.sub_mul]
    omega
  have cm : nr x * (2 * x.den) = 2 * nr x * x.den := by rw [← Int.mul_assoc, Int.mul_comm (nr x) 2]
  have c1 : (2 * nr x - 1) * x.den ≤ 2 * x.num := by
    rw [Int.sub_mul, ← cm]
    have := c.1
    omega
  have c2 : 2 * x.num < (2 * nr x + 1) * x.den := by
    rw [Int.add_mul, ← cm]
    have := c.2
    rw [Int.add_mul] at this
    omega
  have a1 : lo x * x.den ≤ x.num := a.1
  have a2 : x.num < (lo x + 1) * x.den := a.2
  simp -implicitDefEqProofs [B7, mVar, h6, h9, h10, h11, fr_ix0, fr_ix1, op_mul_r s1, m2, a1, a2, b1, b2, c1, c2]
end K01
/-! K01q: sums of rows, and what is told. -/
namespace K01
open CV PySem L2
variable {st : Sto} {ρ : Envr}
theorem len_setAt {i : Nat} {d : Option D} : ∀ {ρ : Envr} {i : Nat}, (setAt ρ i d).length = ρ.length
  | [], i => by cases i <;> rfl
  | x :: r, 0 => rfl
  | x :: r, i + 1 => by
    show (setAt r i d).length + 1 = r.length + 1
    rw [len_setAt (i := i)]
theorem look_at {d : Option D} : ∀ {ρ : Envr} {i : Nat}, i < ρ.length → look (setAt ρ i d) i = d
  | [], i, h => by cases h
  | x :: r, 0, h => rfl
  | x :: r, i + 1, h => by
    show look (setAt r i d) i = d
    exact look_at (Nat.lt_of_succ_lt_succ h)
/-- environments that agree but at the slots s -/
structure Same (s : List Nat) (ρ ρ' : Envr) : Prop where
  l : ρ'.length = ρ.length
  k : ∀ j, j ∉ s → look ρ' j = look ρ j
theorem Same.refl {s : List Nat} {ρ : Envr} : Same s ρ ρ := ⟨rfl, fun _ _ => rfl⟩
theorem Same.trans {s : List Nat} {a b c : Envr} (h1 : Same s a b) (h2 : Same s b c) : Same s a c := ⟨h2.l.trans h1.l, fun j h => (h2.k j h).trans (h1.k j h)⟩
theorem Same.set {s : List Nat} {ρ : Envr} {i : Nat} {d : Option D} (h : i ∈ s) : Same s ρ (setAt ρ i d) := ⟨len_setAt (i := i), fun j hj => look_setAt fun z => hj (by rw [← z]; exact h)⟩
def sumR (t : Rat) (xs : List Rat) : Rat := xs.foldl (· + ·) t
theorem lt_of_pow {n : Int} {k : Nat} (h0 : 0 < n) (h : n * 12 ^ (k + 1) < 500000) : n * 12 < 500000 ∧ n * 12 * 12 ^ k < 500000 := by
  have e : n * 12 ^ (k + 1) = n * 12 * 12 ^ k := by rw [Int.pow_succ, Int.mul_comm (12 ^ k), Int.mul_assoc]
  have p : (1 : Int) ≤ 12 ^ k := by
    have := Int.pow_pos (n := 12) (m := k) (by omega)
    omega
  have q : n * 12 * 1 ≤ n * 12 * 12 ^ k := Int.mul_le_mul_of_nonneg_left p (by omega)
  rw [e] at h
  constructor <;> omega
/-- a walk that adds -/
theorem add_walk {f : FnS} {v w : Nat} (hvw : v ≠ w) (hf : ∀ {m n : Int} {x y : Rat}, dn m x → dn n y → m * n < 500000 → ∀ st, f [fr x, fr y] st = .ok (fr (x + y)) st) :
    ∀ (xs : List Rat) (n : Int) (t : Rat) (ρ : Envr) (st : Sto), dn n t → n * 12 ^ xs.length < 500000 → (∀ x ∈ xs, dn 12 x) → look ρ v = some (fr t) → v < ρ.length → w < ρ.length → ∃ ρ', sForL (CV.gName w) (sAsg (mCall f (aCons (mVar v) (aCons (mVar w) (aNil)))) (CV.gName v)) (xs.map fr) ρ st = .nx ρ' st ∧ look ρ' v = some (fr (sumR t xs)) ∧ Same [v, w] ρ ρ'
  | [], n, t, ρ, st, h1, h2, h3, h4, h5, h6 => ⟨ρ, rfl, h4, Same.refl⟩
  | x :: xs, n, t, ρ, st, h1, h2, h3, h4, h5, h6 => by
    have p := den_pos t
    have ⟨q1, q2⟩ := lt_of_pow (n := n) (by omega) h2
    have hx := h3 x List.mem_cons_self
    have e1 := hf h1 hx q1
    have s1 : Same [v, w] ρ (setAt (setAt ρ w (some (fr x))) v (some (fr (t + x)))) := (Same.set (by simp)).trans (Same.set (by simp))
    obtain ⟨ρ', e2, l2, s2⟩ := add_walk hvw hf xs (n * 12) (t + x) (setAt (setAt ρ w (some (fr x))) v (some (fr (t + x)))) st (den_add h1 hx) q2 (fun y m => h3 y (List.mem_cons_of_mem _ m)) (look_at (by rw [len_setAt (i := w)]; exact h5)) (by rw [s1.l]; exact h5) (by rw [s1.l]; exact h6)
    refine ⟨ρ', ?_, l2, s1.trans s2⟩
    have a1 : look (setAt ρ w (some (fr x))) v = some (fr t) := (look_setAt (Ne.symm hvw)).trans h4
    have a2 : look (setAt ρ w (some (fr x))) w = some (fr x) := look_at h6
    rw [← e2, List.map_cons]
    conv => lhs; unfold sForL
    simp -implicitDefEqProofs only [ap_gName, bs_ok, ap_sAsg, ap_call, ap_cons, ap_nil, bd_ok, mVar, a1, a2, e1]
theorem pures_fr {xs : List Rat} : D.pures (xs.map fr) = true := by
  induction xs with
  | nil => rfl
  | cons x xs ih => simp [fr_pure, ih]
theorem sum_of_eq {xs : List Rat} (hl : xs.length ≤ 5) (h : ∀ x ∈ xs, dn 12 x) (st : Sto) : f_sum_of [.lst (xs.map fr)] st = .ok (fr (sumR 0 xs)) st := by
  have b : (1 : Int) * 12 ^ xs.length < 500000 := by
    have : (12 : Int) ^ xs.length ≤ 12 ^ 5 := by
      have := Nat.pow_le_pow_right (n := 12) (by omega) hl
      exact_mod_cast this
    omega
  obtain ⟨ρ', e, l, s⟩ := add_walk (f := f_plus) (v := 1) (w := 2) (by omega) (fun h1 h2 h3 st => (plus_eq h1 h2 h3 st).1) xs 1 0 [some (.lst (xs.map fr)), some (fr 0), none] [] (by decide) b h rfl (by simp) (by simp)
  have z : fr 0 = .tup [.int 0, .int 1] := rfl
  rw [z] at e
  simp -implicitDefEqProofs [f_sum_of, fnP, startE, iSeq, mVar, look, setAt, pures_fr, e, l, fits, fr_pure]
theorem B9_ok {xs : List Rat} (h12 : look ρ 12 = some (.lst (xs.map fr))) (h13 : look ρ 13 = some (fr 0)) (hn : ρ.length = 22) (hl : xs.length ≤ 5) (h : ∀ x ∈ xs, dn 12 x) : ∃ ρ', B9 ρ st = .nx ρ' st ∧ look ρ' 13 = some (fr (sumR 0 xs)) ∧ Same [13, 2] ρ ρ' := by
  have b : (1 : Int) * 12 ^ xs.length < 500000 := by
    have : (12 : Int) ^ xs.length ≤ 12 ^ 5 := by
      have := Nat.pow_le_pow_right (n := 12) (by omega) hl
      exact_mod_cast this
    omega
  obtain ⟨ρ', e, l, s⟩ := add_walk (f := f__law_add) (v := 13) (w := 2) (by omega) (fun h1 h2 h3 st => (plus_eq h1 h2 h3 st).2) xs 1 0 ρ st (by decide) b h h13 (by omega) (by omega)
  refine ⟨ρ', ?_, l, s⟩
  simp -implicitDefEqProofs [B9, iSeq, mVar, h12, e]
end K01
/-! K01r: what is drawn in a turn, and what is told of a share. -/
namespace K01
open CV PySem L2
variable {st : Sto} {ρ : Envr}
/-- the text of a share -/
def toldR (n d : Int) : Str := if d = 1 then (toString n : String) else Str.ofString (toString n) ++ Str.ofString ":" ++ Str.ofString (toString d)
def toldOk (n d : Int) : Bool := shortI n && (shortI d && (fits ((Str.ofString (toString n)).length + (Str.ofString ":").length) && (fits ((Str.ofString (toString n) ++ Str.ofString ":").length + (Str.ofString (toString d)).length) && (PyData.strOk (toldR n d) && match f_told_share [.tup [.int n, .int d]] [] with
  | .ok (.str a) [] => a == toldR n d
  | _ => false))))
theorem told_all : ((List.range 41).all fun n => (List.range 12).all fun d => toldOk ((n : Int) - 20) ((d : Int) + 1)) = true := by decide +kernel
theorem told_at {x : Rat} (h : Sm x) : toldOk x.num x.den = true := by
  have p := den_pos x
  have q := h.1
  have l := h.2.1
  have u := h.2.2
  have a := told_all
  rw [List.all_eq_true] at a
  have b := a (x.num + 20).toNat (List.mem_range.mpr (by omega))
  rw [List.all_eq_true] at b
  have c := b (x.den - 1) (List.mem_range.mpr (by omega))
  have e1 : (((x.num + 20).toNat : Nat) : Int) - 20 = x.num := by omega
  have e2 : (((x.den - 1 : Nat)) : Int) + 1 = x.den := by omega
  rw [e1, e2] at c
  exact c
theorem fnP_st {n k : Nat} {b : MS} {ds : List D} {d : D} (h : fnP n k b ds [] = .ok d []) (st : Sto) : fnP n k b ds st = .ok d st := by
  unfold fnP at h ⊢
  by_cases q : (ds.length == k && D.pures ds) = true
  · rw [if_pos q] at h ⊢
    cases e : b (startE n ds) [] with
    | rt d' s' =>
      simp only [e] at h ⊢
      by_cases p : d'.pure = true
      · rw [if_pos p] at h ⊢
        cases h
        rfl
      · rw [if_neg p] at h
        cases h
    | nx a s' =>
      simp only [e] at h ⊢
      cases h
      rfl
    | bk a s' => simp only [e] at h; cases h
    | ct a s' => simp only [e] at h; cases h
    | exn a s' => simp only [e] at h; cases h
    | fail => simp only [e] at h; cases h
  · rw [if_neg q] at h
    cases h
theorem str_ne {a : Str} (h : PyData.strOk a = true) : oNe (.str a) (.str a) st = .ok (.bl false) st := by
  rw [op_ne_of (by show PyData.strOk a = true; exact h) (by show PyData.strOk a = true; exact h)]
  simp
theorem told_share_ok {x : Rat} (h : Sm x) : (∀ st, f_told_share [fr x] st = .ok (.str (toldR x.num x.den)) st) ∧ shortI x.num = true ∧ shortI x.den = true ∧ fits ((Str.ofString (toString x.num)).length + (Str.ofString ":").length) = true ∧ fits ((Str.ofString (toString x.num) ++ Str.ofString ":").length + (Str.ofString (toString (x.den : Int))).length) = true ∧ PyData.strOk (toldR x.num x.den) = true := by
  have a := told_at h
  unfold toldOk at a
  simp only [Bool.and_eq_true] at a
  obtain ⟨a1, a2, a3, a4, a5, a6⟩ := a
  refine ⟨fun st => ?_, a1, a2, a3, a4, a5⟩
  refine fnP_st ?_ st
  show f_told_share [.tup [.int x.num, .int x.den]] [] = _
  split at a6
  · rename_i a e
    rw [e, eq_of_beq a6]
  · cases a6
theorem B10_ok {x y : Rat} {xs : List Rat} {t : Int} (h6 : look ρ 6 = some (fr x)) (h7 : look ρ 7 = some (fr y)) (h4 : look ρ 4 = some (.int t)) (h12 : look ρ 12 = some (.lst (xs.map fr))) (h13 : look ρ 13 = some (fr (sumR 0 xs))) (hx : Sm x) (hy : Sm y) (hl : xs.length ≤ 5) (h : ∀ x ∈ xs, dn 12 x) : B10 ρ st = .nx ρ st := by
  have s1 := sm_den hx.1 (by omega)
  have s2 := sm_den hy.1 (by omega)
  have e1 : ∀ st, f_is_less [fr x, fr y] st = .ok (.bl (decide (x.num * y.den < y.num * x.den))) st := fun st => by
    simp -implicitDefEqProofs [f_is_less, fnP, startE, mVar, look, fr_ix0, fr_ix1, fr_pure, op_mul_r s1, op_mul_r s2, D.pure]
  have e2 : ∀ st, f__law_less [fr x, fr y] st = .ok (.bl (decide (x.num * y.den < y.num * x.den))) st := fun st => by
    simp -implicitDefEqProofs [f__law_less, fnP, startE, mVar, look, fr_ix0, fr_ix1, fr_pure, op_mul_r s1, op_mul_r s2, D.pure]
  have e3 := sum_of_eq hl h
  have e4 : ∀ st, f_whole [.int t] st = .ok (.tup [.int t, .int 1]) st := fun st => by
    simp -implicitDefEqProofs [f_whole, fnP, startE, mVar, look, fits]
  obtain ⟨e5, b1, b2, b3, b4, b5⟩ := told_share_ok hx
  have e6 : ∀ st, oNe (.tup [.int t, .int 1]) (.tup [.int t, .int 1]) st = .ok (.bl false) st := fun st => by
    rw [op_ne_of rfl rfl]
    simp
  have e7 : ∀ st, oAdd (.str (Str.ofString (toString x.num))) (.str (Str.ofString ":")) st = .ok (.str (Str.ofString (toString x.num) ++ Str.ofString ":")) st := fun st => if_pos b3
  have e8 : ∀ st, oAdd (.str (Str.ofString (toString x.num) ++ Str.ofString ":")) (.str (Str.ofString (toString (x.den : Int)))) st = .ok (.str (Str.ofString (toString x.num) ++ Str.ofString ":" ++ Str.ofString (toString (x.den : Int)))) st := fun st => if_pos b4
  have f1 : ∀ st, fStr [.int x.num] st = .ok (.str (Str.ofString (toString x.num))) st := fun st => if_pos b1
  have f2 : ∀ st, fStr [.int x.den] st = .ok (.str (Str.ofString (toString (x.den : Int)))) st := fun st => if_pos b2
  have e9 := fun st => str_ne (st := st) b5
  by_cases hd : (x.den : Int) = 1
  · have w : toldR x.num x.den = Str.ofString (toString x.num) := if_pos hd
    rw [w] at e5 e9
    generalize Str.ofString (toString x.num) = wa at e5 e9 f1
    simp -implicitDefEqProofs [B10, mVar, h6, h7, h4, h12, h13, e1, e2, e3, e4, e5, e6, f1, hd, e9, bl_ne, fr_ne, fr_ix0, fr_ix1, fits]
  · have w : toldR x.num x.den = Str.ofString (toString x.num) ++ Str.ofString ":" ++ Str.ofString (toString (x.den : Int)) := if_neg hd
    rw [w] at e5 e9
    generalize Str.ofString (toString x.num) = wa at e5 e7 e8 e9 f1
    generalize Str.ofString (toString (x.den : Int)) = wb at e5 e8 e9 f2
    simp -implicitDefEqProofs [B10, mVar, h6, h7, h4, h12, h13, e1, e2, e3, e4, e5, e6, f1, f2, hd, e7, e8, e9, bl_ne, fr_ne, fr_ix0, fr_ix1, fits]
/-! draws -/
theorem B1_ok (h1 : look ρ 1 = some (.obj 0)) (h : Ds st) : ∃ t u st', B1 ρ st = .nx (setAt (setAt ρ 4 (some (.int t))) 5 (some (.int u))) st' ∧ low u ∧ Ds st' := by
  obtain ⟨r, st1, e1, l1, u1, D1⟩ := roll_ok (many := 400) (by omega) (by omega) h
  obtain ⟨t, st2, e2, l2, u2, D2⟩ := roll_ok (many := 60) (by omega) (by omega) D1
  refine ⟨r - 200, t - 30, st2, ?_, ⟨by omega, by omega⟩, D2⟩
  simp -implicitDefEqProofs [B1, mVar, h1, e1, e2, fits]
theorem B3_ok (h1 : look ρ 1 = some (.obj 0)) (h : Ds st) : ∃ x y z st', B3 ρ st = .nx (setAt (setAt (setAt ρ 6 (some (fr x))) 7 (some (fr y))) 8 (some (fr z))) st' ∧ Sm x ∧ Sm y ∧ Sm z ∧ Ds st' := by
  obtain ⟨x, st1, e1, s1, D1⟩ := one_ok h
  obtain ⟨y, st2, e2, s2, D2⟩ := one_ok D1
  obtain ⟨z, st3, e3, s3, D3⟩ := one_ok D2
  refine ⟨x, y, z, st3, ?_, s1, s2, s3, D3⟩
  simp -implicitDefEqProofs [B3, mVar, h1, e1, e2, e3, fits]
theorem B8_ok (h1 : look ρ 1 = some (.obj 0)) (h : Ds st) : ∃ (xs : List Rat) (st' : Sto), B8 ρ st = .nx (setAt (setAt ρ 12 (some (.lst (xs.map fr)))) 13 (some (fr 0))) st' ∧ xs.length ≤ 5 ∧ (∀ x ∈ xs, Sm x) ∧ Ds st' := by
  obtain ⟨r, st1, e1, l1, u1, D1⟩ := roll_ok (many := 6) (by omega) (by omega) h
  have ha : (aCons (mCall (f__law_roll 2) (aCons (mVar 1) (aCons (mC (.int 6)) (aNil)))) (aNil)) ρ st = .ok [.int r] st1 := by
    simp -implicitDefEqProofs [mVar, h1, e1]
  obtain ⟨xs, st2, e2, n2, z2, D2⟩ := draw (e := mCall f__law_one (aCons (mVar 1) (aNil))) (f := 19) (enc := fr) (Z := Sm) (by omega) (by omega) ha D1 (fun d st hD => by
    obtain ⟨x, st', e, s, D⟩ := one_ok hD
    refine ⟨x, st', ?_, s, D⟩
    have w : look (setAt (wipeE ρ [19]) 19 (some d)) 1 = some (.obj 0) := by
      rw [look_setAt (by omega)]
      show look (setAt ρ 19 none) 1 = _
      rw [look_setAt (by omega), h1]
    simp -implicitDefEqProofs [mVar, w, e])
  refine ⟨xs, st2, ?_, by omega, z2, D2⟩
  have z : (D.tup [.int 0, .int 1]) = fr 0 := rfl
  simp -implicitDefEqProofs [B8, e2, fits, z]
theorem B11_ok (h1 : look ρ 1 = some (.obj 0)) (h : Ds st) : ∃ (ps : List Int) (n : Int) (st' : Sto), B11 ρ st = .nx (setAt (setAt ρ 14 (some (.lst (ps.map D.int)))) 15 (some (.int n))) st' ∧ ps.length ≤ 5 ∧ (∀ p ∈ ps, 0 ≤ p ∧ p < 6) ∧ 0 ≤ n ∧ n < 50 ∧ Ds st' := by
  obtain ⟨r, st1, e1, l1, u1, D1⟩ := roll_ok (many := 6) (by omega) (by omega) h
  have ha : (aCons (mCall (f__law_roll 2) (aCons (mVar 1) (aCons (mC (.int 6)) (aNil)))) (aNil)) ρ st = .ok [.int r] st1 := by
    simp -implicitDefEqProofs [mVar, h1, e1]
  obtain ⟨xs, st2, e2, n2, z2, D2⟩ := draw (e := mCall (f__law_roll 2) (aCons (mVar 1) (aCons (mC (.int 6)) (aNil)))) (f := 19) (enc := D.int) (Z := fun p => 0 ≤ p ∧ p < 6) (by omega) (by omega) ha D1 (fun d st hD => by
    obtain ⟨x, st', e, s1, s2, D⟩ := roll_ok (many := 6) (by omega) (by omega) hD
    refine ⟨x, st', ?_, ⟨s1, s2⟩, D⟩
    have w : look (setAt (wipeE ρ [19]) 19 (some d)) 1 = some (.obj 0) := by
      rw [look_setAt (by omega)]
      show look (setAt ρ 19 none) 1 = _
      rw [look_setAt (by omega), h1]
    simp -implicitDefEqProofs [mVar, w, e])
  obtain ⟨n, st3, e3, l3, u3, D3⟩ := roll_ok (many := 50) (by omega) (by omega) D2
  refine ⟨xs, n, st3, ?_, by omega, z2, l3, u3, D3⟩
  simp -implicitDefEqProofs [B11, e2, fits, mVar, h1, e3]
end K01
/-! K01s: lists of ints, places, sorting of pairs. -/
namespace K01
open CV PySem L2
variable {st : Sto} {ρ : Envr}
abbrev Ints (l : List Int) : List D := l.map D.int
theorem ints_of : ∀ {l : List Int}, intsOf (Ints l) = some l
  | [] => rfl
  | i :: l => by
    show (intsOf (Ints l)).map (i :: ·) = _
    rw [ints_of]
    rfl
theorem pures_ints {l : List Int} : D.pures (Ints l) = true := by
  induction l with
  | nil => rfl
  | cons x xs ih => simpa [Ints] using ih
theorem lays_ints {n : Nat} {l : List Int} : D.lays n (Ints l) = true := by
  induction l with
  | nil => simp
  | cons x xs ih => simpa [Ints] using ih
theorem eqvs_ints {l : List Int} : eqvs (Ints l) (Ints l) = true := by
  induction l with
  | nil => rfl
  | cons x xs ih => simpa [Ints] using ih
theorem fSum_l {l : List Int} {st : Sto} : fSum [.lst (Ints l)] st = .ok (.int l.sum) st := by
  show (match intsOf (Ints l) with
    | some ns => .ok (.int ns.sum) st
    | none => .fail : R D) = _
  rw [ints_of]
theorem fSum_t {l : List Int} {st : Sto} : fSum [.tup (Ints l)] st = .ok (.int l.sum) st := by
  show (match intsOf (Ints l) with
    | some ns => .ok (.int ns.sum) st
    | none => .fail : R D) = _
  rw [ints_of]
theorem fSum_o {l : List Int} : fSum [.obj 0] [.lst (Ints l)] = .ok (.int l.sum) [.lst (Ints l)] := by
  show (match intsOf (Ints l) with
    | some ns => .ok (.int ns.sum) _
    | none => .fail : R D) = _
  rw [ints_of]
theorem fLen_l {l : List Int} {st : Sto} : fLen [.lst (Ints l)] st = .ok (.int l.length) st := by
  show R.ok (D.int (Ints l).length) st = _
  simp [Ints]
theorem fold_min {l : List Int} : ∀ {m : Int}, 0 ≤ m → (∀ p ∈ l, 0 ≤ p) → 0 ≤ l.foldl min m := by
  induction l with
  | nil => exact fun h _ => h
  | cons x xs ih =>
    intro m h k
    have := k x List.mem_cons_self
    exact ih (by omega) fun p hp => k p (List.mem_cons_of_mem _ hp)
theorem fMin_l {l : List Int} {st : Sto} (h : l ≠ []) (k : ∀ p ∈ l, 0 ≤ p) : ∃ m, fMin [.lst (Ints l)] st = .ok (.int m) st ∧ 0 ≤ m := by
  cases l with
  | nil => exact absurd rfl h
  | cons x xs =>
    refine ⟨xs.foldl min x, ?_, fold_min (k x List.mem_cons_self) fun p hp => k p (List.mem_cons_of_mem _ hp)⟩
    show (match intsOf (Ints (x :: xs)) with
      | some (n :: ns) => .ok (.int (ns.foldl min n)) st
      | _ => .fail : R D) = _
    rw [ints_of]
/-! comprehensions without a store -/
theorem lcL_map {g : MG} {t : MT} {e : ME} {ρ : Envr} {st : Sto} {F : D → D} : ∀ {ds : List D}, (∀ d ∈ ds, ∃ ρ', g d ρ st = .ok ρ' st ∧ t ρ' st = .ok true st ∧ e ρ' st = .ok (F d) st) → lcL g t e ρ ds st = .ok (ds.map F) st
  | [], _ => rfl
  | d :: ds, h => by
    obtain ⟨ρ', h1, h2, h3⟩ := h d List.mem_cons_self
    exact lcL_cons h1 h2 h3 (lcL_map fun d hd => h d (List.mem_cons_of_mem _ hd))
theorem lcS_map {g : MG} {t : MT} {e : ME} {ρ : Envr} {st : Sto} {F : D → D} : ∀ {ds : List D}, (∀ d ∈ ds, ∃ ρ', g d ρ st = .ok ρ' st ∧ t ρ' st = .ok true st ∧ e ρ' st = .ok (F d) st) → lcS g t e ρ ds st = .ok (ds.map fun d => (F d, st)) st
  | [], _ => rfl
  | d :: ds, h => by
    obtain ⟨ρ', h1, h2, h3⟩ := h d List.mem_cons_self
    have ih := lcS_map (F := F) (g := g) (t := t) (e := e) (ρ := ρ) (st := st) (ds := ds) fun d hd => h d (List.mem_cons_of_mem _ hd)
    unfold lcS
    simp only [h1, h2, h3, ih, List.map_cons]
/-! pairs of a key and a place -/
abbrev T (p : Int × Nat) : D := .tup [.int p.1, .int (p.2 : Int)]
theorem insBy_map {α β : Type} {le : β → β → Bool} {f : α → β} {x : α} : ∀ {l : List α}, insBy le (f x) (l.map f) = (insBy (fun a b => le (f a) (f b)) x l).map f
  | [] => rfl
  | b :: r => by
    rw [List.map_cons]
    unfold insBy
    by_cases h : le (f x) (f b) = true
    · rw [if_pos h, if_pos h]
      rfl
    · rw [if_neg h, if_neg h, insBy_map]
      rfl
theorem sortBy_map {α β : Type} {le : β → β → Bool} {f : α → β} : ∀ {l : List α}, sortBy le (l.map f) = (sortBy (fun a b => le (f a) (f b)) l).map f
  | [] => rfl
  | b :: r => by
    rw [List.map_cons]
    unfold sortBy
    rw [sortBy_map, insBy_map]
theorem insBy_perm {α : Type} {le : α → α → Bool} {x : α} : ∀ {l : List α}, (insBy le x l).Perm (x :: l)
  | [] => List.Perm.refl _
  | b :: r => by
    unfold insBy
    by_cases h : le x b = true
    · rw [if_pos h]
    · rw [if_neg h]
      exact (List.Perm.cons b insBy_perm).trans (List.Perm.swap x b r)
theorem sortBy_perm {α : Type} {le : α → α → Bool} : ∀ {l : List α}, (sortBy le l).Perm l
  | [] => List.Perm.refl _
  | b :: r => by
    unfold sortBy
    exact insBy_perm.trans (List.Perm.cons b sortBy_perm)
def sortT (l : List (Int × Nat)) : List (Int × Nat) := sortBy (fun a b => leD (T a) (T b)) l
theorem sortD_T {l : List (Int × Nat)} : sortD (l.map T) = (sortT l).map T := sortBy_map
theorem alike_T (a b : Int × Nat) : PySem.W.alike (T a).py (T b).py = true := rfl
theorem sortOk_T {l : List (Int × Nat)} : sortOk (l.map T) = true := by
  unfold sortOk
  rw [Bool.and_eq_true, Bool.and_eq_true, Bool.or_eq_true]
  refine ⟨?_, ?_, .inl ?_⟩
  · rw [List.all_eq_true]
    intro d hd
    obtain ⟨a, _, rfl⟩ := List.mem_map.mp hd
    rfl
  · rw [List.all_eq_true]
    intro d hd
    rw [List.all_eq_true]
    intro d' hd'
    obtain ⟨a, _, rfl⟩ := List.mem_map.mp hd
    obtain ⟨b, _, rfl⟩ := List.mem_map.mp hd'
    exact alike_T a b
  · rw [List.all_eq_true]
    intro d hd
    obtain ⟨a, _, rfl⟩ := List.mem_map.mp hd
    rfl
/-- the places, and the parts there -/
def en : Nat → List Int → List (Nat × Int)
  | _, [] => []
  | k, p :: ps => (k, p) :: en (k + 1) ps
theorem enumD_en : ∀ {k : Nat} {ps : List Int}, enumD k (Ints ps) = (en k ps).map fun q => .tup [.int (q.1 : Int), .int q.2]
  | _, [] => rfl
  | k, p :: ps => by
    show D.tup [.int (k : Int), .int p] :: enumD (k + 1) (Ints ps) = _
    rw [enumD_en]
    rfl
theorem en_fst : ∀ {k : Nat} {ps : List Int}, (en k ps).map (·.1) = List.range' k ps.length
  | _, [] => rfl
  | k, p :: ps => by
    show k :: (en (k + 1) ps).map (·.1) = _
    rw [en_fst]
    rfl
theorem en_at : ∀ {k : Nat} {ps : List Int} {q : Nat × Int}, q ∈ en k ps → ∃ j, q.1 = k + j ∧ ps[j]? = some q.2
  | _, [], q, h => by cases h
  | k, p :: ps, q, h => by
    rcases List.mem_cons.mp h with rfl | h
    · exact ⟨0, rfl, rfl⟩
    · obtain ⟨j, h1, h2⟩ := en_at h
      exact ⟨j + 1, by omega, h2⟩
theorem en_len {k : Nat} {ps : List Int} : (en k ps).length = ps.length := by
  have := congrArg List.length (en_fst (k := k) (ps := ps))
  simpa using this
/-! one more at some places -/
def bump : List Int → List Nat → List Int
  | fs, [] => fs
  | fs, k :: ks => bump (fs.set k (fs.getD k 0 + 1)) ks
theorem bump_len : ∀ {ks : List Nat} {fs : List Int}, (bump fs ks).length = fs.length
  | [], fs => rfl
  | k :: ks, fs => by
    unfold bump
    rw [bump_len, List.length_set]
theorem getD_set {fs : List Int} {k j : Nat} {v : Int} (h : j < fs.length) : (fs.set k v).getD j 0 = if k = j then v else fs.getD j 0 := by
  rw [List.getD_eq_getElem?_getD, List.getD_eq_getElem?_getD, List.getElem?_set]
  by_cases q : k = j
  · subst q
    simp [h]
  · simp [q]
theorem bump_at : ∀ {ks : List Nat} {fs : List Int} {j : Nat}, j < fs.length → ks.Nodup → (bump fs ks).getD j 0 = fs.getD j 0 + (if j ∈ ks then 1 else 0)
  | [], fs, j, h, _ => by simp [bump]
  | k :: ks, fs, j, h, nd => by
    unfold bump
    rw [bump_at (by rw [List.length_set]; exact h) (List.nodup_cons.mp nd).2, getD_set h]
    by_cases q : k = j
    · subst q
      have := (List.nodup_cons.mp nd).1
      simp [this]
    · have q' : ¬ j = k := fun z => q z.symm
      simp [q, q']
theorem sum_set {fs : List Int} {k : Nat} (h : k < fs.length) (v : Int) : (fs.set k v).sum = fs.sum - fs.getD k 0 + v := by
  induction fs generalizing k with
  | nil => simp at h
  | cons x xs ih =>
    cases k with
    | zero =>
      simp
      omega
    | succ k =>
      have := ih (k := k) (by simpa using h)
      simp at this ⊢
      omega
theorem bump_sum : ∀ {ks : List Nat} {fs : List Int}, (∀ k ∈ ks, k < fs.length) → (bump fs ks).sum = fs.sum + ks.length
  | [], fs, _ => by simp [bump]
  | k :: ks, fs, h => by
    unfold bump
    rw [bump_sum (by
      intro j hj
      rw [List.length_set]
      exact h j (List.mem_cons_of_mem _ hj)), sum_set (h k List.mem_cons_self)]
    simp only [List.length_cons]
    omega
theorem bump_eq {ks : List Nat} {fs : List Int} (nd : ks.Nodup) : (List.range fs.length).map (fun j => fs.getD j 0 + (if j ∈ ks then 1 else 0)) = bump fs ks := by
  refine List.ext_getElem (by simp [bump_len]) fun j h1 h2 => ?_
  have hj : j < fs.length := by simpa using h1
  have e := bump_at hj nd
  rw [List.getD_eq_getElem?_getD, List.getElem?_eq_getElem h2] at e
  simp only [List.getElem_map, List.getElem_range]
  exact e.symm
end K01
/-! K01t: splitting. -/
namespace K01
open CV PySem L2
variable {st : Sto} {ρ : Envr}
def fl (N S : Int) (ps : List Int) : List Int := ps.map fun p => N * p / S
def keys (N S : Int) (ps : List Int) : List (Int × Nat) := (en 0 ps).map fun q => (0 - N * q.2 % S, q.1)
def ord (N S : Int) (ps : List Int) : List (Int × Nat) := sortT (keys N S ps)
def left (N S : Int) (ps : List Int) : Int := N - (fl N S ps).sum
def best (N S : Int) (ps : List Int) : List Nat := ((ord N S ps).take (left N S ps).toNat).map (·.2)
def dealt (N S : Int) (ps : List Int) : List Int := bump (fl N S ps) (best N S ps)
theorem fl_len {N S : Int} {ps : List Int} : (fl N S ps).length = ps.length := by simp [fl]
theorem ord_perm {N S : Int} {ps : List Int} : (ord N S ps).Perm (keys N S ps) := sortBy_perm
theorem ord_snd {N S : Int} {ps : List Int} : ((ord N S ps).map (·.2)).Perm (List.range ps.length) := by
  have e : (keys N S ps).map (·.2) = List.range ps.length := by
    rw [List.range_eq_range', ← en_fst (k := 0) (ps := ps)]
    unfold keys
    rw [List.map_map]
    rfl
  rw [← e]
  exact ord_perm.map _
theorem ord_len {N S : Int} {ps : List Int} : (ord N S ps).length = ps.length := by
  have := (ord_snd (N := N) (S := S) (ps := ps)).length_eq
  simpa using this
theorem best_sub {N S : Int} {ps : List Int} : (best N S ps).Sublist ((ord N S ps).map (·.2)) := (List.take_sublist _ _).map _
theorem best_nd {N S : Int} {ps : List Int} : (best N S ps).Nodup := (ord_snd.nodup_iff.mpr List.nodup_range).sublist best_sub
theorem best_lt {N S : Int} {ps : List Int} : ∀ k ∈ best N S ps, k < ps.length := fun k h => List.mem_range.mp (ord_snd.mem_iff.mp (best_sub.mem h))
theorem rests {N S : Int} (hS : 0 < S) : ∀ ps : List Int, ∃ r : Int, S * (fl N S ps).sum + r = N * ps.sum ∧ 0 ≤ r ∧ r ≤ S * ps.length
  | [] => ⟨0, by simp [fl], by omega, by simp⟩
  | p :: ps => by
    obtain ⟨r, h1, h2, h3⟩ := rests (N := N) hS ps
    have e := Int.mul_ediv_add_emod (N * p) S
    have a := Int.emod_nonneg (N * p) (show S ≠ 0 by omega)
    have b := Int.emod_lt_of_pos (N * p) hS
    refine ⟨N * p % S + r, ?_, by omega, ?_⟩
    · show S * (N * p / S :: fl N S ps).sum + _ = N * (p :: ps).sum
      rw [List.sum_cons, List.sum_cons, Int.mul_add, Int.mul_add]
      omega
    · rw [List.length_cons, Int.natCast_add, Int.mul_add]
      omega
theorem left_ok {N : Int} {ps : List Int} (hS : 0 < ps.sum) : 0 ≤ left N ps.sum ps ∧ left N ps.sum ps ≤ ps.length := by
  obtain ⟨r, h1, h2, h3⟩ := rests (N := N) hS ps
  have e : ps.sum * left N ps.sum ps = r := by
    unfold left
    rw [Int.mul_sub, Int.mul_comm ps.sum N]
    omega
  constructor
  · refine Int.le_of_mul_le_mul_left (a := ps.sum) ?_ hS
    rw [e, Int.mul_zero]
    exact h2
  · refine Int.le_of_mul_le_mul_left (a := ps.sum) ?_ hS
    rw [e]
    exact h3
theorem best_len {N : Int} {ps : List Int} (hS : 0 < ps.sum) : ((best N ps.sum ps).length : Int) = left N ps.sum ps := by
  have ⟨a, b⟩ := left_ok (N := N) hS
  unfold best
  rw [List.length_map, List.length_take, ord_len]
  omega
theorem dealt_sum {N : Int} {ps : List Int} (hS : 0 < ps.sum) : (dealt N ps.sum ps).sum = N := by
  unfold dealt
  rw [bump_sum (by
    rw [fl_len]
    exact best_lt), best_len hS]
  unfold left
  omega
theorem cut_take {l : List D} {m : Int} (h : 0 ≤ m) : cutD l none (some m) = l.take m.toNat := by
  unfold cutD
  show (l.drop 0).take ((if m < 0 then _ else min m.toNat l.length) - 0) = _
  rw [if_neg (by omega), List.drop_zero, Nat.sub_zero]
  by_cases q : m.toNat ≤ l.length
  · rw [Nat.min_eq_left q]
  · rw [Nat.min_eq_right (by omega), List.take_length, List.take_of_length_le (by omega)]
theorem ixN_nat {n k : Nat} (h : k < n) : L2.ixN n (k : Int) = some k := by
  unfold L2.ixN
  rw [if_pos (by omega), if_pos (by omega), Int.toNat_natCast]
theorem atI_ints {fs : List Int} {k : Nat} (h : k < fs.length) : L2.atI (Ints fs) (k : Int) = some (.int (fs.getD k 0)) := by
  unfold L2.atI
  rw [ixN_nat (by simpa [Ints] using h)]
  show (Ints fs)[k]? = _
  rw [List.getElem?_map, List.getD_eq_getElem?_getD, List.getElem?_eq_getElem h]
  rfl
theorem ix_ints {fs : List Int} {k : Nat} (h : k < fs.length) (st : Sto) : oIx (.lst (Ints fs)) (.int (k : Int)) st = .ok (.int (fs.getD k 0)) st := by
  show (match L2.atI (Ints fs) (k : Int) with
    | some d => .ok d st
    | none => .fail : R D) = _
  rw [atI_ints h]
theorem put_ints {fs : List Int} {k : Nat} {v : Int} (h : k < fs.length) : putO [.lst (Ints fs)] 0 (k : Int) (.int v) = some [.lst (Ints (fs.set k v))] := by
  show (match L2.ixN (Ints fs).length (k : Int) with
    | some j => some [Ob.lst ((Ints fs).set j (.int v))]
    | none => none) = _
  rw [ixN_nat (by simpa [Ints] using h)]
  simp only [Ints, List.map_set]
/-- one more, place by place -/
theorem aug_walk : ∀ (xs : List (Int × Nat)) (fs : List Int) (ρ : Envr), look ρ 3 = some (.obj 0) → ρ.length = 8 → (∀ x ∈ xs, x.2 < fs.length) → ∃ ρ', sForL (gTup [CV.gName 5, CV.gName 6]) (sAugS (mVar 3) (mVar 6) oAddI (mC (.int 1))) (xs.map T) ρ [.lst (Ints fs)] = .nx ρ' [.lst (Ints (bump fs (xs.map (·.2))))] ∧ Same [5, 6] ρ ρ'
  | [], fs, ρ, h1, h2, h3 => ⟨ρ, rfl, Same.refl⟩
  | x :: xs, fs, ρ, h1, h2, h3 => by
    have hx := h3 x List.mem_cons_self
    have s1 : Same [5, 6] ρ (setAt (setAt ρ 5 (some (.int x.1))) 6 (some (.int (x.2 : Int)))) := (Same.set (by simp)).trans (Same.set (by simp))
    have b1 : look (setAt (setAt ρ 5 (some (.int x.1))) 6 (some (.int (x.2 : Int)))) 3 = some (.obj 0) := (s1.k 3 (by simp)).trans h1
    have b2 : look (setAt (setAt ρ 5 (some (.int x.1))) 6 (some (.int (x.2 : Int)))) 6 = some (.int (x.2 : Int)) := look_at (by rw [len_setAt (i := 5)]; omega)
    obtain ⟨ρ', e, s2⟩ := aug_walk xs (fs.set x.2 (fs.getD x.2 0 + 1)) (setAt (setAt ρ 5 (some (.int x.1))) 6 (some (.int (x.2 : Int)))) b1 (s1.l.trans h2) (fun y m => by
      rw [List.length_set]
      exact h3 y (List.mem_cons_of_mem _ m))
    refine ⟨ρ', ?_, s1.trans s2⟩
    have g : getO [.lst (Ints fs)] 0 = some (Ints fs) := rfl
    have ad : ∀ (i : Int) (st : Sto), oAddI (.int i) (.int 1) st = .ok (.int (i + 1)) st := fun i st => rfl
    show _ = RS.nx ρ' [.lst (Ints (bump (fs.set x.2 (fs.getD x.2 0 + 1)) (xs.map (·.2))))]
    rw [← e, List.map_cons]
    conv => lhs; unfold sForL
    simp -implicitDefEqProofs only [T, ap_gTup, ap_gN0, ap_gN1, ap_gName, bd_ok, bs_ok, List.length_cons, List.length_nil, beq_self_eq_true, if_true, sAugS, mVar, b1, b2, g, atI_ints hx, ap_c, ad, put_ints hx]
theorem tup_len {l : List Int} (h : l.length ≤ 1000) : fits (Ints l).length = true := decide_eq_true (by simp [Ints]; omega)
theorem fLen_0 {st : Sto} : fLen [.lst []] st = .ok (.int 0) st := rfl
theorem split_0 {N : Int} {ps : List Int} (hp : ∀ p ∈ ps, 0 ≤ p) (hS : ps.sum = 0) (st : Sto) : f_split [.int N, .lst (Ints ps)] st = .exn "ShareError" st := by
  have p1 : D.pure (.int N) = true := rfl
  by_cases h : ps = []
  · subst h
    simp -implicitDefEqProofs [f_split, fnP, startE, mVar, look, pures_ints, fLen_0]
  · obtain ⟨m, e, hm⟩ := fMin_l (st := []) h hp
    have hl : ¬ ps.length = 0 := fun z => h (List.length_eq_zero_iff.mp z)
    have hl' : ((ps.length : Int) == 0) = false := beq_eq_false_iff_ne.mpr (by omega)
    have nm : ¬ m < 0 := by omega
    simp -implicitDefEqProofs [f_split, fnP, startE, mVar, look, pures_ints, fLen_l, e, nm, fSum_l, hS, hl, hl', -List.length_eq_zero_iff]
theorem split_ok {N : Int} {ps : List Int} (hp : ∀ p ∈ ps, 0 ≤ p ∧ p < 6) (hl : ps.length ≤ 5) (h0 : 0 ≤ N) (h1 : N < 50) (hS : 0 < ps.sum) (hS' : ps.sum < 1000) (st : Sto) : f_split [.int N, .lst (Ints ps)] st = .ok (.tup (Ints (dealt N ps.sum ps))) st := by
  have hne : ps ≠ [] := fun z => by rw [z] at hS; exact absurd hS (by decide)
  obtain ⟨m, e, hm⟩ := fMin_l (st := []) hne fun p h => (hp p h).1
  have hl' : ¬ ps.length = 0 := fun z => hne (List.length_eq_zero_iff.mp z)
  have hl2 : ((ps.length : Int) == 0) = false := beq_eq_false_iff_ne.mpr (by omega)
  have nm : ¬ m < 0 := by omega
  have nS : (ps.sum == 0) = false := beq_eq_false_iff_ne.mpr (by omega)
  have nN : ¬ N < 0 := by omega
  have mu : ∀ (p : Int) (st : Sto), oMul (.int N) (.int p) st = .ok (.int (N * p)) st := fun p st => op_mul_l (small_of (by omega) (by omega))
  have dv : ∀ (p : Int) (st : Sto), oDiv (.int p) (.int ps.sum) st = .ok (.int (p / ps.sum)) st := fun p st => op_div_i hS (by omega)
  have md : ∀ (p : Int) (st : Sto), oMod (.int p) (.int ps.sum) st = .ok (.int (p % ps.sum)) st := fun p st => op_mod_i hS
  have c1 : ∀ st, lcL (CV.gName 7) tYes (mBin oDiv (mBin oMul (mVar 0) (mVar 7)) (mVar 2)) [some (.int N), some (.lst (Ints ps)), some (.int ps.sum), none, none, none, none, none] (Ints ps) st = .ok (Ints (fl N ps.sum ps)) st := fun st => by
    have q := lcL_map (g := CV.gName 7) (t := tYes) (e := mBin oDiv (mBin oMul (mVar 0) (mVar 7)) (mVar 2)) (ρ := [some (.int N), some (.lst (Ints ps)), some (.int ps.sum), none, none, none, none, none]) (st := st) (ds := Ints ps) (F := fun d => match d with
      | .int p => .int (N * p / ps.sum)
      | d => d) fun d hd => by
        obtain ⟨p, _, rfl⟩ := List.mem_map.mp hd
        refine ⟨_, rfl, rfl, ?_⟩
        simp -implicitDefEqProofs [mVar, look, setAt, mu, dv]
    rw [q]
    simp [Ints, fl, List.map_map, Function.comp_def]
  have c2 : ∀ (x : D) st, lcS (gTup [CV.gName 6, CV.gName 7]) tYes (mTup (aCons (mBin oSub (mC (.int 0)) (mBin oMod (mBin oMul (mVar 0) (mVar 7)) (mVar 2))) (aCons (mVar 6) (aNil)))) [some (.int N), some (.lst (Ints ps)), some (.int ps.sum), some x, none, none, none, none] (enumD 0 (Ints ps)) st = .ok (((keys N ps.sum ps).map T).map fun d => (d, st)) st := fun x st => by
    have q := lcS_map (g := gTup [CV.gName 6, CV.gName 7]) (t := tYes) (e := mTup (aCons (mBin oSub (mC (.int 0)) (mBin oMod (mBin oMul (mVar 0) (mVar 7)) (mVar 2))) (aCons (mVar 6) (aNil)))) (ρ := [some (.int N), some (.lst (Ints ps)), some (.int ps.sum), some x, none, none, none, none]) (st := st) (ds := enumD 0 (Ints ps)) (F := fun d => match d with
      | .tup [.int k, .int p] => .tup [.int (0 - N * p % ps.sum), .int k]
      | d => d) fun d hd => by
        rw [enumD_en] at hd
        obtain ⟨p, _, rfl⟩ := List.mem_map.mp hd
        refine ⟨_, rfl, rfl, ?_⟩
        simp -implicitDefEqProofs [mVar, look, setAt, mu, md, fits]
    rw [q, enumD_en]
    simp [keys, List.map_map, Function.comp_def]
  have c3 : ∀ st, kSorted (((keys N ps.sum ps).map T).map fun d => (d, st)) st = .ok (.lst ((ord N ps.sum ps).map T)) st := fun st => by
    unfold kSorted
    have z : ((((keys N ps.sum ps).map T).map fun d => (d, st)).map (·.1)) = (keys N ps.sum ps).map T := by simp [List.map_map, Function.comp_def]
    have w : fits ((keys N ps.sum ps).map T).length = true := decide_eq_true (by rw [List.length_map]; unfold keys; rw [List.length_map, en_len]; omega)
    rw [z, sortOk_T, w, sortD_T]
    rfl
  have ⟨l1, l2⟩ := left_ok (N := N) hS
  have c4 : cutD ((ord N ps.sum ps).map T) none (some (N - (fl N ps.sum ps).sum)) = ((ord N ps.sum ps).take (left N ps.sum ps).toNat).map T := by
    rw [cut_take (show 0 ≤ N - (fl N ps.sum ps).sum from l1), List.map_take]
    rfl
  obtain ⟨ρ', c5, s5⟩ := aug_walk ((ord N ps.sum ps).take (left N ps.sum ps).toNat) (fl N ps.sum ps) [some (.int N), some (.lst (Ints ps)), some (.int ps.sum), some (.obj 0), some (.lst ((ord N ps.sum ps).map T)), none, none, none] rfl rfl (fun x h => by
    rw [fl_len]
    exact best_lt x.2 (List.mem_map.mpr ⟨x, h, rfl⟩))
  have c6 : look ρ' 3 = some (.obj 0) := s5.k 3 (by simp)
  have c7 : ∀ l : List Int, fTuple [.obj 0] [.lst (Ints l)] = .ok (.tup (Ints l)) [.lst (Ints l)] := fun l => rfl
  have hf : fits (Ints ps).length = true := tup_len (by omega)
  have hf2 : fits ps.length = true := decide_eq_true (by omega)
  have ie : ∀ (l : List D) (st : Sto), listD (.lst l) st = some l := fun l st => rfl
  refine (show fnP 8 2 m_split [.int N, .lst (Ints ps)] st = _ from ?_)
  have run : m_split (startE 8 [.int N, .lst (Ints ps)]) [] = .rt (.tup (Ints (dealt N ps.sum ps))) [.lst (Ints (dealt N ps.sum ps))] := by
    simp -implicitDefEqProofs [startE, mVar, look, setAt, wipeE, fLen_l, e, nm, fSum_l, hl', hl2, nS, nN, mLcM, mGx, iSeq, CV.iEnum, mSl, oNo, oSome, c1, c2, c3, c4, c5, c6, c7, hf, hf2, ie, fSum_o, -List.length_eq_zero_iff, -List.map_map, -List.map_take]
    rfl
  unfold fnP
  rw [run]
  simp -implicitDefEqProofs [pures_ints]
end K01
/-! K01u: the end of a turn. -/
namespace K01
open CV PySem L2
variable {st : Sto} {ρ : Envr}
theorem sum_low {ps : List Int} (h : ∀ p ∈ ps, 0 ≤ p ∧ p < 6) : 0 ≤ ps.sum ∧ ps.sum ≤ 6 * ps.length := by
  induction ps with
  | nil => simp
  | cons x xs ih =>
    have a := h x List.mem_cons_self
    have b := ih fun p hp => h p (List.mem_cons_of_mem _ hp)
    rw [List.sum_cons, List.length_cons]
    omega
theorem tup_ne_str {l : List Int} : oNe (.tup (Ints l)) (.str "ShareError") st = .ok (.bl true) st := by
  rw [op_ne_of (by rw [lay_t]; exact lays_ints) (by decide +kernel)]
  simp
theorem tup_eq_str {l : List Int} : oEq (.tup (Ints l)) (.str "ShareError") st = .ok (.bl false) st := by
  rw [op_eq_of (by rw [lay_t]; exact lays_ints) (by decide +kernel)]
  simp
theorem ints_ne {l : List Int} : oNe (.lst (Ints l)) (.lst (Ints l)) st = .ok (.bl false) st := by
  rw [op_ne_of (by rw [lay_l]; exact lays_ints) (by rw [lay_l]; exact lays_ints), eqv_ll, eqvs_ints]
  rfl
/-- no part at all -/
theorem end_0 {N : Int} {ps : List Int} (h14 : look ρ 14 = some (.lst (Ints ps))) (h15 : look ρ 15 = some (.int N)) (hn : ρ.length = 22) (hp : ∀ p ∈ ps, 0 ≤ p ∧ p < 6) (hS : ps.sum = 0) : ∃ ρ', sCons B12 (sCons B13 B14) ρ st = .nx ρ' st := by
  have e := split_0 (N := N) (fun p h => (hp p h).1) hS
  have l3 : look (setAt ρ 3 (some (.str "ShareError"))) 3 = some (.str "ShareError") := look_at (by omega)
  have l14 : look (setAt ρ 3 (some (.str "ShareError"))) 14 = some (.lst (Ints ps)) := (look_setAt (by omega)).trans h14
  refine ⟨setAt ρ 3 (some (.str "ShareError")), ?_⟩
  simp -implicitDefEqProofs [B12, B13, B14, mVar, h14, h15, e, caught_se, l3, l14, se_ne, se_eq, fSum_l, hS, bl_ne]
theorem any_mem {l : List Nat} {k : Nat} : ((l.map fun j : Nat => D.int (j : Int)).any fun z => D.eqv z (.int (k : Int))) = decide (k ∈ l) := by
  induction l with
  | nil => rfl
  | cons x xs ih =>
    rw [List.map_cons, List.any_cons, ih, eqv_ii, Bool.eq_iff_iff]
    have q : ((x : Int) = (k : Int)) ↔ (k = x) := by omega
    simp only [Bool.or_eq_true, beq_iff_eq, decide_eq_true_eq, List.mem_cons, q]
theorem lays_nats {n : Nat} {l : List Nat} : D.lays n (l.map fun j : Nat => D.int (j : Int)) = true := by
  induction l with
  | nil => simp
  | cons x xs ih => simpa using ih
theorem in_nats {l : List Nat} {k : Nat} (st : Sto) : oInS false (.int (k : Int)) (.lst (l.map fun j : Nat => D.int (j : Int))) st = .ok (.bl (decide (k ∈ l))) st := by
  show (if D.lay 12 (.int (k : Int)) && D.lays 12 (l.map fun j : Nat => D.int (j : Int)) then R.ok (D.bl ((l.map fun j : Nat => D.int (j : Int)).any fun z => D.eqv z (.int (k : Int)))) st else .fail) = _
  rw [lays_nats, any_mem]
  simp
theorem end_1 {N : Int} {ps : List Int} (h14 : look ρ 14 = some (.lst (Ints ps))) (h15 : look ρ 15 = some (.int N)) (hn : ρ.length = 22) (hp : ∀ p ∈ ps, 0 ≤ p ∧ p < 6) (hl : ps.length ≤ 5) (h0 : 0 ≤ N) (h1 : N < 50) (hS : 0 < ps.sum) : ∃ ρ', sCons B12 (sCons B13 B14) ρ st = .nx ρ' st := by
  have sl := sum_low hp
  have e := split_ok hp hl h0 h1 hS (by omega)
  have nS : (ps.sum == 0) = false := beq_eq_false_iff_ne.mpr (by omega)
  have mu : ∀ (p : Int) (st : Sto), oMul (.int N) (.int p) st = .ok (.int (N * p)) st := fun p st => op_mul_l (small_of (by omega) (by omega))
  have mu2 : ∀ (p : Int) (st : Sto), oMul (.int p) (.int ps.sum) st = .ok (.int (p * ps.sum)) st := fun p st => op_mul_r (small_of (by omega) (by omega))
  have dv : ∀ (p : Int) (st : Sto), oDiv (.int p) (.int ps.sum) st = .ok (.int (p / ps.sum)) st := fun p st => op_div_i hS (by omega)
  have lk : ∀ (τ : Envr) (i j : Nat) (d : Option D), i ≠ j → look (setAt τ i d) j = look τ j := fun τ i j d h => look_setAt h
  have la : ∀ (τ : Envr) (i : Nat) (d : Option D), τ.length = 22 → i < 22 → look (setAt τ i d) i = d := fun τ i d h1 h2 => look_at (by omega)
  have f1 : fits (Ints ps).length = true := tup_len (by omega)
  have f2 : fits ps.length = true := decide_eq_true (by omega)
  -- floors
  have c1 : ∀ (τ : Envr) st, τ.length = 22 → look τ 14 = some (.lst (Ints ps)) → look τ 15 = some (.int N) → mLc (iSeq (mVar 14)) [20] (CV.gName 20) tYes (mBin oDiv (mBin oMul (mVar 15) (mVar 20)) (mCall fSum (aCons (mVar 14) (aNil)))) τ st = .ok (.lst (Ints (fl N ps.sum ps))) st := fun τ st t1 t2 t3 => by
    have q := lcL_map (g := CV.gName 20) (t := tYes) (e := mBin oDiv (mBin oMul (mVar 15) (mVar 20)) (mCall fSum (aCons (mVar 14) (aNil)))) (ρ := wipeE τ [20]) (st := st) (ds := Ints ps) (F := fun d => match d with
      | .int p => .int (N * p / ps.sum)
      | d => d) fun d hd => by
        obtain ⟨p, _, rfl⟩ := List.mem_map.mp hd
        refine ⟨_, rfl, rfl, ?_⟩
        have w1 : look (setAt (wipeE τ [20]) 20 (some (.int p))) 14 = some (.lst (Ints ps)) := (lk _ _ _ _ (by omega)).trans ((lk τ 20 14 none (by omega)).trans t2)
        have w2 : look (setAt (wipeE τ [20]) 20 (some (.int p))) 15 = some (.int N) := (lk _ _ _ _ (by omega)).trans ((lk τ 20 15 none (by omega)).trans t3)
        have w3 : look (setAt (wipeE τ [20]) 20 (some (.int p))) 20 = some (.int p) := la _ _ _ ((len_setAt (i := 20)).trans t1) (by omega)
        simp -implicitDefEqProofs only [ap_bin, ap_call, ap_cons, ap_nil, mVar, bd_ok, w1, w2, w3, fSum_l, mu, dv]
    have r : (Ints ps).map (fun d => match d with
      | .int p => .int (N * p / ps.sum)
      | d => d) = Ints (fl N ps.sum ps) := by simp [Ints, fl, List.map_map, Function.comp_def]
    rw [r] at q
    simp -implicitDefEqProofs only [mLc, iSeq, mVar, t2, bd_ok, f1, q, if_true]
  -- the keys
  have c2 : ∀ (τ : Envr) st, τ.length = 22 → look τ 14 = some (.lst (Ints ps)) → look τ 15 = some (.int N) → look τ 16 = some (.lst (Ints (fl N ps.sum ps))) → mLc (CV.iEnum (mVar 14)) [19, 20] (gTup [CV.gName 19, CV.gName 20]) tYes (mTup (aCons (mBin oSub (mBin oMul (mBin oIx (mVar 16) (mVar 19)) (mCall fSum (aCons (mVar 14) (aNil)))) (mBin oMul (mVar 15) (mVar 20))) (aCons (mVar 19) (aNil)))) τ st = .ok (.lst ((keys N ps.sum ps).map T)) st := fun τ st t1 t2 t3 t4 => by
    have q := lcL_map (g := gTup [CV.gName 19, CV.gName 20]) (t := tYes) (e := mTup (aCons (mBin oSub (mBin oMul (mBin oIx (mVar 16) (mVar 19)) (mCall fSum (aCons (mVar 14) (aNil)))) (mBin oMul (mVar 15) (mVar 20))) (aCons (mVar 19) (aNil)))) (ρ := wipeE τ [19, 20]) (st := st) (ds := enumD 0 (Ints ps)) (F := fun d => match d with
      | .tup [.int k, .int p] => .tup [.int (0 - N * p % ps.sum), .int k]
      | d => d) fun d hd => by
        rw [enumD_en] at hd
        obtain ⟨q, hq, rfl⟩ := List.mem_map.mp hd
        obtain ⟨j, j1, j2⟩ := en_at hq
        have j3 : q.1 = j := by omega
        have j4 : q.1 < (fl N ps.sum ps).length := by
          rw [fl_len, j3]
          exact (List.getElem?_eq_some_iff.mp j2).1
        have j5 : (fl N ps.sum ps).getD q.1 0 = N * q.2 / ps.sum := by
          rw [List.getD_eq_getElem?_getD, j3]
          unfold fl
          rw [List.getElem?_map, j2]
          rfl
        have j6 : N * q.2 / ps.sum * ps.sum - N * q.2 = 0 - N * q.2 % ps.sum := by
          have := Int.mul_ediv_add_emod (N * q.2) ps.sum
          rw [Int.mul_comm ps.sum] at this
          omega
        refine ⟨setAt (setAt (wipeE τ [19, 20]) 19 (some (.int (q.1 : Int)))) 20 (some (.int q.2)), rfl, rfl, ?_⟩
        have u : ∀ i, i ≠ 19 → i ≠ 20 → look (setAt (setAt (wipeE τ [19, 20]) 19 (some (.int (q.1 : Int)))) 20 (some (.int q.2))) i = look τ i := fun i i1 i2 => (lk _ _ _ _ (Ne.symm i2)).trans ((lk _ _ _ _ (Ne.symm i1)).trans ((lk _ _ _ none (Ne.symm i1)).trans (lk _ _ _ none (Ne.symm i2))))
        have w1 := (u 14 (by omega) (by omega)).trans t2
        have w2 := (u 15 (by omega) (by omega)).trans t3
        have w4 := (u 16 (by omega) (by omega)).trans t4
        have tl : (wipeE τ [19, 20]).length = 22 := (len_setAt (i := 19)).trans ((len_setAt (i := 20)).trans t1)
        have w3 : look (setAt (setAt (wipeE τ [19, 20]) 19 (some (.int (q.1 : Int)))) 20 (some (.int q.2))) 19 = some (.int (q.1 : Int)) := (lk _ _ _ _ (by omega)).trans (la _ _ _ tl (by omega))
        have w5 : look (setAt (setAt (wipeE τ [19, 20]) 19 (some (.int (q.1 : Int)))) 20 (some (.int q.2))) 20 = some (.int q.2) := la _ _ _ ((len_setAt (i := 19)).trans tl) (by omega)
        have x1 := fun st => ix_ints j4 st
        rw [j5] at x1
        simp -implicitDefEqProofs only [ap_bin, ap_call, ap_cons, ap_nil, ap_tup, mVar, bd_ok, w1, w2, w3, w4, w5, fSum_l, mu, mu2, x1, op_sub_i, j6, List.length_cons, List.length_nil, fits, show decide (0 + 1 + 1 ≤ 1000000) = true from rfl, if_true]
    have r : (enumD 0 (Ints ps)).map (fun d => match d with
      | .tup [.int k, .int p] => .tup [.int (0 - N * p % ps.sum), .int k]
      | d => d) = (keys N ps.sum ps).map T := by
      rw [enumD_en]
      simp [keys, List.map_map, Function.comp_def]
    rw [r] at q
    have f3 : fits (enumD 0 (Ints ps)).length = true := decide_eq_true (by
      rw [enumD_en, List.length_map, en_len]
      omega)
    simp -implicitDefEqProofs only [mLc, CV.iEnum, mVar, t2, bd_ok, f3, q, if_true]
  have c3 : ∀ st, fSorted [.lst ((keys N ps.sum ps).map T)] st = .ok (.lst ((ord N ps.sum ps).map T)) st := fun st => by
    have w : fits ((keys N ps.sum ps).map T).length = true := decide_eq_true (by
      rw [List.length_map]
      unfold keys
      rw [List.length_map, en_len]
      omega)
    show (if sortOk ((keys N ps.sum ps).map T) && fits ((keys N ps.sum ps).map T).length then R.ok (D.lst (sortD ((keys N ps.sum ps).map T))) st else .fail) = _
    rw [sortOk_T, w, sortD_T]
    rfl
  -- the order
  have c4 : ∀ (τ : Envr) st, τ.length = 22 → lcL (gTup [CV.gName 21, CV.gName 19]) tYes (mVar 19) (wipeE τ [21, 19]) ((ord N ps.sum ps).map T) st = .ok (((ord N ps.sum ps).map (·.2)).map fun j : Nat => D.int (j : Int)) st := fun τ st t1 => by
    have q := lcL_map (g := gTup [CV.gName 21, CV.gName 19]) (t := tYes) (e := mVar 19) (ρ := wipeE τ [21, 19]) (st := st) (ds := (ord N ps.sum ps).map T) (F := fun d => match d with
      | .tup [.int _, .int k] => .int k
      | d => d) fun d hd => by
        obtain ⟨q, hq, rfl⟩ := List.mem_map.mp hd
        refine ⟨setAt (setAt (wipeE τ [21, 19]) 21 (some (.int q.1))) 19 (some (.int (q.2 : Int))), rfl, rfl, ?_⟩
        have w : look (setAt (setAt (wipeE τ [21, 19]) 21 (some (.int q.1))) 19 (some (.int (q.2 : Int)))) 19 = some (.int (q.2 : Int)) := la _ _ _ ((len_setAt (i := 21)).trans ((len_setAt (i := 21)).trans ((len_setAt (i := 19)).trans t1))) (by omega)
        simp -implicitDefEqProofs only [mVar, w]
    rw [q, List.map_map, List.map_map]
    rfl
  have f4 : fits ((ord N ps.sum ps).map T).length = true := decide_eq_true (by rw [List.length_map, ord_len]; omega)
  have ⟨l1, l2⟩ := left_ok (N := N) hS
  have c5 : cutD (((ord N ps.sum ps).map (·.2)).map fun j : Nat => D.int (j : Int)) none (some (N - (fl N ps.sum ps).sum)) = (best N ps.sum ps).map fun j : Nat => D.int (j : Int) := by
    rw [cut_take (show 0 ≤ N - (fl N ps.sum ps).sum from l1), ← List.map_take, ← List.map_take]
    rfl
  -- what it should be
  have c6 : ∀ (τ : Envr) st, τ.length = 22 → look τ 16 = some (.lst (Ints (fl N ps.sum ps))) → look τ 18 = some (.lst ((best N ps.sum ps).map fun j : Nat => D.int (j : Int))) → lcL (CV.gName 19) tYes (mBin oAdd (mBin oIx (mVar 16) (mVar 19)) (mCall fInt (aCons (mBin (oInS false) (mVar 19) (mVar 18)) (aNil)))) (wipeE τ [19]) (rangeD 0 ps.length) st = .ok (Ints (dealt N ps.sum ps)) st := fun τ st t1 t2 t3 => by
    have q := lcL_map (g := CV.gName 19) (t := tYes) (e := mBin oAdd (mBin oIx (mVar 16) (mVar 19)) (mCall fInt (aCons (mBin (oInS false) (mVar 19) (mVar 18)) (aNil)))) (ρ := wipeE τ [19]) (st := st) (ds := rangeD 0 ps.length) (F := fun d => match d with
      | .int k => .int ((fl N ps.sum ps).getD k.toNat 0 + (if k.toNat ∈ best N ps.sum ps then 1 else 0))
      | d => d) fun d hd => by
        obtain ⟨k, hk, rfl⟩ := List.mem_map.mp hd
        have hk := List.mem_range.mp hk
        refine ⟨_, rfl, rfl, ?_⟩
        rw [Int.zero_add]
        have w1 : look (setAt (wipeE τ [19]) 19 (some (.int (k : Int)))) 16 = some (.lst (Ints (fl N ps.sum ps))) := (lk _ _ _ _ (by omega)).trans ((lk τ 19 16 none (by omega)).trans t2)
        have w2 : look (setAt (wipeE τ [19]) 19 (some (.int (k : Int)))) 18 = some (.lst ((best N ps.sum ps).map fun j : Nat => D.int (j : Int))) := (lk _ _ _ _ (by omega)).trans ((lk τ 19 18 none (by omega)).trans t3)
        have w3 : look (setAt (wipeE τ [19]) 19 (some (.int (k : Int)))) 19 = some (.int (k : Int)) := la _ _ _ ((len_setAt (i := 19)).trans t1) (by omega)
        have x1 := fun st => ix_ints (fs := fl N ps.sum ps) (k := k) (by rw [fl_len]; exact hk) st
        have x2 := fun st => in_nats (l := best N ps.sum ps) (k := k) st
        have x3 : ∀ (b : Prop) [Decidable b], (if decide b = true then (1 : Int) else 0) = if b then 1 else 0 := fun b _ => by simp
        simp -implicitDefEqProofs only [ap_bin, ap_call, ap_cons, ap_nil, mVar, bd_ok, w1, w2, w3, x1, x2, fInt_b, op_add_i, x3, Int.toNat_natCast]
    have r : (rangeD 0 ps.length).map (fun d => match d with
      | .int k => .int ((fl N ps.sum ps).getD k.toNat 0 + (if k.toNat ∈ best N ps.sum ps then 1 else 0))
      | d => d) = Ints (dealt N ps.sum ps) := by
      unfold dealt
      rw [← bump_eq best_nd, fl_len]
      simp [rangeD, Ints, List.map_map, Function.comp_def]
    rw [q, r]
  have f5 : fits (rangeD 0 ps.length).length = true := decide_eq_true (by rw [rangeD_len]; omega)
  have f6 : inLine (ps.length : Int) = true := by
    unfold inLine
    rw [Bool.and_eq_true, decide_eq_true_eq, decide_eq_true_eq]
    exact ⟨by omega, by omega⟩
  have fT : ∀ (l : List Int) st, fList [.tup (Ints l)] st = .ok (.lst (Ints l)) st := fun l st => rfl
  have dS := dealt_sum (N := N) hS
  have n0 : (setAt ρ 3 (some (.tup (Ints (dealt N ps.sum ps))))).length = 22 := (len_setAt (i := 3)).trans hn
  generalize hr1 : setAt ρ 3 (some (.tup (Ints (dealt N ps.sum ps)))) = ρ1 at n0
  have a3 : look ρ1 3 = some (.tup (Ints (dealt N ps.sum ps))) := by rw [← hr1]; exact la _ _ _ hn (by omega)
  have a14 : look ρ1 14 = some (.lst (Ints ps)) := by rw [← hr1, lk _ _ _ _ (by omega)]; exact h14
  have a15 : look ρ1 15 = some (.int N) := by rw [← hr1, lk _ _ _ _ (by omega)]; exact h15
  have r12 : B12 ρ st = .nx ρ1 st := by
    rw [← hr1]
    simp -implicitDefEqProofs only [B12, ap_sAsg, ap_told, ap_call, ap_cons, ap_nil, mVar, bd_ok, bs_ok, h14, h15, e, told_ok, ap_gName]
  have r13 : B13 ρ1 st = .nx ρ1 st := by
    simp -implicitDefEqProofs [B13, mVar, a3, a14, tup_eq_str, fSum_l, nS, bl_ne]
  -- the three lists
  have n2 : (setAt ρ1 16 (some (.lst (Ints (fl N ps.sum ps))))).length = 22 := (len_setAt (i := 16)).trans n0
  generalize hr2 : setAt ρ1 16 (some (.lst (Ints (fl N ps.sum ps)))) = ρ2 at n2
  have k2 : ∀ i, i ≠ 16 → look ρ2 i = look ρ1 i := fun i h => by rw [← hr2]; exact lk _ _ _ _ (Ne.symm h)
  have b16 : look ρ2 16 = some (.lst (Ints (fl N ps.sum ps))) := by rw [← hr2]; exact la _ _ _ n0 (by omega)
  have n3 : (setAt ρ2 17 (some (.lst (((ord N ps.sum ps).map (·.2)).map fun j : Nat => D.int (j : Int))))).length = 22 := (len_setAt (i := 17)).trans n2
  generalize hr3 : setAt ρ2 17 (some (.lst (((ord N ps.sum ps).map (·.2)).map fun j : Nat => D.int (j : Int)))) = ρ3 at n3
  have k3 : ∀ i, i ≠ 17 → look ρ3 i = look ρ2 i := fun i h => by rw [← hr3]; exact lk _ _ _ _ (Ne.symm h)
  have b17 : look ρ3 17 = some (.lst (((ord N ps.sum ps).map (·.2)).map fun j : Nat => D.int (j : Int))) := by rw [← hr3]; exact la _ _ _ n2 (by omega)
  have n4 : (setAt ρ3 18 (some (.lst ((best N ps.sum ps).map fun j : Nat => D.int (j : Int))))).length = 22 := (len_setAt (i := 18)).trans n3
  generalize hr4 : setAt ρ3 18 (some (.lst ((best N ps.sum ps).map fun j : Nat => D.int (j : Int)))) = ρ4 at n4
  have k4 : ∀ i, i ≠ 18 → look ρ4 i = look ρ3 i := fun i h => by rw [← hr4]; exact lk _ _ _ _ (Ne.symm h)
  have b18 : look ρ4 18 = some (.lst ((best N ps.sum ps).map fun j : Nat => D.int (j : Int))) := by rw [← hr4]; exact la _ _ _ n3 (by omega)
  have d1 := c1 ρ1 st n0 a14 a15
  have d2 := c2 ρ2 st n2 ((k2 14 (by omega)).trans a14) ((k2 15 (by omega)).trans a15) b16
  have d3 := c4 ρ2 st n2
  have d4 := (k3 16 (by omega)).trans b16
  have d5 := (k3 15 (by omega)).trans ((k2 15 (by omega)).trans a15)
  have d6 := c6 ρ4 st n4 ((k4 16 (by omega)).trans d4) b18
  have d7 := (k4 14 (by omega)).trans ((k3 14 (by omega)).trans ((k2 14 (by omega)).trans a14))
  have d8 := (k4 3 (by omega)).trans ((k3 3 (by omega)).trans ((k2 3 (by omega)).trans a3))
  have d9 := (k4 15 (by omega)).trans d5
  refine ⟨ρ4, ?_⟩
  rw [ap_sCons, r12]
  show sCons B13 B14 ρ1 st = _
  rw [ap_sCons, r13]
  show B14 ρ1 st = _
  have q1 : mLc (iSeq (mCall fSorted (aCons (mLc (CV.iEnum (mVar 14)) [19, 20] (gTup [CV.gName 19, CV.gName 20]) tYes (mTup (aCons (mBin oSub (mBin oMul (mBin oIx (mVar 16) (mVar 19)) (mCall fSum (aCons (mVar 14) (aNil)))) (mBin oMul (mVar 15) (mVar 20))) (aCons (mVar 19) (aNil))))) (aNil)))) [21, 19] (gTup [CV.gName 21, CV.gName 19]) tYes (mVar 19) ρ2 st = .ok (.lst (((ord N ps.sum ps).map (·.2)).map fun j : Nat => D.int (j : Int))) st := by
    rw [mLc]
    simp -implicitDefEqProofs only [iSeq, ap_call, ap_cons, ap_nil, d2, bd_ok, c3, f4, if_true, d3]
  have ie : ∀ (l : List D) (st : Sto), listD (.lst l) st = some l := fun l st => rfl
  have q2 : mSl (mVar 17) oNo (oSome (mBin oSub (mVar 15) (mCall fSum (aCons (mVar 16) (aNil))))) ρ3 st = .ok (.lst ((best N ps.sum ps).map fun j : Nat => D.int (j : Int))) st := by
    simp -implicitDefEqProofs only [mSl, oNo, oSome, ap_bin, ap_call, ap_cons, ap_nil, mVar, bd_ok, b17, d4, d5, fSum_l, op_sub_i, ie, c5]
  have q3 : mLc (iRange1 (aCons (mCall fLen (aCons (mVar 14) (aNil))) (aNil))) [19] (CV.gName 19) tYes (mBin oAdd (mBin oIx (mVar 16) (mVar 19)) (mCall fInt (aCons (mBin (oInS false) (mVar 19) (mVar 18)) (aNil)))) ρ4 st = .ok (.lst (Ints (dealt N ps.sum ps))) st := by
    rw [mLc]
    simp -implicitDefEqProofs only [iRange1, ap_call, ap_cons, ap_nil, mVar, d7, bd_ok, fLen_l, f6, if_true, Int.toNat_natCast, f5, d6]
  have ni : ∀ st, oNe (.int N) (.int N) st = .ok (.bl false) st := fun st => by simp
  simp -implicitDefEqProofs only [B14, ap_sIf, ap_tB, ap_bin, ap_c, mVar, a3, bd_ok, bs_ok, tup_ne_str, if_true, ap_sCons, ap_sAsg, d1, ap_gName, hr2, q1, hr3, q2, hr4, ap_or, ap_call, ap_cons, ap_nil, d8, fT, q3, ints_ne, fSum_t, dS, d9, ni, Bool.false_eq_true, if_false, ap_sNil]
end K01
/-! K01v: the law. -/
namespace K01
open CV PySem L2
def isT : R D → Bool
  | .ok (.bl true) [] => true
  | _ => false
theorem isT_at {r : R D} (h : isT r = true) : r = .ok (.bl true) [] := by
  unfold isT at h
  split at h
  · rfl
  · cases h
theorem plain_T : isT (f__law_plain [] []) = true := by decide +kernel
theorem plain_ok (st : Sto) : f__law_plain [] st = .ok (.bl true) st := fnP_st (isT_at plain_T) st
theorem pow18 {st : Sto} : oPow (.int 10) (.int 18) st = .ok (.int 1000000000000000000) st := rfl
theorem dice_ok (c : Int) : ∃ st', f__law_dice [.int c] [] = .ok (.obj 0) st' ∧ Ds st' := by
  have md : ∀ (i : Int) (st : Sto), oMod (.int i) (.int 1009) st = .ok (.int (i % 1009)) st := fun i st => op_mod_i (by omega)
  by_cases h1 : -10 < c
  · by_cases h2 : c < 10
    · exact ⟨[.lst [.int (if c < 0 then -c else c), .int 0, .int 2]], by simp -implicitDefEqProofs [f__law_dice, fnS, startE, mVar, look, fAbs, h1, h2, fits], ⟨_, _, _, rfl⟩⟩
    · exact ⟨[.lst [.int c, .int (1 + c % 1009), .int (if 1000000000000000000 ≤ c then 1 else 0)]], by simp -implicitDefEqProofs [f__law_dice, fnS, startE, mVar, look, fAbs, h1, h2, fits, fInt_i, fInt_b, pow18, md], ⟨_, _, _, rfl⟩⟩
  · exact ⟨[.lst [.int c, .int (1 + c % 1009), .int (if 1000000000000000000 ≤ c then 1 else 0)]], by simp -implicitDefEqProofs [f__law_dice, fnS, startE, mVar, look, fAbs, h1, fits, fInt_i, fInt_b, pow18, md], ⟨_, _, _, rfl⟩⟩
theorem cell_ok (ns : List Int) : ∃ c : Int, ∃ ρ' : Envr, ρ' = [some (.lst (Ints ns)), some (.int 1), some (.lst [.int c]), none] ∧ sCons (sAsg (mSl (mVar 0) oNo (oSome (mVar 1))) (CV.gName 2)) (sIf (tB (mBin oEq (mVar 2) (mLst (aNil)))) (sAsg (mLst (aCons (mC (.int 0)) (aNil))) (CV.gName 2)) (sNil)) [some (.lst (Ints ns)), some (.int 1), none, none] [] = .nx ρ' [] := by
  have ie : ∀ (l : List D) (st : Sto), listD (.lst l) st = some l := fun l st => rfl
  have ct : cutD (Ints ns) none (some 1) = (Ints ns).take 1 := cut_take (by omega)
  have e0 : ∀ st, oEq (.lst []) (.lst []) st = .ok (.bl true) st := fun st => by
    rw [op_eq_of rfl rfl]
    simp
  have e1 : ∀ (i : Int) st, oEq (.lst [.int i]) (.lst []) st = .ok (.bl false) st := fun i st => by
    rw [op_eq_of rfl rfl]
    simp
  cases ns with
  | nil =>
    refine ⟨0, _, rfl, ?_⟩
    have ct : cutD [] none (some 1) = [] := rfl
    simp -implicitDefEqProofs [mSl, oNo, oSome, mVar, look, setAt, ie, ct, e0, fits]
  | cons c r =>
    refine ⟨c, _, rfl, ?_⟩
    have e2 : (Ints (c :: r)).take 1 = [.int c] := rfl
    rw [e2] at ct
    simp -implicitDefEqProofs only [ap_sCons, ap_sAsg, mSl, oNo, oSome, mVar, look, setAt, ie, ct, bd_ok, bs_ok, ap_gName, ap_sIf, ap_tB, ap_bin, ap_lst, ap_nil, fits, List.length_nil, show decide (0 ≤ 1000000) = true from rfl, if_true, e1, Bool.false_eq_true, if_false, ap_sNil]
theorem seq3 {a b c : MS} {ρ ρ' : Envr} {st st' : Sto} (h : sCons a b ρ st = .nx ρ' st') : sCons a (sCons b c) ρ st = c ρ' st' := by
  rw [ap_sCons] at h ⊢
  cases e : a ρ st with
  | nx x y =>
    simp only [e] at h ⊢
    rw [ap_sCons, h]
  | rt x y => simp only [e] at h; cases h
  | bk x y => simp only [e] at h; cases h
  | ct x y => simp only [e] at h; cases h
  | exn x y => simp only [e] at h; cases h
  | fail => simp only [e] at h; cases h
theorem rounds_ok (ns : List Int) : ∃ st', f__law_rounds [.lst (Ints ns), .int 1] [] = .ok (.lst [.obj 0]) st' ∧ Ds st' := by
  obtain ⟨c, ρ', hr, e⟩ := cell_ok ns
  obtain ⟨st', e2, D2⟩ := dice_ok c
  refine ⟨st', ?_, D2⟩
  have q := lcL_cons (g := CV.gName 3) (t := tYes) (e := mCall f__law_dice (aCons (mVar 3) (aNil))) (ρ := [some (.lst (Ints ns)), some (.int 1), some (.lst [.int c]), none]) (d := .int c) (ds := []) (r := []) (st := []) (st1 := []) (st2 := []) (x := .obj 0) (st3 := st') (st4 := st') rfl rfl (by
    simp -implicitDefEqProofs [mVar, look, setAt, e2]) rfl
  have hf : fits [D.int c].length = true := rfl
  show fnS 4 2 m__law_rounds [.lst (Ints ns), .int 1] [] = _
  unfold fnS
  have s0 : startE 4 [.lst (Ints ns), .int 1] = [some (.lst (Ints ns)), some (.int 1), none, none] := rfl
  rw [s0]
  show (if _ then (match (sCons _ (sCons _ _)) _ _ with
    | .rt d st => R.ok d st
    | .nx _ st => .ok .non st
    | .exn e st => .exn e st
    | _ => .fail) else .fail) = _
  rw [seq3 e, hr]
  simp -implicitDefEqProofs [mLc, iSeq, mVar, look, wipeE, setAt, hf, q, fits]
theorem seq {a b : MS} {ρ ρ' : Envr} {st st' : Sto} (h : a ρ st = .nx ρ' st') : sCons a b ρ st = b ρ' st' := by
  rw [ap_sCons, h]
/-- one turn -/
theorem turn_ok {ρ : Envr} {st : Sto} (hn : ρ.length = 22) (h1 : look ρ 1 = some (.obj 0)) (h : Ds st) : ∃ ρ' st', sCons B1 (sCons B2 (sCons B3 (sCons B4 (sCons B5 (sCons B6 (sCons B7 (sCons B8 (sCons B9 (sCons B10 (sCons B11 (sCons B12 (sCons B13 B14)))))))))))) ρ st = .nx ρ' st' := by
  obtain ⟨t, u, st1, e1, hu, D1⟩ := B1_ok h1 h
  generalize r1 : setAt (setAt ρ 4 (some (.int t))) 5 (some (.int u)) = ρ1 at e1
  have m1 : Same [4, 5] ρ ρ1 := by rw [← r1]; exact (Same.set (by simp)).trans (Same.set (by simp))
  have n1 : ρ1.length = 22 := m1.l.trans hn
  have a4 : look ρ1 4 = some (.int t) := by rw [← r1, look_setAt (by omega)]; exact look_at (by omega)
  have a5 : look ρ1 5 = some (.int u) := by rw [← r1]; exact look_at (by rw [len_setAt (i := 4)]; omega)
  have a1 : look ρ1 1 = some (.obj 0) := (m1.k 1 (by simp)).trans h1
  rw [seq e1, seq (B2_ok a4 a5 hu)]
  obtain ⟨x, y, z, st2, e3, hx, hy, hz, D2⟩ := B3_ok a1 D1
  generalize r2 : setAt (setAt (setAt ρ1 6 (some (fr x))) 7 (some (fr y))) 8 (some (fr z)) = ρ2 at e3
  have m2 : Same [6, 7, 8] ρ1 ρ2 := by rw [← r2]; exact ((Same.set (by simp)).trans (Same.set (by simp))).trans (Same.set (by simp))
  have n2 : ρ2.length = 22 := m2.l.trans n1
  have b6 : look ρ2 6 = some (fr x) := by rw [← r2, look_setAt (by omega), look_setAt (by omega)]; exact look_at (by omega)
  have b7 : look ρ2 7 = some (fr y) := by rw [← r2, look_setAt (by omega)]; exact look_at (by rw [len_setAt (i := 6)]; omega)
  have b8 : look ρ2 8 = some (fr z) := by rw [← r2]; exact look_at (by rw [len_setAt (i := 7), len_setAt (i := 6)]; omega)
  have b4 : look ρ2 4 = some (.int t) := (m2.k 4 (by simp)).trans a4
  have b1 : look ρ2 1 = some (.obj 0) := (m2.k 1 (by simp)).trans a1
  rw [seq e3, seq (B4_ok b6 b7 b8 hx hy hz), seq (B5_ok b6 b7 hx hy), seq (B6_ok b6 hx)]
  generalize r3 : setAt (setAt (setAt ρ2 9 (some (.int (lo x)))) 10 (some (.int (hi x)))) 11 (some (.int (nr x))) = ρ3
  have m3 : Same [9, 10, 11] ρ2 ρ3 := by rw [← r3]; exact ((Same.set (by simp)).trans (Same.set (by simp))).trans (Same.set (by simp))
  have n3 : ρ3.length = 22 := m3.l.trans n2
  have c9 : look ρ3 9 = some (.int (lo x)) := by rw [← r3, look_setAt (by omega), look_setAt (by omega)]; exact look_at (by omega)
  have c10 : look ρ3 10 = some (.int (hi x)) := by rw [← r3, look_setAt (by omega)]; exact look_at (by rw [len_setAt (i := 9)]; omega)
  have c11 : look ρ3 11 = some (.int (nr x)) := by rw [← r3]; exact look_at (by rw [len_setAt (i := 10), len_setAt (i := 9)]; omega)
  have c6 := (m3.k 6 (by simp)).trans b6
  have c7 := (m3.k 7 (by simp)).trans b7
  have c4 := (m3.k 4 (by simp)).trans b4
  have c1 := (m3.k 1 (by simp)).trans b1
  rw [seq (B7_ok c6 c9 c10 c11 hx)]
  obtain ⟨xs, st3, e8, lx, sx, D3⟩ := B8_ok c1 D2
  generalize r4 : setAt (setAt ρ3 12 (some (.lst (xs.map fr)))) 13 (some (fr 0)) = ρ4 at e8
  have m4 : Same [12, 13] ρ3 ρ4 := by rw [← r4]; exact (Same.set (by simp)).trans (Same.set (by simp))
  have n4 : ρ4.length = 22 := m4.l.trans n3
  have d12 : look ρ4 12 = some (.lst (xs.map fr)) := by rw [← r4, look_setAt (by omega)]; exact look_at (by omega)
  have d13 : look ρ4 13 = some (fr 0) := by rw [← r4]; exact look_at (by rw [len_setAt (i := 12)]; omega)
  have dx : ∀ x ∈ xs, dn 12 x := fun x h => (sx x h).1
  obtain ⟨ρ5, e9, f13, m5⟩ := B9_ok (st := st3) d12 d13 n4 lx dx
  have n5 : ρ5.length = 22 := m5.l.trans n4
  have f12 := (m5.k 12 (by simp)).trans d12
  have f6 := (m5.k 6 (by simp)).trans ((m4.k 6 (by simp)).trans c6)
  have f7 := (m5.k 7 (by simp)).trans ((m4.k 7 (by simp)).trans c7)
  have f4 := (m5.k 4 (by simp)).trans ((m4.k 4 (by simp)).trans c4)
  have f1 := (m5.k 1 (by simp)).trans ((m4.k 1 (by simp)).trans c1)
  rw [seq e8, seq e9, seq (B10_ok f6 f7 f4 f12 f13 hx hy lx dx)]
  obtain ⟨ps, n, st4, e11, lp, pp, p0, p1, D4⟩ := B11_ok f1 D3
  generalize r6 : setAt (setAt ρ5 14 (some (.lst (ps.map D.int)))) 15 (some (.int n)) = ρ6 at e11
  have n6 : ρ6.length = 22 := by rw [← r6, len_setAt (i := 15), len_setAt (i := 14)]; exact n5
  have g14 : look ρ6 14 = some (.lst (Ints ps)) := by rw [← r6, look_setAt (by omega)]; exact look_at (by omega)
  have g15 : look ρ6 15 = some (.int n) := by rw [← r6]; exact look_at (by rw [len_setAt (i := 14)]; omega)
  rw [seq e11]
  by_cases hS : ps.sum = 0
  · obtain ⟨ρ', e⟩ := end_0 (st := st4) g14 g15 n6 pp hS
    exact ⟨ρ', st4, e⟩
  · have := sum_low pp
    obtain ⟨ρ', e⟩ := end_1 (st := st4) g14 g15 n6 pp lp p0 p1 (by omega)
    exact ⟨ρ', st4, e⟩
theorem law_ok (ns : List Int) : ∃ st', f_law [.lst (ns.map D.int)] [] = .ok (.bl true) st' := by
  obtain ⟨st1, e1, D1⟩ := rounds_ok ns
  obtain ⟨ρ', st2, e2⟩ := turn_ok (ρ := setAt (startE 22 [.lst (Ints ns)]) 1 (some (.obj 0))) (st := st1) (by rw [len_setAt (i := 1)]; rfl) rfl D1
  refine ⟨st2, ?_⟩
  show fnS 22 1 m_law [.lst (Ints ns)] [] = _
  unfold fnS
  have l0 : look (startE 22 [.lst (Ints ns)]) 0 = some (.lst (Ints ns)) := rfl
  rw [law_cut, seq (ρ' := ρ') (st' := st2) (by
    simp -implicitDefEqProofs only [ap_sFor, iSeq, ap_call, ap_cons, ap_nil, ap_c, mVar, l0, bd_ok, bs_ok, e1]
    conv => lhs; unfold sForL
    simp -implicitDefEqProofs only [ap_gName, bs_ok, e2, ap_for0])]
  simp -implicitDefEqProofs [plain_ok]
theorem holds : PySem.Challenge.rw_courtstack_k01_exact_numbers_for_courts.Holds := law_holds fun ns _ _ => law_ok ns
end K01
theorem PySem.Challenge.cw_courtstack_k01_exact_numbers_for_courts_holds : PySem.Challenge.rw_courtstack_k01_exact_numbers_for_courts.Holds :=
  K01.holds
