import PyProof.Rows.All
import Wide.All
import OpenK.AllK
import Wide.FinOn
import HandS.ForMost
import HandS.IsInst
import HandS.Deep
import HandS.Style
import HandS.Zip
import HandS.Conv
import HandS.SetKeys
import HandS.Small
import HandS.NoneIn
import HandS.WordsExc
import HandS.SetFor
import HandS.Strs
import KE.KDictList
import KE.KExcSuper
import HandS.ExcInit
import KE.KExcIs
import HandS.ExcField
import PySem.Challenge.RW_linepictures_k90_asking_refused
set_option Elab.async false
set_option linter.all false
set_option maxRecDepth 100000
/-! # PyE: plain data, an intermediate text of the Python used here, and its evaluator on plain data (no heap). -/
namespace PY
open PySem L2
abbrev Ky := Sum Int Str

/-- plain data -/
inductive T where
  | non | bl (b : Bool) | int (i : Int) | str (x : Str)
  | lst (ts : List T) | tup (ts : List T)
  | dK (ks : List Ky) (ts : List T) | dT (ks : List (List Ky)) (ts : List T)
  | fn (i : Nat) | scr (ns : List Int)
  | exc (c : Nat) (t : T)
  deriving Inhabited
/-- data owned by one name, that may be written: its leaves are fixed data -/
inductive M where
  | fr (t : T)
  | lst (ms : List M) | tup (ms : List M)
  | dK (ks : List Ky) (ms : List M)
  deriving Inhabited
/-- what a slot holds: fixed data, owned data, a caller's owned data -/
inductive W where
  | val (t : T) | own (m : M) | io (m : M)
  deriving Inhabited
/-- an expression's value -/
inductive R where
  | val (t : T) | own (m : M)
  deriving Inhabited
abbrev Sig := List (Option W)

mutual
def M.er : M → T
  | .fr t => t
  | .lst ms => .lst (M.ers ms)
  | .tup ms => .tup (M.ers ms)
  | .dK ks ms => .dK ks (M.ers ms)
def M.ers : List M → List T
  | [] => []
  | m :: ms => M.er m :: M.ers ms
end
theorem M.ers_map : ∀ ms : List M, M.ers ms = ms.map M.er
  | [] => rfl
  | m :: ms => by rw [M.ers, M.ers_map ms]; rfl
def R.t : R → T
  | .val t => t
  | .own m => m.er
def R.m : R → M
  | .val t => .fr t
  | .own m => m
def R.w : R → W
  | .val t => .val t
  | .own m => .own m
def W.fz : W → W
  | .val t => .val t
  | .own m => .val m.er
  | .io m => .val m.er
def W.t : W → T
  | .val t => t
  | .own m => m.er
  | .io m => m.er
def Sig.fz (σ : Sig) : Sig := σ.map (·.map W.fz)

mutual
/-- no list, no dict in it -/
def T.sc : T → Bool
  | .non => true | .bl _ => true | .int _ => true | .str _ => true | .fn _ => true
  | .tup ts => T.scs ts
  | .lst _ => false | .dK _ _ => false | .dT _ _ => false | .scr _ => false
  | .exc _ _ => false
def T.scs : List T → Bool
  | [] => true
  | t :: ts => T.sc t && T.scs ts
end
mutual
def M.sc : M → Bool
  | .fr t => t.sc
  | .lst ms => M.scs ms
  | .tup ms => M.scs ms
  | .dK _ ms => M.scs ms
def M.scs : List M → Bool
  | [] => true
  | m :: ms => M.sc m && M.scs ms
end
def R.sc : R → Bool
  | .val t => t.sc
  | .own m => m.sc

/-! ### data as the library's -/
mutual
def T.pd : T → Option PyData
  | .non => some .none
  | .bl b => some (.bool b)
  | .int i => some (.int i)
  | .str x => some (.str x)
  | .lst ts => (T.pds ts).map .list
  | .tup ts => (T.pds ts).map .tuple
  | .dK ks ts => match ks with | [] => some (.dict []) | _ :: _ => none
  | .dT ks ts => none
  | .fn _ => none
  | .scr _ => none
  | .exc _ _ => none
def T.pds : List T → Option (List PyData)
  | [] => some []
  | t :: ts => match T.pd t, T.pds ts with
    | some d, some ds => some (d :: ds)
    | _, _ => none
end

/-! ### what an expression gives -/
inductive Out (α : Type) where
  | fail | ok (a : α) (σ : Sig) | ex (c : Nat) (v : T) (σ : Sig)
  deriving Inhabited
def Out.bind {α β : Type} (o : Out α) (f : α → Sig → Out β) : Out β := match o with
  | .fail => .fail
  | .ok a σ => f a σ
  | .ex c v σ => .ex c v σ
def Out.of {α : Type} (o : Option α) (σ : Sig) : Out α := match o with
  | some a => .ok a σ
  | none => .fail
@[simp] theorem Out.bind_ok {α β : Type} (a : α) (σ : Sig) (f : α → Sig → Out β) : (Out.ok a σ).bind f = f a σ := (rfl)
@[simp] theorem Out.bind_fail {α β : Type} (f : α → Sig → Out β) : (Out.fail : Out α).bind f = .fail := (rfl)
@[simp] theorem Out.bind_ex {α β : Type} (c : Nat) (v : T) (σ : Sig) (f : α → Sig → Out β) : (Out.ex c v σ : Out α).bind f = .ex c v σ := (rfl)
@[simp] theorem Out.of_some {α : Type} (a : α) (σ : Sig) : Out.of (some a) σ = .ok a σ := (rfl)
/-- in a block nothing may go wrong -/
def Out.noex {α : Type} (o : Out α) : Out α := match o with
  | .ex _ _ _ => .fail
  | o => o
@[simp] theorem Out.noex_ok {α : Type} (a : α) (σ : Sig) : (Out.ok a σ).noex = .ok a σ := (rfl)
@[simp] theorem Out.noex_fail {α : Type} : (Out.fail : Out α).noex = .fail := (rfl)
@[simp] theorem Out.noex_ex {α : Type} (c : Nat) (v : T) (σ : Sig) : (Out.ex c v σ : Out α).noex = .fail := (rfl)
def onS {α : Type} (o : Option Sig) (f : Sig → Out α) : Out α := match o with
  | some σ => f σ
  | none => .fail
@[simp] theorem onS_some {α : Type} (σ : Sig) (f : Sig → Out α) : onS (some σ) f = f σ := (rfl)
@[simp] theorem onS_none {α : Type} (f : Sig → Out α) : onS none f = .fail := (rfl)
@[simp] theorem Out.of_none {α : Type} (σ : Sig) : (Out.of none σ : Out α) = .fail := (rfl)

/-! ### operators -/
inductive BO where | add | sub | mul | mod | fdiv | pow
  deriving DecidableEq
inductive CO where | eq | ne | lt | le | gt | ge | is | isnot | mem | nmem
  deriving DecidableEq
def mulOk (i j : Int) : Bool := (decide (-(2 ^ 64) < i) && decide (i < 2 ^ 64)) || (decide (-(2 ^ 64) < j) && decide (j < 2 ^ 64))
def bop : BO → T → T → Option T
  | .add, .int i, .int j => some (.int (i + j))
  | .add, .lst a, .lst b => if a.length + b.length ≤ sizeLine then some (.lst (a ++ b)) else none
  | .add, .str a, .str b => if a.length + b.length ≤ sizeLine then some (.str (a ++ b)) else none
  | .sub, .int i, .int j => some (.int (i - j))
  | .mul, .int i, .int j => if mulOk i j then some (.int (i * j)) else none
  | .mul, .lst a, .int k => if -(2 ^ 63) ≤ k ∧ k < 2 ^ 63 ∧ a.length * k.toNat ≤ sizeLine then some (.lst (List.replicate k.toNat a).flatten) else none
  | .mod, .int i, .int j => if 0 < j then some (.int (i % j)) else none
  | .fdiv, .int i, .int j => if 0 < j ∧ j < 1073741824 then some (.int (i / j)) else none
  | .pow, .int i, .int j => if 0 ≤ j ∧ j ≤ 1000000 ∧ i.natAbs < 2 ^ 64 then some (.int (i ^ j.toNat)) else none
  | _, _, _ => none
/-- == where both sides are plain -/
def teq (a b : T) : Option Bool := match a.pd, b.pd with
  | some x, some y => if SeqAt.shaped x && SeqAt.shaped y then some (PyData.eqv x y) else none
  | _, _ => none
def keyOf : T → Option Ky
  | .int i => some (.inl i)
  | .str x => some (.inr x)
  | _ => none
def keysOf : List T → Option (List Ky)
  | [] => some []
  | t :: ts => match keyOf t, keysOf ts with
    | some k, some ks => some (k :: ks)
    | _, _ => none
def kix : List Ky → Ky → Option Nat
  | [], _ => none
  | j :: r, k => if j = k then some 0 else (kix r k).map (· + 1)
def tmem (a : T) : T → Option Bool
  | .lst ts => match a.pd, T.pds ts with
    | some x, some ys => if SeqAt.shaped x && SeqAt.shaped (.list ys) then some (ys.any fun z => PyData.eqv z x) else none
    | _, _ => none
  | .dK ks _ => (keyOf a).map fun k => (kix ks k).isSome
  | .str y => match a with
    | .str x => some (!(Builtin.Str.occurrences y x 0 y.length 1).isEmpty)
    | _ => none
  | _ => none
def isT : T → T → Option Bool
  | .non, .non => some true
  | .bl a, .bl b => some (decide (a = b))
  | .bl _, .non => some false
  | .int _, .non => some false
  | .str _, .non => some false
  | .lst _, .non => some false
  | .tup _, .non => some false
  | .dK _ _, .non => some false
  | .exc _ _, .non => some false
  | .non, .bl _ => some false
  | .int _, .bl _ => some false
  | .str _, .bl _ => some false
  | .lst _, .bl _ => some false
  | .tup _, .bl _ => some false
  | _, _ => none
def cop : CO → T → T → Option Bool
  | .eq, a, b => teq a b
  | .ne, a, b => (teq a b).map (!·)
  | .lt, .int i, .int j => some (decide (i < j))
  | .le, .int i, .int j => some (decide (i ≤ j))
  | .gt, .int i, .int j => some (decide (j < i))
  | .ge, .int i, .int j => some (decide (j ≤ i))
  | .is, a, b => isT a b
  | .isnot, a, b => (isT a b).map (!·)
  | .mem, a, b => tmem a b
  | .nmem, a, b => (tmem a b).map (!·)
  | _, _, _ => none

/-! ### built-ins -/
inductive Ty where | int | bool | str | list | tuple | dict
  deriving DecidableEq
inductive Src where | non | bool | int | str | list | tuple | dict
def srcIs : Src → Ty → Bool
  | .bool, .bool => true | .bool, .int => true | .int, .int => true | .str, .str => true | .list, .list => true | .tuple, .tuple => true | .dict, .dict => true
  | _, _ => false
def T.src : T → Option Src
  | .non => some .non | .bl _ => some .bool | .int _ => some .int | .str _ => some .str | .lst _ => some .list | .tup _ => some .tuple | .dK _ _ => some .dict | .dT _ _ => some .dict
  | .fn _ => none | .scr _ => some .list
  | .exc _ _ => none
def T.isTy (t : T) (ty : Ty) : Option Bool := t.src.map fun a => srcIs a ty
inductive BI where
  | len | int | sum | all | any | list | tuple | min2 | max2 | abs | repr | str
  | minL | maxL
  deriving DecidableEq
def intsOf : List T → Option (List Int)
  | [] => some []
  | .int i :: ts => (intsOf ts).map (i :: ·)
  | _ => none
def blsOf : List T → Option (List Bool)
  | [] => some []
  | .bl b :: ts => (blsOf ts).map (b :: ·)
  | _ => none
def shown? (t : T) : Option Str := match t.pd with
  | some d => if d.showable && decide (d.depth ≤ 60) && decide (d.shown.length ≤ sizeLine) then some d.shown else none
  | none => none
def bi : BI → List T → Option T
  | .len, [.lst ts] => some (.int ts.length)
  | .len, [.tup ts] => some (.int ts.length)
  | .len, [.str x] => if x.length ≤ sizeLine then some (.int x.length) else none
  | .len, [.dK ks ts] => some (.int ks.length)
  | .len, [.scr ns] => some (.int ns.length)
  | .int, [.int i] => some (.int i)
  | .int, [.bl b] => some (.int (if b then 1 else 0))
  | .sum, [.lst ts] => (intsOf ts).map fun ns => .int ns.sum
  | .all, [.lst ts] => (blsOf ts).map fun bs => .bl (bs.all id)
  | .any, [.lst ts] => (blsOf ts).map fun bs => .bl (bs.any id)
  | .list, [.lst ts] => some (.lst ts)
  | .list, [.tup ts] => some (.lst ts)
  | .tuple, [.lst ts] => some (.tup ts)
  | .tuple, [.tup ts] => some (.tup ts)
  | .min2, [.int i, .int j] => some (.int (if j < i then j else i))
  | .max2, [.int i, .int j] => some (.int (if j > i then j else i))
  | .abs, [.int i] => some (.int (if i < 0 then -i else i))
  | .repr, [t] => (shown? t).map .str
  | .maxL, [.lst ts] => (intsOf ts).bind fun ns => ns.max?.map .int
  | .minL, [.lst ts] => (intsOf ts).bind fun ns => ns.min?.map .int
  | _, _ => none
/-- rising, each once -/
def insD (k : Int) : List Int → List Int
  | [] => [k]
  | j :: r => if k < j then k :: j :: r else if k = j then j :: r else j :: insD k r
def sortD (ns : List Int) : List Int := ns.foldr insD []
def rangeT (lo : Int) : Nat → List T
  | 0 => []
  | n + 1 => .int lo :: rangeT (lo + 1) n
def big (i : Int) : Bool := decide (-(2 ^ 62) ≤ i) && decide (i < 2 ^ 62)
/-- what a few more calls give -/
inductive P1 where | sset | dvals | lrng
  deriving DecidableEq
inductive P2 where | count
  deriving DecidableEq
def pf1 : P1 → T → Option T
  | .sset, .lst ts => (intsOf ts).bind fun ns => if ns.length < 4095 ∧ (sortD ns).length < 64 then some (.lst ((sortD ns).map .int)) else none
  | .dvals, .dK _ ts => if ts.length ≤ sizeLine then some (.lst ts) else none
  | .lrng, .int n => if big n ∧ n.toNat ≤ sizeLine then some (.lst (rangeT 0 n.toNat)) else none
  | _, _ => none
/-- the first part's kind -/
def pre2 : P2 → T → Bool
  | .count, .lst _ => true
  | _, _ => false
def pf2 : P2 → T → T → Option T
  | .count, .lst ts, .int k => (intsOf ts).map fun ns => .int (ns.count k)
  | _, _, _ => none
/-- an item -/
def tix : T → T → Option T
  | .lst ts, .int i => atI ts i
  | .tup ts, .int i => atI ts i
  | .scr ns, .int i => (atI ns i).map .int
  | .str x, .int i => if x.length ≤ sizeLine then (atI x.cps.toList i).map fun c => .str ⟨#[c]⟩ else none
  | .dK ks ts, k => (keyOf k).bind fun k => (kix ks k).bind fun j => ts[j]?
  | _, _ => none
/-- a slice -/
def cutT {α : Type} (xs : List α) (lo hi : Option Int) : List α := (xs.drop (HT.sIx xs.length 0 lo)).take (HT.sIx xs.length xs.length hi - HT.sIx xs.length 0 lo)
def tsl (x : T) (lo hi : Option Int) : Option T := match x with
  | .lst ts => some (.lst (cutT ts lo hi))
  | .scr ns => some (.lst ((cutT ns lo hi).map .int))
  | _ => none

/-! ### the text -/
inductive Tg where
  | nm (i : Nat)
  | tp (is : List Nat)
inductive E where
  | sl (i : Nat) | mv (i : Nat) | io (i : Nat) | give (e : E) | pop (i : Nat) | popAt (i : Nat) (e : E)
  | non | bl (b : Bool) | int (i : Int) | str (x : Str)
  | gi (x : Str) (i : Int)
  | fnv (f : Nat)
  | nil | cons (e es : E)
  | lst (own : Bool) (es : E) | tup (own : Bool) (es : E)
  | dnew (own : Bool)
  | bin (op : BO) (a b : E) | neg (a : E) | not (a : E)
  | and (a b : E) | or (a b : E)
  | cmp (op : CO) (a b : E) | chain (op op' : CO) (a b c : E)
  | ite (c a b : E)
  | call (f : Nat) (as : E)
  | callk (f : Nat) (ks : List Nat) (as : E)
  | bi (b : BI) (as : E)
  | isi (a : E) (ty : Ty) | isi2 (a : E) (ty ty' : Ty)
  | ix (a b : E)
  | slice (a lo hi : E)
  | pr1 (p : P1) (a : E) | pr2 (p : P2) (a b : E)
  | none
  | rng1 (a : E) | rng2 (a b : E) | enum (a : E) | zip (strict : Bool) (a b : E)
  | comp (own : Bool) (vs : List (Nat)) (tg : Tg) (it : E) (c : E) (e : E)
  | comp2 (own : Bool) (vs vs1 : List Nat) (tg : Tg) (it : E) (tg1 : Tg) (it1 : E) (e : E)
  | bor (e : E)
  | isc (a : E) (c : Nat) (cs : List Nat) | isv (a : E) | xval (a : E)
  | callv (i : Nat) (fl : List Nat) (as : E)
  | dlit (own : Bool) (ks : List Ky) (es : E)   -- {k: e, ..}
  | lcp (a : E)   -- list(a), to be written
inductive S where
  | nil | seq (a b : S)
  | pass
  | set (i : Nat) (e : E)
  | setT (is : List Nat) (e : E)
  | par (is : List Nat) (es : E)
  | setIx (i : Nat) (k : E) (e : E)
  | setAt (i : Nat) (p : E) (k : E) (e : E)   -- x[p][k] = e
  | augIx (i : Nat) (k : E) (op : BO) (e : E)
  | expr (e : E)
  | app (i : Nat) (e : E)
  | appAt (i : Nat) (p : E) (e : E)   -- x[p].append(e)
  | sdApp (i : Nat) (k : E) (e : E)
  | ret (e : E) | retN
  | iff (c : E) (a b : S)
  | for (tg : Tg) (it : E) (b : S)
  | while (c : E) (b : S)
  | brk | cnt
  | never
  | raise (c : Nat) (e : E)
  | tryS (b : S) (n k : Nat)   -- try: b, except .. as n: k = n

/-! ### evaluation -/
def rd (i : Nat) (σ : Sig) : Out R := match σ[i]? with
  | some (some (.val t)) => .ok (.val t) σ
  | some (some (.own m)) => .ok (.val m.er) (σ.set i (some (.val m.er)))
  | some (some (.io m)) => .ok (.val m.er) (σ.set i (some (.val m.er)))
  | _ => .fail
def mvd (i : Nat) (σ : Sig) : Out R := match σ[i]? with
  | some (some (.own m)) => .ok (.own m) (σ.set i none)
  | _ => .fail
def M.r : M → R
  | .fr t => .val t
  | m => .own m
def popM (i : Nat) (σ : Sig) (f : List M → Option (M × List M)) : Out R := match σ[i]? with
  | some (some (.own (.lst ms))) => match f ms with
    | some (m, ms') => .ok m.r (σ.set i (some (.own (.lst ms'))))
    | none => .fail
  | _ => .fail
def popd (i : Nat) (σ : Sig) : Out R := popM i σ fun ms => (ms[ms.length - 1]?).map fun m => (m, ms.dropLast)
def popA (i : Nat) (t : T) (σ : Sig) : Out R := match t with
  | .int k => popM i σ fun ms => (ixN ms.length k).bind fun j => (ms[j]?).map fun m => (m, ms.eraseIdx j)
  | _ => .fail
/-- a name is given a value -/
def put (i : Nat) (r : R) (σ : Sig) : Option Sig := match σ[i]? with
  | some (some (.io _)) => none
  | some _ => some (σ.set i (some r.w))
  | none => none
def puts : List Nat → List T → Sig → Option Sig
  | [], [], σ => some σ
  | i :: is, t :: ts, σ => (put i (.val t) σ).bind fun σ => puts is ts σ
  | _, _, _ => none
def Tg.put : Tg → T → Sig → Option Sig
  | .nm i, t, σ => PY.put i (.val t) σ
  | .tp is, .tup ts, σ => puts is ts σ
  | _, _, _ => none
/-- the slots of a comprehension's own names: hidden -/
def hide : List Nat → Sig → Option Sig
  | [], σ => some σ
  | i :: is, σ => match σ[i]? with
    | some none => hide is σ
    | some (some (.val _)) => (hide is σ).map fun σ => σ.set i none
    | _ => none
/-- .. and back -/
def back (vs : List Nat) (σ0 σ : Sig) : Sig := vs.foldr (fun i σ => σ.set i ((σ0[i]?).getD none)) σ
def wipes (vs : List Nat) (σ : Sig) : Sig := vs.foldr (fun i σ => σ.set i none) σ

/-- what is walked -/
def itemsOf : T → Option (List T)
  | .lst ts => some ts
  | .tup ts => some ts
  | .scr ns => some (ns.map .int)
  | _ => none
def enumFrom : Nat → List T → List T
  | _, [] => []
  | n, t :: ts => .tup [.int n, t] :: enumFrom (n + 1) ts
def zipT : List T → List T → List T
  | a :: as, b :: bs => .tup [a, b] :: zipT as bs
  | _, _ => []

def zipS (strict : Bool) : T → T → Option (List T)
  | .lst ts, .lst us => if strict && ts.length != us.length then none else some (zipT ts us)
  | .tup ts, .tup us => if strict && ts.length != us.length then none else some (zipT ts us)
  | _, _ => none
def onS2 {α β : Type} (o : Option β) (f : β → Out α) : Out α := match o with
  | some b => f b
  | none => .fail
@[simp] theorem onS2_some {α β : Type} (b : β) (f : β → Out α) : onS2 (some b) f = f b := (rfl)
@[simp] theorem onS2_none {α β : Type} (f : β → Out α) : onS2 none f = .fail := (rfl)
def evL (f : T → Sig → Out (List M)) : List T → Sig → Out (List M)
  | [], σ => .ok [] σ
  | t :: ts, σ => (f t σ).bind fun a σ => (evL f ts σ).bind fun b σ => .ok (a ++ b) σ

def keepIf (b : Bool) (f : Sig → Out (List M)) (vs : List Nat) (σ : Sig) : Out (List M) := if b then f σ else .ok [] (wipes vs σ)
def finL (own : Bool) (ms : List M) (σ : Sig) : Out R := if ms.length ≤ sizeLine then .ok (if own then .own (.lst ms) else .val (.lst (ms.map M.er))) σ else .fail
/-- the arguments as slots -/
inductive A where | v (t : T) | io (i : Nat) | gv (m : M)
def argTs : List A → Option (List T)
  | [] => some []
  | .v t :: as => (argTs as).map (t :: ·)
  | .io _ :: _ => none
  | .gv _ :: _ => none

def R.int1 (r : R) (σ : Sig) : Out (Option Int) := match r.t with
  | .int i => .ok (some i) σ
  | _ => .fail
def R.bool (r : R) (σ : Sig) : Out Bool := match r.t with
  | .bl b => .ok b σ
  | _ => .fail
/-- a dict's display, its keys all unlike -/
def dlitF (own : Bool) (ks : List Ky) (ms : List M) (σ : Sig) : Out R :=
  if ks.length = ms.length ∧ ks.length ≤ 15 ∧ ks.Nodup then .ok (if own then .own (.dK ks ms) else .val (.dK ks (ms.map M.er))) σ else .fail
def lcpF (t : T) (σ : Sig) : Out R := match t with
  | .lst ts => .ok (.own (.lst (ts.map .fr))) σ
  | .tup ts => .ok (.own (.lst (ts.map .fr))) σ
  | _ => .fail
/-- isinstance of an own exception -/
def T.isc (cs : List Nat) : T → Option Bool
  | .exc c _ => some (cs.contains c)
  | _ => none
def T.isv : T → Option Bool
  | .exc _ _ => some true
  | _ => none
def T.xval : T → Option T
  | .exc _ t => some t
  | _ => none
section
-- how defs are called: the def, its arguments; what comes, and the parameters' slots behind it
variable (cl : Nat → List W → Out R)

/-- what the caller's slot holds behind the call -/
def wbk (k : Bool) : Option (Option W) → Option W
  | some (some (.io m)) => some (if k then .io m else .own m)
  | _ => none
def callA (f : Nat) (as : List A) (σ : Sig) : Out R := match as with
  | .io i :: as => match argTs as, σ[i]? with
    | some ts, some (some (.own m)) => match cl f (.io m :: ts.map .val) with
      | .ok r σ' => .ok r (σ.set i (wbk false σ'[0]?))
      | .ex c v σ' => .ex c v (σ.set i (wbk false σ'[0]?))
      | .fail => .fail
    | some ts, some (some (.io m)) => match cl f (.io m :: ts.map .val) with
      | .ok r σ' => .ok r (σ.set i (wbk true σ'[0]?))
      | .ex c v σ' => .ex c v (σ.set i (wbk true σ'[0]?))
      | .fail => .fail
    | _, _ => .fail
  | .gv m :: as => match argTs as with
    | some ts => match cl f (.io m :: ts.map .val) with
      | .ok r _ => .ok r σ
      | .ex c v _ => .ex c v σ
      | .fail => .fail
    | none => .fail
  | as => match argTs as with
    | some ts => match cl f (ts.map .val) with
      | .ok r _ => .ok r σ
      | .ex c v _ => .ex c v σ
      | .fail => .fail
    | none => .fail

mutual
def ev : E → Sig → Out R
  | .sl i, σ => rd i σ
  | .mv i, σ => mvd i σ
  | .io _, _ => .fail
  | .give _, _ => .fail
  | .pop i, σ => popd i σ
  | .popAt i e, σ => (ev e σ).bind fun r σ => popA i r.t σ
  | .non, σ => .ok (.val .non) σ
  | .bl b, σ => .ok (.val (.bl b)) σ
  | .int i, σ => .ok (.val (.int i)) σ
  | .str x, σ => .ok (.val (.str x)) σ
  | .gi _ i, σ => .ok (.val (.int i)) σ
  | .fnv f, σ => .ok (.val (.fn f)) σ
  | .nil, _ => .fail
  | .cons _ _, _ => .fail
  | .none, _ => .fail
  | .rng1 _, _ => .fail | .rng2 _ _, _ => .fail | .enum _, _ => .fail | .zip _ _ _, _ => .fail
  | .lst own es, σ => (evM es σ).bind fun ms σ => if ms.length ≤ sizeLine then .ok (if own then .own (.lst ms) else .val (.lst (ms.map M.er))) σ else .fail
  | .tup own es, σ => (evM es σ).bind fun ms σ => if ms.length ≤ sizeLine then .ok (if own then .own (.tup ms) else .val (.tup (ms.map M.er))) σ else .fail
  | .dnew own, σ => .ok (if own then .own (.dK [] []) else .val (.dK [] [])) σ
  | .bin op a b, σ => (ev a σ).bind fun x σ => (ev b σ).bind fun y σ => Out.of ((bop op x.t y.t).map .val) σ
  | .neg a, σ => (ev a σ).bind fun x σ => match x.t with | .int i => .ok (.val (.int (-i))) σ | _ => .fail
  | .not a, σ => (ev a σ).bind fun x σ => match x.t with | .bl b => .ok (.val (.bl (!b))) σ | _ => .fail
  | .and a b, σ => (ev a σ).bind fun x σ => match x.t with | .bl true => ev b σ | .bl false => .ok (.val (.bl false)) σ | _ => .fail
  | .or a b, σ => (ev a σ).bind fun x σ => match x.t with | .bl true => .ok (.val (.bl true)) σ | .bl false => ev b σ | _ => .fail
  | .cmp op a b, σ => (ev a σ).bind fun x σ => (ev b σ).bind fun y σ => Out.of ((cop op x.t y.t).map (.val <| .bl ·)) σ
  | .chain op op' a b c, σ => (ev a σ).bind fun x σ => (ev b σ).bind fun y σ => match cop op x.t y.t with
    | some true => (ev c σ).bind fun z σ => Out.of ((cop op' y.t z.t).map (.val <| .bl ·)) σ
    | some false => .ok (.val (.bl false)) σ
    | none => .fail
  | .ite c a b, σ => (ev c σ).bind fun x σ => match x.t with | .bl true => ev a σ | .bl false => ev b σ | _ => .fail
  | .call f as, σ => (evA as σ).bind fun as σ => callA cl f as σ
  | .callk f ks as, σ => (evA as σ).bind fun as σ => match argTs as with
    | some ts => callA cl f (ks.filterMap fun k => (ts[k]?).map A.v) σ
    | none => .fail
  | .bi b as, σ => (evA as σ).bind fun as σ => Out.of ((argTs as).bind fun ts => (bi b ts).map .val) σ
  | .isi a ty, σ => (ev a σ).bind fun x σ => Out.of ((x.t.isTy ty).map (.val <| .bl ·)) σ
  | .isi2 a ty ty', σ => (ev a σ).bind fun x σ => match x.t.isTy ty, x.t.isTy ty' with
    | some p, some q => .ok (.val (.bl (p || q))) σ
    | _, _ => .fail
  | .ix a b, σ => (ev a σ).bind fun x σ => (ev b σ).bind fun y σ => Out.of ((tix x.t y.t).map .val) σ
  | .slice a lo hi, σ => (ev a σ).bind fun x σ => (evO lo σ).bind fun l σ => (evO hi σ).bind fun h σ => Out.of ((tsl x.t l h).map .val) σ
  | .pr1 p a, σ => (ev a σ).bind fun x σ => Out.of ((pf1 p x.t).map .val) σ
  | .pr2 p a b, σ => (ev a σ).bind fun x σ => if pre2 p x.t then (ev b σ).bind fun y σ => Out.of ((pf2 p x.t y.t).map .val) σ else .fail
  | .comp own vs tg it c e, σ => (evIt it σ).bind fun ts σ0 => onS (hide vs σ0) fun σ1 => (evL (fun t σ => onS (tg.put t σ) fun σ => ((evC c σ).bind fun b σ => keepIf b (fun σ => (ev e σ).bind fun r σ => .ok [r.m] (wipes vs σ)) vs σ).noex) ts σ1).bind fun ms σ => finL own ms (back vs σ0 σ)
  | .comp2 own vs vs1 tg it tg1 it1 e, σ => (evIt it σ).bind fun ts σ0 => onS (hide vs σ0) fun σ1 => (evL (fun t σ => onS (tg.put t σ) fun σ => (evIt it1 σ).noex.bind fun ts1 σ => (evL (fun t1 σ => onS (tg1.put t1 σ) fun σ => ((ev e σ).bind fun r σ => .ok [r.m] (wipes vs1 σ)).noex) ts1 (wipes vs1 σ)).bind fun ms σ => .ok ms (wipes vs σ)) ts σ1).bind fun ms σ => finL own ms (back vs σ0 σ)
  | .bor e, σ => match ev e σ.fz with
    | .ok r _ => if r.sc then .ok r σ else .fail
    | .ex c v σ => .ex c v σ
    | .fail => .fail
  | .dlit own ks es, σ => (evM es σ).bind fun ms σ => dlitF own ks ms σ
  | .lcp a, σ => (ev a σ).bind fun x σ => lcpF x.t σ
  | .isc a _ cs, σ => (ev a σ).bind fun x σ => Out.of ((x.t.isc cs).map (.val <| .bl ·)) σ
  | .isv a, σ => (ev a σ).bind fun x σ => Out.of (x.t.isv.map (.val <| .bl ·)) σ
  | .xval a, σ => (ev a σ).bind fun x σ => Out.of (x.t.xval.map .val) σ
  | .callv i fl as, σ => (rd i σ).bind fun r σ => match r.t with
    | .fn f => if fl.contains f then (evA as σ).bind fun as σ => callA cl f as σ else .fail
    | _ => .fail
/-- the items of a display, a list -/
def evM : E → Sig → Out (List M)
  | .nil, σ => .ok [] σ
  | .cons e es, σ => (ev e σ).bind fun r σ => (evM es σ).bind fun ms σ => .ok (r.m :: ms) σ
  | _, _ => .fail
/-- arguments -/
def evA : E → Sig → Out (List A)
  | .nil, σ => .ok [] σ
  | .cons (.io i) es, σ => match σ[i]? with
    | some (some (.own _)) => (evA es σ).bind fun as σ => .ok (.io i :: as) σ
    | some (some (.io _)) => (evA es σ).bind fun as σ => .ok (.io i :: as) σ
    | _ => .fail
  | .cons (.give e) es, σ => (ev e σ).bind fun r σ => (evA es σ).bind fun as σ => .ok (.gv r.m :: as) σ
  | .cons e es, σ => (ev e σ).bind fun r σ => (evA es σ).bind fun as σ => .ok (.v r.t :: as) σ
  | _, _ => .fail
/-- an optional part -/
def evO : E → Sig → Out (Option Int)
  | .none, σ => .ok none σ
  | e, σ => (ev e σ).bind R.int1
/-- a test that may lack -/
def evC : E → Sig → Out Bool
  | .none, σ => .ok true σ
  | e, σ => (ev e σ).bind R.bool
/-- what is walked -/
def evIt : E → Sig → Out (List T)
  | .rng1 a, σ => (ev a σ).bind fun r σ => match r.t with | .int n => if big n then .ok (rangeT 0 n.toNat) σ else .fail | _ => .fail
  | .rng2 a b, σ => (ev a σ).bind fun r σ => (ev b σ).bind fun r' σ => match r.t, r'.t with | .int m, .int n => if big m && big n then .ok (rangeT m (n - m).toNat) σ else .fail | _, _ => .fail
  | .enum a, σ => (ev a σ).bind fun r σ => match r.t with | .lst ts => .ok (enumFrom 0 ts) σ | _ => .fail
  | .zip strict a b, σ => (ev a σ).bind fun r σ => (ev b σ).bind fun r' σ => onS2 (zipS strict r.t r'.t) fun ts => .ok ts σ
  | e, σ => (ev e σ).bind fun r σ => Out.of (itemsOf r.t) σ
end
end

/-! ### statements -/
inductive Fl where
  | fail | nx (σ : Sig) | rt (r : R) (σ : Sig) | bk (σ : Sig) | ct (σ : Sig) | ex (c : Nat) (v : T) (σ : Sig)
  deriving Inhabited
def Out.fl {α : Type} (o : Out α) (f : α → Sig → Fl) : Fl := match o with
  | .fail => .fail
  | .ok a σ => f a σ
  | .ex c v σ => .ex c v σ
@[simp] theorem Out.fl_ok {α : Type} (a : α) (σ : Sig) (f : α → Sig → Fl) : (Out.ok a σ).fl f = f a σ := (rfl)
@[simp] theorem Out.fl_fail {α : Type} (f : α → Sig → Fl) : (Out.fail : Out α).fl f = .fail := (rfl)
@[simp] theorem Out.fl_ex {α : Type} (c : Nat) (v : T) (σ : Sig) (f : α → Sig → Fl) : (Out.ex c v σ : Out α).fl f = .ex c v σ := (rfl)
def Fl.of (o : Option Sig) : Fl := match o with
  | some σ => .nx σ
  | none => .fail
@[simp] theorem Fl.of_some (σ : Sig) : Fl.of (some σ) = .nx σ := (rfl)
@[simp] theorem Fl.of_none : Fl.of none = .fail := (rfl)
def Fl.thn (o : Fl) (f : Sig → Fl) : Fl := match o with
  | .nx σ => f σ
  | o => o
@[simp] theorem Fl.thn_nx (σ : Sig) (f : Sig → Fl) : (Fl.nx σ).thn f = f σ := (rfl)
@[simp] theorem Fl.thn_rt (r : R) (σ : Sig) (f : Sig → Fl) : (Fl.rt r σ).thn f = .rt r σ := (rfl)
@[simp] theorem Fl.thn_fail (f : Sig → Fl) : Fl.fail.thn f = .fail := (rfl)
@[simp] theorem Fl.thn_bk (σ : Sig) (f : Sig → Fl) : (Fl.bk σ).thn f = .bk σ := (rfl)
@[simp] theorem Fl.thn_ct (σ : Sig) (f : Sig → Fl) : (Fl.ct σ).thn f = .ct σ := (rfl)
@[simp] theorem Fl.thn_ex (c : Nat) (v : T) (σ : Sig) (f : Sig → Fl) : (Fl.ex c v σ).thn f = .ex c v σ := (rfl)

/-! ### owned data changed at a place -/
def M.kids : M → List M
  | .lst ms => ms
  | .tup ms => ms
  | .dK _ ms => ms
  | .fr _ => []
def M.setKid (j : Nat) (x : M) : M → M
  | .lst ms => .lst (ms.set j x)
  | .tup ms => .tup (ms.set j x)
  | .dK ks ms => .dK ks (ms.set j x)
  | .fr t => .fr t
def M.pos : M → T → Option Nat
  | .lst ms, .int i => ixN ms.length i
  | .dK ks _, t => (keyOf t).bind (kix ks)
  | _, _ => none
def M.app (x : M) : M → Option M
  | .lst ms => if ms.length < sizeLine then some (.lst (ms ++ [x])) else none
  | _ => none
def M.putIx (k : T) (x : M) : M → Option M
  | .lst ms => match k with
    | .int i => (ixN ms.length i).map fun j => .lst (ms.set j x)
    | _ => none
  | .dK ks ms => match keyOf k with
    | some k => match kix ks k with
      | some j => if ks.length < sizeLine ∧ kix (ks.drop (j + 1)) k = none then some (.dK ks (ms.set j x)) else none
      | none => if ks.length < sizeLine then some (.dK (ks ++ [k]) (ms ++ [x])) else none
    | none => none
  | _ => none
/-- x.setdefault(k, []) -/
def M.sdDef (k : T) : M → Option M
  | .dK ks ms => match keyOf k with
    | some k => if ks.length < sizeLine then match kix ks k with
      | some _ => some (.dK ks ms)
      | none => some (.dK (ks ++ [k]) (ms ++ [.lst []]))
      else none
    | none => none
  | _ => none
/-- the part at t, changed -/
def M.mod (f : M → Option M) (t : T) (m : M) : Option M := (m.pos t).bind fun j => (m.kids[j]?).bind fun c => (f c).map fun c => M.setKid j c m
def upS (i : Nat) (f : M → Option M) (σ : Sig) : Option Sig := match σ[i]? with
  | some (some (.own m)) => (f m).map fun m => σ.set i (some (.own m))
  | some (some (.io m)) => (f m).map fun m => σ.set i (some (.io m))
  | _ => none
def putsM : List Nat → List M → Sig → Option Sig
  | [], [], σ => some σ
  | i :: is, m :: ms, σ => (put i m.r σ).bind fun σ => putsM is ms σ
  | _, _, _ => none
def R.parts : R → Option (List M)
  | .val (.tup ts) => some (ts.map .fr)
  | .own (.tup ms) => some ms
  | _ => none

def iffF (r : R) (a b : Fl) : Fl := match r.t with
  | .bl true => a
  | .bl false => b
  | _ => .fail
/-- a loop's body is done -/
def loopF (o : Fl) (g : Sig → Fl) : Fl := match o with
  | .nx σ => g σ
  | .ct σ => g σ
  | .bk σ => .nx σ
  | .rt r σ => .rt r σ
  | .ex c v σ => .ex c v σ
  | .fail => .fail
def evF (f : T → Sig → Fl) : List T → Sig → Fl
  | [], σ => .nx σ
  | t :: ts, σ => loopF (f t σ) (evF f ts)
def evW (c : Sig → Out R) (b : Sig → Fl) : Nat → Sig → Fl
  | 0, _ => .fail
  | n + 1, σ => (c σ).fl fun r σ => iffF r (loopF (b σ) (evW c b n)) (.nx σ)
def fuel : Nat := 1000000000000

section
variable (cl : Nat → List W → Out R)
/-- the slot i is out of reach meanwhile -/
def evH (i : Nat) (e : E) (σ : Sig) : Out R := match σ[i]? with
  | some (some (.own m)) => (ev cl e (σ.set i none)).bind fun r σ => .ok r (σ.set i (some (.own m)))
  | some (some (.io m)) => (ev cl e (σ.set i none)).bind fun r σ => .ok r (σ.set i (some (.io m)))
  | _ => .fail
def isL : Option (Option W) → Bool
  | some (some (.own (.lst _))) => true
  | some (some (.io (.lst _))) => true
  | _ => false
def isD : Option (Option W) → Bool
  | some (some (.own (.dK _ _))) => true
  | some (some (.io (.dK _ _))) => true
  | _ => false
def isC (o : Option (Option W)) : Bool := isL o || isD o
def ownM : Option (Option W) → Option M
  | some (some (.own m)) => some m
  | some (some (.io m)) => some m
  | _ => none
/-- the part at t is a list or a dict -/
def isK (t : T) (o : Option (Option W)) : Bool := match (ownM o).bind fun m => (m.pos t).bind fun j => m.kids[j]? with
  | some (.lst _) => true
  | some (.dK _ _) => true
  | _ => false
def isKL (t : T) (o : Option (Option W)) : Bool := match (ownM o).bind fun m => (m.pos t).bind fun j => m.kids[j]? with
  | some (.lst _) => true
  | _ => false
def slotT : Option (Option W) → Option T
  | some (some w) => some w.t
  | _ => none
def onF (o : Option Sig) (f : Sig → Fl) : Fl := match o with
  | some σ => f σ
  | none => .fail
@[simp] theorem onF_some (σ : Sig) (f : Sig → Fl) : onF (some σ) f = f σ := (rfl)
@[simp] theorem onF_none (f : Sig → Fl) : onF none f = .fail := (rfl)
/-- the exception is kept in the slot k, the clause's own name goes -/
def tryF (n k : Nat) : Fl → Fl
  | .ex c v σ => .of (put k (.val (.exc c v)) (σ.set n none))
  | o => o
def evS : S → Sig → Fl
  | .nil, σ => .nx σ
  | .pass, σ => .nx σ
  | .seq a b, σ => (evS a σ).thn fun σ => evS b σ
  | .set i e, σ => (ev cl e σ).fl fun r σ => .of (put i r σ)
  | .setT is e, σ => (ev cl e σ).fl fun r σ => .of (r.parts.bind fun ms => putsM is ms σ)
  | .par is es, σ => (evM cl es σ).fl fun ms σ => .of (putsM is ms σ)
  | .setIx i k e, σ => (ev cl e σ).fl fun r σ => if (slotT σ[i]?).isSome then (ev cl k σ).fl fun k σ => .of (upS i (M.putIx k.t r.m) σ) else .fail
  | .setAt i p k e, σ => (ev cl e σ).fl fun r σ => if isC σ[i]? then (ev cl p σ).fl fun p σ => if isK p.t σ[i]? then (evH cl i k σ).fl fun k σ => .of (upS i (M.mod (M.putIx k.t r.m) p.t) σ) else .fail else .fail
  | .augIx i k _ e, σ => if isL σ[i]? then (ev cl k σ).fl fun k σ => match k.t, slotT σ[i]? with
    | .int j, some (.lst ts) => match atI ts j with
      | some (.int a) => (ev cl e σ).fl fun r σ => match r.t with
        | .int b => .of (upS i (M.putIx (.int j) (.fr (.int (a + b)))) σ)
        | _ => .fail
      | _ => .fail
    | _, _ => .fail
    else .fail
  | .expr e, σ => (ev cl e σ).fl fun _ σ => .nx σ
  | .app i e, σ => if isL σ[i]? then (ev cl e σ).fl fun r σ => .of (upS i (M.app r.m) σ) else .fail
  | .appAt i p e, σ => if isC σ[i]? then (ev cl p σ).fl fun p σ => if isKL p.t σ[i]? then (evH cl i e σ).fl fun r σ => .of (upS i (M.mod (M.app r.m) p.t) σ) else .fail else .fail
  | .sdApp i k e, σ => if isD σ[i]? then (ev cl k σ).fl fun k σ => onF (upS i (M.sdDef k.t) σ) fun σ => if isKL k.t σ[i]? then (evH cl i e σ).fl fun r σ => .of (upS i (M.mod (M.app r.m) k.t) σ) else .fail else .fail
  | .ret e, σ => (ev cl e σ).fl fun r σ => .rt r σ
  | .retN, σ => .rt (.val .non) σ
  | .iff c a b, σ => (ev cl c σ).fl fun r σ => iffF r (evS a σ) (evS b σ)
  | .for tg it b, σ => (evIt cl it σ).fl fun ts σ => evF (fun t σ => onF (tg.put t σ) fun σ => evS b σ) ts σ
  | .while c b, σ => evW (ev cl c) (evS b) fuel σ
  | .brk, σ => .bk σ
  | .cnt, σ => .ct σ
  | .never, _ => .fail
  | .raise c e, σ => (ev cl e σ).fl fun r σ => .ex c r.t σ
  | .tryS b n k, σ => tryF n k (evS b σ)
end

/-! ### defs -/
structure Def where
  np : Nat
  ns : Nat
  body : S
/-- what the caller may know of the parameters' slots -/
def ioOf : Option (Option W) → Option W
  | some (some (.io m)) => some (.io m)
  | _ => none
def ends : Nat → Sig → Sig
  | 0, _ => []
  | n + 1, σ => ioOf σ[(0 : Nat)]? :: List.replicate n none
/-- the defs of a program; what has no text here is told by its deed -/
structure Prg where
  df : Nat → Option Def
  prim : Nat → Nat → List W → Out R
def callF (p : Prg) : Nat → Nat → List W → Out R
  | 0, _, _ => .fail
  | n + 1, f, ws => match p.df f with
    | some d => if ws.length = d.np ∧ d.np ≤ d.ns then match evS (callF p n) d.body (ws.map some ++ List.replicate (d.ns - d.np) none) with
        | .rt r σ => .ok r (ends d.np σ)
        | .nx σ => .ok (.val .non) (ends d.np σ)
        | .ex c v σ => .ex c v (ends d.np σ)
        | _ => .fail
      else .fail
    | none => p.prim n f ws

end PY
set_option Elab.async false
set_option linter.all false
set_option maxRecDepth 100000
set_option maxHeartbeats 1000000
/-! # PyG: the evaluator once more, as the kernel can run it -/
namespace PY
open PySem L2

inductive Mo where | v | m | a | o | c | it | g
abbrev Res : Mo → Type
  | .v => R | .m => List M | .a => List A | .o => Option Int | .c => Bool | .it => List T | .g => R
def finG : (k : Mo) → Out R → Out (Res k)
  | .v, x => x
  | .m, _ => .fail
  | .a, _ => .fail
  | .o, x => x.bind R.int1
  | .c, x => x.bind R.bool
  | .it, x => x.bind fun r σ => Out.of (itemsOf r.t) σ
  | .g, _ => .fail
def itG : (k : Mo) → Out (List T) → Out (Res k)
  | .it, x => x
  | _, _ => .fail
def nilG : (k : Mo) → Sig → Out (Res k)
  | .m, σ => .ok [] σ
  | .a, σ => .ok [] σ
  | _, _ => .fail
def noneG : (k : Mo) → Sig → Out (Res k)
  | .o, σ => .ok none σ
  | .c, σ => .ok true σ
  | _, _ => .fail
def giveG : (k : Mo) → Out R → Out (Res k)
  | .g, x => x
  | _, _ => .fail
inductive AK where | io (i : Nat) | give | plain
def argK : E → AK
  | .io i => .io i
  | .give _ => .give
  | _ => .plain
def consG : (k : Mo) → (E : Out (List M)) → (A : Out (List A)) → Out (Res k)
  | .m, x, _ => x
  | .a, _, y => y
  | _, _, _ => .fail
def isOwn : Option (Option W) → Bool
  | some (some (.own _)) => true
  | some (some (.io _)) => true
  | _ => false
def argG (e : E) (v g : Sig → Out R) (rest : Sig → Out (List A)) (σ : Sig) : Out (List A) := match argK e with
  | .io i => if isOwn σ[i]? then (rest σ).bind fun as σ => .ok (.io i :: as) σ else .fail
  | .give => (g σ).bind fun r σ => (rest σ).bind fun as σ => .ok (.gv r.m :: as) σ
  | .plain => (v σ).bind fun r σ => (rest σ).bind fun as σ => .ok (.v r.t :: as) σ
section
variable (cl : Nat → List W → Out R)
def evG : E → (k : Mo) → Sig → Out (Res k)
  | .sl i, k, σ => finG k (rd i σ)
  | .mv i, k, σ => finG k (mvd i σ)
  | .io _, k, _ => finG k .fail
  | .give e, k, σ => giveG k (evG e .v σ)
  | .pop i, k, σ => finG k (popd i σ)
  | .popAt i e, k, σ => finG k ((evG e .v σ).bind fun r σ => popA i r.t σ)
  | .non, k, σ => finG k (.ok (.val .non) σ)
  | .bl b, k, σ => finG k (.ok (.val (.bl b)) σ)
  | .int i, k, σ => finG k (.ok (.val (.int i)) σ)
  | .str x, k, σ => finG k (.ok (.val (.str x)) σ)
  | .gi _ i, k, σ => finG k (.ok (.val (.int i)) σ)
  | .fnv f, k, σ => finG k (.ok (.val (.fn f)) σ)
  | .nil, k, σ => nilG k σ
  | .cons e es, k, σ => consG k ((evG e .v σ).bind fun r σ => (evG es .m σ).bind fun ms σ => .ok (r.m :: ms) σ) (argG e (evG e .v) (evG e .g) (evG es .a) σ)
  | .none, k, σ => noneG k σ
  | .rng1 a, k, σ => itG k ((evG a .v σ).bind fun r σ => match r.t with | .int n => if big n then .ok (rangeT 0 n.toNat) σ else .fail | _ => .fail)
  | .rng2 a b, k, σ => itG k ((evG a .v σ).bind fun r σ => (evG b .v σ).bind fun r' σ => match r.t, r'.t with | .int m, .int n => if big m && big n then .ok (rangeT m (n - m).toNat) σ else .fail | _, _ => .fail)
  | .enum a, k, σ => itG k ((evG a .v σ).bind fun r σ => match r.t with | .lst ts => .ok (enumFrom 0 ts) σ | _ => .fail)
  | .zip strict a b, k, σ => itG k ((evG a .v σ).bind fun r σ => (evG b .v σ).bind fun r' σ => onS2 (zipS strict r.t r'.t) fun ts => .ok ts σ)
  | .lst own es, k, σ => finG k ((evG es .m σ).bind fun ms σ => if ms.length ≤ sizeLine then .ok (if own then .own (.lst ms) else .val (.lst (ms.map M.er))) σ else .fail)
  | .tup own es, k, σ => finG k ((evG es .m σ).bind fun ms σ => if ms.length ≤ sizeLine then .ok (if own then .own (.tup ms) else .val (.tup (ms.map M.er))) σ else .fail)
  | .dnew own, k, σ => finG k (.ok (if own then .own (.dK [] []) else .val (.dK [] [])) σ)
  | .bin op a b, k, σ => finG k ((evG a .v σ).bind fun x σ => (evG b .v σ).bind fun y σ => Out.of ((bop op x.t y.t).map .val) σ)
  | .neg a, k, σ => finG k ((evG a .v σ).bind fun x σ => match x.t with | .int i => .ok (.val (.int (-i))) σ | _ => .fail)
  | .not a, k, σ => finG k ((evG a .v σ).bind fun x σ => match x.t with | .bl b => .ok (.val (.bl (!b))) σ | _ => .fail)
  | .and a b, k, σ => finG k ((evG a .v σ).bind fun x σ => match x.t with | .bl true => evG b .v σ | .bl false => .ok (.val (.bl false)) σ | _ => .fail)
  | .or a b, k, σ => finG k ((evG a .v σ).bind fun x σ => match x.t with | .bl true => .ok (.val (.bl true)) σ | .bl false => evG b .v σ | _ => .fail)
  | .cmp op a b, k, σ => finG k ((evG a .v σ).bind fun x σ => (evG b .v σ).bind fun y σ => Out.of ((cop op x.t y.t).map (.val <| .bl ·)) σ)
  | .chain op op' a b c, k, σ => finG k ((evG a .v σ).bind fun x σ => (evG b .v σ).bind fun y σ => match cop op x.t y.t with
    | some true => (evG c .v σ).bind fun z σ => Out.of ((cop op' y.t z.t).map (.val <| .bl ·)) σ
    | some false => .ok (.val (.bl false)) σ
    | none => .fail)
  | .ite c a b, k, σ => finG k ((evG c .v σ).bind fun x σ => match x.t with | .bl true => evG a .v σ | .bl false => evG b .v σ | _ => .fail)
  | .call f as, k, σ => finG k ((evG as .a σ).bind fun as σ => callA cl f as σ)
  | .callk f ks as, k, σ => finG k ((evG as .a σ).bind fun as σ => match argTs as with
    | some ts => callA cl f (ks.filterMap fun k => (ts[k]?).map A.v) σ
    | none => .fail)
  | .bi b as, k, σ => finG k ((evG as .a σ).bind fun as σ => Out.of ((argTs as).bind fun ts => (bi b ts).map .val) σ)
  | .isi a ty, k, σ => finG k ((evG a .v σ).bind fun x σ => Out.of ((x.t.isTy ty).map (.val <| .bl ·)) σ)
  | .isi2 a ty ty', k, σ => finG k ((evG a .v σ).bind fun x σ => match x.t.isTy ty, x.t.isTy ty' with
    | some p, some q => .ok (.val (.bl (p || q))) σ
    | _, _ => .fail)
  | .ix a b, k, σ => finG k ((evG a .v σ).bind fun x σ => (evG b .v σ).bind fun y σ => Out.of ((tix x.t y.t).map .val) σ)
  | .slice a lo hi, k, σ => finG k ((evG a .v σ).bind fun x σ => (evG lo .o σ).bind fun l σ => (evG hi .o σ).bind fun h σ => Out.of ((tsl x.t l h).map .val) σ)
  | .pr1 p a, k, σ => finG k ((evG a .v σ).bind fun x σ => Out.of ((pf1 p x.t).map .val) σ)
  | .pr2 p a b, k, σ => finG k ((evG a .v σ).bind fun x σ => if pre2 p x.t then (evG b .v σ).bind fun y σ => Out.of ((pf2 p x.t y.t).map .val) σ else .fail)
  | .comp own vs tg it c e, k, σ => finG k ((evG it .it σ).bind fun ts σ0 => onS (hide vs σ0) fun σ1 => (evL (fun t σ => onS (tg.put t σ) fun σ => ((evG c .c σ).bind fun b σ => keepIf b (fun σ => (evG e .v σ).bind fun r σ => .ok [r.m] (wipes vs σ)) vs σ).noex) ts σ1).bind fun ms σ => finL own ms (back vs σ0 σ))
  | .comp2 own vs vs1 tg it tg1 it1 e, k, σ => finG k ((evG it .it σ).bind fun ts σ0 => onS (hide vs σ0) fun σ1 => (evL (fun t σ => onS (tg.put t σ) fun σ => (evG it1 .it σ).noex.bind fun ts1 σ => (evL (fun t1 σ => onS (tg1.put t1 σ) fun σ => ((evG e .v σ).bind fun r σ => .ok [r.m] (wipes vs1 σ)).noex) ts1 (wipes vs1 σ)).bind fun ms σ => .ok ms (wipes vs σ)) ts σ1).bind fun ms σ => finL own ms (back vs σ0 σ))
  | .bor e, k, σ => finG k (match evG e .v σ.fz with
    | .ok r _ => if r.sc then .ok r σ else .fail
    | .ex c v σ => .ex c v σ
    | .fail => .fail)
  | .dlit own ks es, k, σ => finG k ((evG es .m σ).bind fun ms σ => dlitF own ks ms σ)
  | .lcp a, k, σ => finG k ((evG a .v σ).bind fun x σ => lcpF x.t σ)
  | .isc a _ cs, k, σ => finG k ((evG a .v σ).bind fun x σ => Out.of ((x.t.isc cs).map (.val <| .bl ·)) σ)
  | .isv a, k, σ => finG k ((evG a .v σ).bind fun x σ => Out.of (x.t.isv.map (.val <| .bl ·)) σ)
  | .xval a, k, σ => finG k ((evG a .v σ).bind fun x σ => Out.of (x.t.xval.map .val) σ)
  | .callv i fl as, k, σ => finG k ((rd i σ).bind fun r σ => match r.t with
    | .fn f => if fl.contains f then (evG as .a σ).bind fun as σ => callA cl f as σ else .fail
    | _ => .fail)
end
section
variable {cl : Nat → List W → Out R}
def giveE (cl : Nat → List W → Out R) : E → Sig → Out R
  | .give e, σ => ev cl e σ
  | _, _ => .fail
theorem isOwn_iff {o : Option (Option W)} {α : Type} {x : Out α} : (match o with | some (some (.own _)) => x | some (some (.io _)) => x | _ => Out.fail) = if isOwn o then x else .fail := by
  unfold isOwn
  split <;> rfl
structure GOk (cl : Nat → List W → Out R) (e : E) : Prop where
  v : ∀ σ, evG cl e .v σ = ev cl e σ
  m : ∀ σ, evG cl e .m σ = evM cl e σ
  a : ∀ σ, evG cl e .a σ = evA cl e σ
  o : ∀ σ, evG cl e .o σ = evO cl e σ
  c : ∀ σ, evG cl e .c σ = evC cl e σ
  it : ∀ σ, evG cl e .it σ = evIt cl e σ
  g : ∀ σ, evG cl e .g σ = giveE cl e σ
/-- where nothing is told but by the value -/
theorem GOk.of {e : E} (h : ∀ k σ, evG cl e k σ = finG k (ev cl e σ)) (hm : ∀ σ, evM cl e σ = .fail) (ha : ∀ σ, evA cl e σ = .fail) (ho : ∀ σ, evO cl e σ = (ev cl e σ).bind R.int1) (hc : ∀ σ, evC cl e σ = (ev cl e σ).bind R.bool)
    (hi : ∀ σ, evIt cl e σ = (ev cl e σ).bind fun r σ => Out.of (itemsOf r.t) σ) (hg : ∀ σ, giveE cl e σ = .fail) : GOk cl e :=
  ⟨fun σ => h .v σ, fun σ => (h .m σ).trans (hm σ).symm, fun σ => (h .a σ).trans (ha σ).symm, fun σ => (h .o σ).trans (ho σ).symm, fun σ => (h .c σ).trans (hc σ).symm, fun σ => (h .it σ).trans (hi σ).symm, fun σ => (h .g σ).trans (hg σ).symm⟩
theorem evG_ok : ∀ e : E, GOk cl e := by
  intro e
  induction e with
  | cons e es he hes =>
    refine ⟨fun σ => ?_, fun σ => ?_, fun σ => ?_, fun σ => ?_, fun σ => ?_, fun σ => ?_, fun σ => ?_⟩
    · simp only [evG, consG, ev]
    · simp only [evG, consG, evM, he.v, hes.m]
    · simp only [evG, consG]
      cases e with
      | io i => simp only [argG, argK, evA, hes.a, ← isOwn_iff] <;> rfl
      | give e' => simp only [argG, argK, evA, hes.a, he.g, giveE]
      | _ => simp only [argG, argK, evA, hes.a, he.v]
    · simp only [evG, consG, evO, ev, Out.bind_fail]
    · simp only [evG, consG, evC, ev, Out.bind_fail]
    · simp only [evG, consG, evIt, ev, Out.bind_fail]
    · simp only [evG, consG, giveE]
  | nil => exact ⟨fun σ => by simp only [evG, nilG, ev], fun σ => by simp only [evG, nilG, evM], fun σ => by simp only [evG, nilG, evA], fun σ => by simp only [evG, nilG, evO, ev, Out.bind_fail], fun σ => by simp only [evG, nilG, evC, ev, Out.bind_fail], fun σ => by simp only [evG, nilG, evIt, ev, Out.bind_fail], fun σ => by simp only [evG, nilG, giveE]⟩
  | none => exact ⟨fun σ => by simp only [evG, noneG, ev], fun σ => by simp only [evG, noneG, evM], fun σ => by simp only [evG, noneG, evA], fun σ => by simp only [evG, noneG, evO], fun σ => by simp only [evG, noneG, evC], fun σ => by simp only [evG, noneG, evIt, ev, Out.bind_fail], fun σ => by simp only [evG, noneG, giveE]⟩
  | give e he => exact ⟨fun σ => by simp only [evG, giveG, ev], fun σ => by simp only [evG, giveG, evM], fun σ => by simp only [evG, giveG, evA], fun σ => by simp only [evG, giveG, evO, ev, Out.bind_fail], fun σ => by simp only [evG, giveG, evC, ev, Out.bind_fail], fun σ => by simp only [evG, giveG, evIt, ev, Out.bind_fail], fun σ => by simp only [evG, giveG, giveE, he.v]⟩
  | rng1 a ha => exact ⟨fun σ => by simp only [evG, itG, ev], fun σ => by simp only [evG, itG, evM], fun σ => by simp only [evG, itG, evA], fun σ => by simp only [evG, itG, evO, ev, Out.bind_fail], fun σ => by simp only [evG, itG, evC, ev, Out.bind_fail], fun σ => by simp only [evG, itG, evIt, ha.v] <;> rfl, fun σ => by simp only [evG, itG, giveE]⟩
  | rng2 a b ha hb => exact ⟨fun σ => by simp only [evG, itG, ev], fun σ => by simp only [evG, itG, evM], fun σ => by simp only [evG, itG, evA], fun σ => by simp only [evG, itG, evO, ev, Out.bind_fail], fun σ => by simp only [evG, itG, evC, ev, Out.bind_fail], fun σ => by simp only [evG, itG, evIt, ha.v, hb.v] <;> rfl, fun σ => by simp only [evG, itG, giveE]⟩
  | enum a ha => exact ⟨fun σ => by simp only [evG, itG, ev], fun σ => by simp only [evG, itG, evM], fun σ => by simp only [evG, itG, evA], fun σ => by simp only [evG, itG, evO, ev, Out.bind_fail], fun σ => by simp only [evG, itG, evC, ev, Out.bind_fail], fun σ => by simp only [evG, itG, evIt, ha.v] <;> rfl, fun σ => by simp only [evG, itG, giveE]⟩
  | zip s a b ha hb => exact ⟨fun σ => by simp only [evG, itG, ev], fun σ => by simp only [evG, itG, evM], fun σ => by simp only [evG, itG, evA], fun σ => by simp only [evG, itG, evO, ev, Out.bind_fail], fun σ => by simp only [evG, itG, evC, ev, Out.bind_fail], fun σ => by simp only [evG, itG, evIt, ha.v, hb.v], fun σ => by simp only [evG, itG, giveE]⟩
  | popAt i a ha => exact .of (fun k σ => by simp only [evG, ev, ha.v]) (fun σ => by simp only [evM]) (fun σ => by simp only [evA]) (fun σ => by simp only [evO]) (fun σ => by simp only [evC]) (fun σ => by simp only [evIt]) (fun σ => by simp only [giveE])
  | lst own a ha => exact .of (fun k σ => by simp only [evG, ev, ha.m]) (fun σ => by simp only [evM]) (fun σ => by simp only [evA]) (fun σ => by simp only [evO]) (fun σ => by simp only [evC]) (fun σ => by simp only [evIt]) (fun σ => by simp only [giveE])
  | tup own a ha => exact .of (fun k σ => by simp only [evG, ev, ha.m]) (fun σ => by simp only [evM]) (fun σ => by simp only [evA]) (fun σ => by simp only [evO]) (fun σ => by simp only [evC]) (fun σ => by simp only [evIt]) (fun σ => by simp only [giveE])
  | bin op a b ha hb => exact .of (fun k σ => by simp only [evG, ev, ha.v, hb.v]) (fun σ => by simp only [evM]) (fun σ => by simp only [evA]) (fun σ => by simp only [evO]) (fun σ => by simp only [evC]) (fun σ => by simp only [evIt]) (fun σ => by simp only [giveE])
  | neg a ha => exact .of (fun k σ => by simp only [evG, ev, ha.v] <;> rfl) (fun σ => by simp only [evM]) (fun σ => by simp only [evA]) (fun σ => by simp only [evO]) (fun σ => by simp only [evC]) (fun σ => by simp only [evIt]) (fun σ => by simp only [giveE])
  | not a ha => exact .of (fun k σ => by simp only [evG, ev, ha.v] <;> rfl) (fun σ => by simp only [evM]) (fun σ => by simp only [evA]) (fun σ => by simp only [evO]) (fun σ => by simp only [evC]) (fun σ => by simp only [evIt]) (fun σ => by simp only [giveE])
  | and a b ha hb => exact .of (fun k σ => by simp only [evG, ev, ha.v, hb.v] <;> rfl) (fun σ => by simp only [evM]) (fun σ => by simp only [evA]) (fun σ => by simp only [evO]) (fun σ => by simp only [evC]) (fun σ => by simp only [evIt]) (fun σ => by simp only [giveE])
  | or a b ha hb => exact .of (fun k σ => by simp only [evG, ev, ha.v, hb.v] <;> rfl) (fun σ => by simp only [evM]) (fun σ => by simp only [evA]) (fun σ => by simp only [evO]) (fun σ => by simp only [evC]) (fun σ => by simp only [evIt]) (fun σ => by simp only [giveE])
  | cmp op a b ha hb => exact .of (fun k σ => by simp only [evG, ev, ha.v, hb.v]) (fun σ => by simp only [evM]) (fun σ => by simp only [evA]) (fun σ => by simp only [evO]) (fun σ => by simp only [evC]) (fun σ => by simp only [evIt]) (fun σ => by simp only [giveE])
  | chain op op' a b c ha hb hc => exact .of (fun k σ => by simp only [evG, ev, ha.v, hb.v, hc.v] <;> rfl) (fun σ => by simp only [evM]) (fun σ => by simp only [evA]) (fun σ => by simp only [evO]) (fun σ => by simp only [evC]) (fun σ => by simp only [evIt]) (fun σ => by simp only [giveE])
  | ite c a b hc ha hb => exact .of (fun k σ => by simp only [evG, ev, ha.v, hb.v, hc.v] <;> rfl) (fun σ => by simp only [evM]) (fun σ => by simp only [evA]) (fun σ => by simp only [evO]) (fun σ => by simp only [evC]) (fun σ => by simp only [evIt]) (fun σ => by simp only [giveE])
  | call f a ha => exact .of (fun k σ => by simp only [evG, ev, ha.a]) (fun σ => by simp only [evM]) (fun σ => by simp only [evA]) (fun σ => by simp only [evO]) (fun σ => by simp only [evC]) (fun σ => by simp only [evIt]) (fun σ => by simp only [giveE])
  | callk f ks a ha => exact .of (fun k σ => by simp only [evG, ev, ha.a] <;> rfl) (fun σ => by simp only [evM]) (fun σ => by simp only [evA]) (fun σ => by simp only [evO]) (fun σ => by simp only [evC]) (fun σ => by simp only [evIt]) (fun σ => by simp only [giveE])
  | bi b a ha => exact .of (fun k σ => by simp only [evG, ev, ha.a]) (fun σ => by simp only [evM]) (fun σ => by simp only [evA]) (fun σ => by simp only [evO]) (fun σ => by simp only [evC]) (fun σ => by simp only [evIt]) (fun σ => by simp only [giveE])
  | isi a ty ha => exact .of (fun k σ => by simp only [evG, ev, ha.v]) (fun σ => by simp only [evM]) (fun σ => by simp only [evA]) (fun σ => by simp only [evO]) (fun σ => by simp only [evC]) (fun σ => by simp only [evIt]) (fun σ => by simp only [giveE])
  | isi2 a ty ty' ha => exact .of (fun k σ => by simp only [evG, ev, ha.v] <;> rfl) (fun σ => by simp only [evM]) (fun σ => by simp only [evA]) (fun σ => by simp only [evO]) (fun σ => by simp only [evC]) (fun σ => by simp only [evIt]) (fun σ => by simp only [giveE])
  | ix a b ha hb => exact .of (fun k σ => by simp only [evG, ev, ha.v, hb.v]) (fun σ => by simp only [evM]) (fun σ => by simp only [evA]) (fun σ => by simp only [evO]) (fun σ => by simp only [evC]) (fun σ => by simp only [evIt]) (fun σ => by simp only [giveE])
  | slice a l h ha hl hh => exact .of (fun k σ => by simp only [evG, ev, ha.v, hl.o, hh.o]) (fun σ => by simp only [evM]) (fun σ => by simp only [evA]) (fun σ => by simp only [evO]) (fun σ => by simp only [evC]) (fun σ => by simp only [evIt]) (fun σ => by simp only [giveE])
  | pr1 p a ha => exact .of (fun k σ => by simp only [evG, ev, ha.v]) (fun σ => by simp only [evM]) (fun σ => by simp only [evA]) (fun σ => by simp only [evO]) (fun σ => by simp only [evC]) (fun σ => by simp only [evIt]) (fun σ => by simp only [giveE])
  | pr2 p a b ha hb => exact .of (fun k σ => by simp only [evG, ev, ha.v, hb.v]) (fun σ => by simp only [evM]) (fun σ => by simp only [evA]) (fun σ => by simp only [evO]) (fun σ => by simp only [evC]) (fun σ => by simp only [evIt]) (fun σ => by simp only [giveE])
  | comp own vs tg it c e hit hc he => exact .of (fun k σ => by simp only [evG, ev, hit.it, hc.c, he.v]) (fun σ => by simp only [evM]) (fun σ => by simp only [evA]) (fun σ => by simp only [evO]) (fun σ => by simp only [evC]) (fun σ => by simp only [evIt]) (fun σ => by simp only [giveE])
  | comp2 own vs vs1 tg it tg1 it1 e hit hit1 he => exact .of (fun k σ => by simp only [evG, ev, hit.it, hit1.it, he.v]) (fun σ => by simp only [evM]) (fun σ => by simp only [evA]) (fun σ => by simp only [evO]) (fun σ => by simp only [evC]) (fun σ => by simp only [evIt]) (fun σ => by simp only [giveE])
  | bor e he => exact .of (fun k σ => by simp only [evG, ev, he.v] <;> rfl) (fun σ => by simp only [evM]) (fun σ => by simp only [evA]) (fun σ => by simp only [evO]) (fun σ => by simp only [evC]) (fun σ => by simp only [evIt]) (fun σ => by simp only [giveE])
  | dlit own ks es ha => exact .of (fun k σ => by simp only [evG, ev, ha.m] <;> rfl) (fun σ => by simp only [evM]) (fun σ => by simp only [evA]) (fun σ => by simp only [evO]) (fun σ => by simp only [evC]) (fun σ => by simp only [evIt]) (fun σ => by simp only [giveE])
  | lcp a ha => exact .of (fun k σ => by simp only [evG, ev, ha.v] <;> rfl) (fun σ => by simp only [evM]) (fun σ => by simp only [evA]) (fun σ => by simp only [evO]) (fun σ => by simp only [evC]) (fun σ => by simp only [evIt]) (fun σ => by simp only [giveE])
  | isc a c cs ha => exact .of (fun k σ => by simp only [evG, ev, ha.v] <;> rfl) (fun σ => by simp only [evM]) (fun σ => by simp only [evA]) (fun σ => by simp only [evO]) (fun σ => by simp only [evC]) (fun σ => by simp only [evIt]) (fun σ => by simp only [giveE])
  | isv a ha => exact .of (fun k σ => by simp only [evG, ev, ha.v] <;> rfl) (fun σ => by simp only [evM]) (fun σ => by simp only [evA]) (fun σ => by simp only [evO]) (fun σ => by simp only [evC]) (fun σ => by simp only [evIt]) (fun σ => by simp only [giveE])
  | xval a ha => exact .of (fun k σ => by simp only [evG, ev, ha.v] <;> rfl) (fun σ => by simp only [evM]) (fun σ => by simp only [evA]) (fun σ => by simp only [evO]) (fun σ => by simp only [evC]) (fun σ => by simp only [evIt]) (fun σ => by simp only [giveE])
  | callv i fl as ha => exact .of (fun k σ => by simp only [evG, ev, ha.a] <;> rfl) (fun σ => by simp only [evM]) (fun σ => by simp only [evA]) (fun σ => by simp only [evO]) (fun σ => by simp only [evC]) (fun σ => by simp only [evIt]) (fun σ => by simp only [giveE])
  | _ => exact .of (fun k σ => by simp only [evG, ev]) (fun σ => by simp only [evM]) (fun σ => by simp only [evA]) (fun σ => by simp only [evO]) (fun σ => by simp only [evC]) (fun σ => by simp only [evIt]) (fun σ => by simp only [giveE])
end

section
variable (fv : E → Sig → Out R) (fm : E → Sig → Out (List M)) (fi : E → Sig → Out (List T))
def evHG (i : Nat) (e : E) (σ : Sig) : Out R := match σ[i]? with
  | some (some (.own m)) => (fv e (σ.set i none)).bind fun r σ => .ok r (σ.set i (some (.own m)))
  | some (some (.io m)) => (fv e (σ.set i none)).bind fun r σ => .ok r (σ.set i (some (.io m)))
  | _ => .fail
def evSG : S → Sig → Fl
  | .nil, σ => .nx σ
  | .pass, σ => .nx σ
  | .seq a b, σ => (evSG a σ).thn fun σ => evSG b σ
  | .set i e, σ => (fv e σ).fl fun r σ => .of (put i r σ)
  | .setT is e, σ => (fv e σ).fl fun r σ => .of (r.parts.bind fun ms => putsM is ms σ)
  | .par is es, σ => (fm es σ).fl fun ms σ => .of (putsM is ms σ)
  | .setIx i k e, σ => (fv e σ).fl fun r σ => if (slotT σ[i]?).isSome then (fv k σ).fl fun k σ => .of (upS i (M.putIx k.t r.m) σ) else .fail
  | .setAt i p k e, σ => (fv e σ).fl fun r σ => if isC σ[i]? then (fv p σ).fl fun p σ => if isK p.t σ[i]? then (evHG fv i k σ).fl fun k σ => .of (upS i (M.mod (M.putIx k.t r.m) p.t) σ) else .fail else .fail
  | .augIx i k _ e, σ => if isL σ[i]? then (fv k σ).fl fun k σ => match k.t, slotT σ[i]? with
    | .int j, some (.lst ts) => match atI ts j with
      | some (.int a) => (fv e σ).fl fun r σ => match r.t with
        | .int b => .of (upS i (M.putIx (.int j) (.fr (.int (a + b)))) σ)
        | _ => .fail
      | _ => .fail
    | _, _ => .fail
    else .fail
  | .expr e, σ => (fv e σ).fl fun _ σ => .nx σ
  | .app i e, σ => if isL σ[i]? then (fv e σ).fl fun r σ => .of (upS i (M.app r.m) σ) else .fail
  | .appAt i p e, σ => if isC σ[i]? then (fv p σ).fl fun p σ => if isKL p.t σ[i]? then (evHG fv i e σ).fl fun r σ => .of (upS i (M.mod (M.app r.m) p.t) σ) else .fail else .fail
  | .sdApp i k e, σ => if isD σ[i]? then (fv k σ).fl fun k σ => onF (upS i (M.sdDef k.t) σ) fun σ => if isKL k.t σ[i]? then (evHG fv i e σ).fl fun r σ => .of (upS i (M.mod (M.app r.m) k.t) σ) else .fail else .fail
  | .ret e, σ => (fv e σ).fl fun r σ => .rt r σ
  | .retN, σ => .rt (.val .non) σ
  | .iff c a b, σ => (fv c σ).fl fun r σ => iffF r (evSG a σ) (evSG b σ)
  | .for tg it b, σ => (fi it σ).fl fun ts σ => evF (fun t σ => onF (tg.put t σ) fun σ => evSG b σ) ts σ
  | .while c b, σ => evW (fv c) (evSG b) fuel σ
  | .brk, σ => .bk σ
  | .cnt, σ => .ct σ
  | .never, _ => .fail
  | .raise c e, σ => (fv e σ).fl fun r σ => .ex c r.t σ
  | .tryS b n k, σ => tryF n k (evSG b σ)
end
theorem evSG_ok (cl : Nat → List W → Out R) (b : S) : evSG (ev cl) (evM cl) (evIt cl) b = evS cl b := by
  induction b with
  | seq a b ha hb => funext σ; simp only [evSG, evS, ha, hb]
  | iff c a b ha hb => funext σ; simp only [evSG, evS, ha, hb]
  | «for» tg it b hb => funext σ; simp only [evSG, evS, hb]
  | «while» c b hb => funext σ; simp only [evSG, evS, hb]
  | tryS b n k hb => funext σ; simp only [evSG, evS, hb]
  | setAt i p k e => funext σ; simp only [evSG, evS] <;> rfl
  | appAt i p e => funext σ; simp only [evSG, evS] <;> rfl
  | sdApp i k e => funext σ; simp only [evSG, evS] <;> rfl
  | augIx i k op e => funext σ; simp only [evSG, evS] <;> rfl
  | _ => funext σ; simp only [evSG, evS]
def callG (p : Prg) : Nat → Nat → List W → Out R
  | 0, _, _ => .fail
  | n + 1, f, ws => match p.df f with
    | some d => if ws.length = d.np ∧ d.np ≤ d.ns then match evSG (fun e σ => evG (callG p n) e .v σ) (fun e σ => evG (callG p n) e .m σ) (fun e σ => evG (callG p n) e .it σ) d.body (ws.map some ++ List.replicate (d.ns - d.np) none) with
        | .rt r σ => .ok r (ends d.np σ)
        | .nx σ => .ok (.val .non) (ends d.np σ)
        | .ex c v σ => .ex c v (ends d.np σ)
        | _ => .fail
      else .fail
    | none => p.prim n f ws
theorem callG_ok (p : Prg) : ∀ n, callG p n = callF p n
  | 0 => by funext f ws; simp only [callG, callF]
  | n + 1 => by
    funext f ws
    have h := callG_ok p n
    have hv : (fun (e : E) (σ : Sig) => (evG (callG p n) e .v σ : Out R)) = ev (callF p n) := by funext e σ; rw [h]; exact (evG_ok e).v σ
    have hm : (fun (e : E) (σ : Sig) => (evG (callG p n) e .m σ : Out (List M))) = evM (callF p n) := by funext e σ; rw [h]; exact (evG_ok e).m σ
    have hi : (fun (e : E) (σ : Sig) => (evG (callG p n) e .it σ : Out (List T))) = evIt (callF p n) := by funext e σ; rw [h]; exact (evG_ok e).it σ
    unfold callG callF
    rw [hv, hm, hi]
    simp only [evSG_ok] <;> rfl

/-! ### equality, as the kernel can run it -/
mutual
def T.beq : T → T → Bool
  | .non, .non => true
  | .bl a, .bl b => a == b
  | .int i, .int j => decide (i = j)
  | .str x, .str y => decide (x = y)
  | .lst a, .lst b => T.beqs a b
  | .tup a, .tup b => T.beqs a b
  | .dK ks a, .dK ls b => decide (ks = ls) && T.beqs a b
  | .dT ks a, .dT ls b => decide (ks = ls) && T.beqs a b
  | .fn i, .fn j => decide (i = j)
  | .scr a, .scr b => decide (a = b)
  | .exc c a, .exc d b => decide (c = d) && T.beq a b
  | _, _ => false
def T.beqs : List T → List T → Bool
  | [], [] => true
  | a :: as, b :: bs => T.beq a b && T.beqs as bs
  | _, _ => false
end
mutual
theorem T.beq_eq : ∀ {a b : T}, T.beq a b = true → a = b
  | .non, b, h => by cases b <;> simp [T.beq] at h; rfl
  | .bl x, b, h => by cases b <;> simp [T.beq] at h; rw [h]
  | .int x, b, h => by cases b <;> simp [T.beq] at h; rw [h]
  | .str x, b, h => by cases b <;> simp [T.beq] at h; rw [h]
  | .lst x, b, h => by cases b <;> simp [T.beq] at h; rw [T.beqs_eq h]
  | .tup x, b, h => by cases b <;> simp [T.beq] at h; rw [T.beqs_eq h]
  | .dK ks x, b, h => by cases b <;> simp [T.beq] at h; rw [h.1, T.beqs_eq h.2]
  | .dT ks x, b, h => by cases b <;> simp [T.beq] at h; rw [h.1, T.beqs_eq h.2]
  | .fn x, b, h => by cases b <;> simp [T.beq] at h; rw [h]
  | .scr x, b, h => by cases b <;> simp [T.beq] at h; rw [h]
  | .exc c x, b, h => by cases b <;> simp [T.beq] at h; rw [h.1, T.beq_eq h.2]
theorem T.beqs_eq : ∀ {a b : List T}, T.beqs a b = true → a = b
  | [], b, h => by cases b <;> simp [T.beqs] at h; rfl
  | a :: as, b, h => by
    cases b with
    | nil => simp [T.beqs] at h
    | cons b bs =>
      simp [T.beqs] at h
      rw [T.beq_eq h.1, T.beqs_eq h.2]
end
/-- a call gives t, its arguments fixed -/
def gives (p : Prg) (n f : Nat) (ws : List T) (t : T) : Bool := match callG p n f (ws.map .val) with
  | .ok (.val u) _ => T.beq u t
  | .ok (.own m) _ => T.beq m.er t
  | _ => false
end PY
set_option Elab.async false
set_option linter.all false
set_option maxRecDepth 100000
set_option maxHeartbeats 400000
/-! # PySound1: plain data in the abstract heap -/
namespace PY
open PySem L2

/-- where defs and classes stand -/
structure Pl where
  K : PySem.W.Frag
  fa : Nat → Addr
  ca : Nat → Addr
  fd : Nat → FuncData
  ps : Nat → List Str
  nm : Nat → Str
  has : Nat → Bool
  kws : Nat → List Str → List Nat → Bool
  cls : Nat → Bool
  cns : Nat → List Nat → Bool
abbrev Zo := Addr → Prop
abbrev Fo := Nat → List Addr

def ScrOk (K : PySem.W.Frag) (Z : Zo) (H : Hp) (a : Addr) (xs : List V) : Prop :=
  (Z a ∧ H a = some (.lst xs)) ∨ (∃ o, H a = some (.frz o (.lst xs))) ∨
    ∃ (o : Obj) (its : Array Value) (n : Nat), K.lookup a = some o ∧ o.cls = .type "list" ∧ o.dict = none ∧ o.data = .seq its n ∧ its.size ≤ sizeLine ∧ Vals xs its.toList

/-- an own exception that was caught -/
def exH (k : Value) (dd a : Addr) : HO := .ext fun h => ∃ (oe : Obj) (vs : Array Value), h.get? a = some oe ∧ oe.cls = k ∧ oe.dict = some dd ∧ oe.data = .fields vs
mutual
inductive Den (C : Pl) (Z : Zo) (H : Hp) : V → T → Prop
  | non : Den C Z H .non .non
  | bl (b : Bool) : Den C Z H (.bl b) (.bl b)
  | int (i : Int) : Den C Z H (.int i) (.int i)
  | str (x : Str) : Den C Z H (.str x) (.str x)
  | lst {a : Addr} {xs : List V} {ts : List T} : Z a → H a = some (.lst xs) → DenL C Z H xs ts → Den C Z H (.ref a) (.lst ts)
  | tup {a : Addr} {xs : List V} {ts : List T} : SqT C.K H a xs → DenL C Z H xs ts → Den C Z H (.ref a) (.tup ts)
  | dK {a : Addr} {ks : List Ky} {xs : List V} {ts : List T} : Z a → H a = some (.dK (ks.zip xs)) → ks.length = xs.length → DenL C Z H xs ts → Den C Z H (.ref a) (.dK ks ts)
  | dT {a : Addr} {ks : List (List Ky)} {xs : List V} {ts : List T} : Z a → H a = some (.dT (ks.zip xs)) → ks.length = xs.length → DenL C Z H xs ts → Den C Z H (.ref a) (.dT ks ts)
  | fn (i : Nat) : Den C Z H (.ref (C.fa i)) (.fn i)
  | scr {a : Addr} {ns : List Int} : ScrOk C.K Z H a (ns.map V.int) → Den C Z H (.ref a) (.scr ns)
  | exc {a dd : Addr} {c : Nat} {v : V} {t : T} : C.cls c = true → Z a → H a = some (exH (.ref (C.ca c)) dd a) → Z dd → H dd = some (.xd [(("value" : Str), v)]) → Den C Z H v t → Den C Z H (.ref a) (.exc c t)
inductive DenL (C : Pl) (Z : Zo) (H : Hp) : List V → List T → Prop
  | nil : DenL C Z H [] []
  | cons {v : V} {vs : List V} {t : T} {ts : List T} : Den C Z H v t → DenL C Z H vs ts → DenL C Z H (v :: vs) (t :: ts)
end
mutual
inductive Own (C : Pl) (Z : Zo) (H : Hp) : V → M → List Addr → Prop
  | fr {v : V} {t : T} : Den C Z H v t → Own C Z H v (.fr t) []
  | lst {a : Addr} {xs : List V} {ms : List M} {F : List Addr} : H a = some (.lst xs) → OwnL C Z H xs ms F → Own C Z H (.ref a) (.lst ms) (a :: F)
  | tup {a : Addr} {xs : List V} {ms : List M} {F : List Addr} : SqT C.K H a xs → OwnL C Z H xs ms F → Own C Z H (.ref a) (.tup ms) F
  | dK {a : Addr} {ks : List Ky} {xs : List V} {ms : List M} {F : List Addr} : H a = some (.dK (ks.zip xs)) → ks.length = xs.length → OwnL C Z H xs ms F → Own C Z H (.ref a) (.dK ks ms) (a :: F)
inductive OwnL (C : Pl) (Z : Zo) (H : Hp) : List V → List M → List Addr → Prop
  | nil : OwnL C Z H [] [] []
  | cons {v : V} {vs : List V} {m : M} {ms : List M} {F G : List Addr} : Own C Z H v m F → OwnL C Z H vs ms G → OwnL C Z H (v :: vs) (m :: ms) (F ++ G)
end

/-- later on: what is fixed is as it was -/
structure Later (Z : Zo) (H : Hp) (Z' : Zo) (H' : Hp) : Prop where
  z : ∀ a, Z a → Z' a
  k : ∀ a o, Z a → H a = some o → H' a = some o
  tup : ∀ a xs, H a = some (.tup xs) → H' a = some (.tup xs)
  frz : ∀ a o u, H a = some (.frz o u) → H' a = some (.frz o u)

section
variable {C : Pl} {pv : V} {Z Z' : Zo} {H H' : Hp}
theorem Later.refl : Later Z H Z H := ⟨fun _ h => h, fun _ _ _ h => h, fun _ _ h => h, fun _ _ _ h => h⟩
theorem sqT_later (l : Later Z H Z' H') {a : Addr} {xs : List V} (h : SqT C.K H a xs) : SqT C.K H' a xs := by
  rcases h with (h | ⟨o, h⟩) | h
  · exact .inl (.inl (l.tup _ _ h))
  · exact .inl (.inr ⟨o, l.frz _ _ _ h⟩)
  · exact .inr h
theorem scr_later (l : Later Z H Z' H') {a : Addr} {xs : List V} (h : ScrOk C.K Z H a xs) : ScrOk C.K Z' H' a xs := by
  rcases h with ⟨z, h⟩ | ⟨o, h⟩ | h
  · exact .inl ⟨l.z _ z, l.k _ _ z h⟩
  · exact .inr (.inl ⟨o, l.frz _ _ _ h⟩)
  · exact .inr (.inr h)
theorem ScrOk.sq {a : Addr} {xs : List V} (h : ScrOk C.K Z H a xs) : SqL C.K H a xs := by
  rcases h with ⟨z, h⟩ | ⟨o, h⟩ | h
  · exact .inl (.inl h)
  · exact .inl (.inr ⟨o, h⟩)
  · exact .inr h
mutual
theorem Den.later (l : Later Z H Z' H') : ∀ {v : V} {t : T}, Den C Z H v t → Den C Z' H' v t
  | _, _, .non => .non
  | _, _, .bl b => .bl b
  | _, _, .int i => .int i
  | _, _, .str x => .str x
  | _, _, .lst z h d => .lst (l.z _ z) (l.k _ _ z h) (DenL.later l d)
  | _, _, .tup h d => .tup (sqT_later l h) (DenL.later l d)
  | _, _, .dK z h e d => .dK (l.z _ z) (l.k _ _ z h) e (DenL.later l d)
  | _, _, .dT z h e d => .dT (l.z _ z) (l.k _ _ z h) e (DenL.later l d)
  | _, _, .fn i => .fn i
  | _, _, .scr h => .scr (scr_later l h)
  | _, _, .exc q z h z' h' d => .exc q (l.z _ z) (l.k _ _ z h) (l.z _ z') (l.k _ _ z' h') (Den.later l d)
theorem DenL.later (l : Later Z H Z' H') : ∀ {vs : List V} {ts : List T}, DenL C Z H vs ts → DenL C Z' H' vs ts
  | _, _, .nil => .nil
  | _, _, .cons a b => .cons (Den.later l a) (DenL.later l b)
end
mutual
theorem Own.later (l : Later Z H Z' H') : ∀ {v : V} {m : M} {F : List Addr}, Own C Z H v m F → (∀ a ∈ F, ∀ o, H a = some o → H' a = some o) → Own C Z' H' v m F
  | _, _, _, .fr d, _ => .fr (d.later l)
  | _, _, _, .lst h d, k => .lst (k _ List.mem_cons_self _ h) (OwnL.later l d fun a ha => k a (List.mem_cons_of_mem _ ha))
  | _, _, _, .tup h d, k => .tup (sqT_later l h) (OwnL.later l d k)
  | _, _, _, .dK h e d, k => .dK (k _ List.mem_cons_self _ h) e (OwnL.later l d fun a ha => k a (List.mem_cons_of_mem _ ha))
theorem OwnL.later (l : Later Z H Z' H') : ∀ {vs : List V} {ms : List M} {F : List Addr}, OwnL C Z H vs ms F → (∀ a ∈ F, ∀ o, H a = some o → H' a = some o) → OwnL C Z' H' vs ms F
  | _, _, _, .nil, _ => .nil
  | _, _, _, .cons a b, k => .cons (Own.later l a fun x hx => k x (List.mem_append_left _ hx)) (OwnL.later l b fun x hx => k x (List.mem_append_right _ hx))
end
mutual
/-- owned data given away: fixed from now on -/
theorem Own.freeze (l : Later Z H Z' H') : ∀ {v : V} {m : M} {F : List Addr}, Own C Z H v m F → (∀ a ∈ F, Z' a ∧ ∀ o, H a = some o → H' a = some o) → Den C Z' H' v m.er
  | _, _, _, .fr d, _ => by
    rw [M.er]
    exact d.later l
  | _, _, _, .lst h d, k => by
    have q := k _ List.mem_cons_self
    rw [M.er]
    exact .lst q.1 (q.2 _ h) (OwnL.freeze l d fun a ha => k a (List.mem_cons_of_mem _ ha))
  | _, _, _, .tup h d, k => by
    rw [M.er]
    exact .tup (sqT_later l h) (OwnL.freeze l d k)
  | _, _, _, .dK h e d, k => by
    have q := k _ List.mem_cons_self
    rw [M.er]
    exact .dK q.1 (q.2 _ h) e (OwnL.freeze l d fun a ha => k a (List.mem_cons_of_mem _ ha))
theorem OwnL.freeze (l : Later Z H Z' H') : ∀ {vs : List V} {ms : List M} {F : List Addr}, OwnL C Z H vs ms F → (∀ a ∈ F, Z' a ∧ ∀ o, H a = some o → H' a = some o) → DenL C Z' H' vs (M.ers ms)
  | _, _, _, .nil, _ => by
    rw [M.ers]
    exact .nil
  | _, _, _, .cons a b, k => by
    rw [M.ers]
    exact .cons (Own.freeze l a fun x hx => k x (List.mem_append_left _ hx)) (OwnL.freeze l b fun x hx => k x (List.mem_append_right _ hx))
end
/-- something stands there that may be written -/
def Tk (H : Hp) (a : Addr) : Prop := H a ≠ none ∧ (∀ xs, H a ≠ some (.tup xs)) ∧ ∀ o u, H a ≠ some (.frz o u)
theorem tk_lst {a : Addr} {xs : List V} (h : H a = some (.lst xs)) : Tk H a := by unfold Tk; rw [h]; exact ⟨fun e => (by cases e), fun _ e => (by cases e), fun _ _ e => (by cases e)⟩
theorem tk_dK {a : Addr} {xs : List (Ky × V)} (h : H a = some (.dK xs)) : Tk H a := by unfold Tk; rw [h]; exact ⟨fun e => (by cases e), fun _ e => (by cases e), fun _ _ e => (by cases e)⟩
theorem tk_cons {a : Addr} {F : List Addr} (h : Tk H a) (k : ∀ b ∈ F, Tk H b) : ∀ b ∈ a :: F, Tk H b := fun b hb => (List.mem_cons.mp hb).elim (fun e => e ▸ h) (k b)
theorem tk_app {F G : List Addr} (h : ∀ b ∈ F, Tk H b) (k : ∀ b ∈ G, Tk H b) : ∀ b ∈ F ++ G, Tk H b := fun b hb => (List.mem_append.mp hb).elim (h b) (k b)
theorem Own.tracked {v : V} {m : M} {F : List Addr} (h : Own C Z H v m F) : ∀ a ∈ F, Tk H a :=
  Own.rec (C := C) (Z := Z) (H := H) (motive_1 := fun _ _ F _ => ∀ a ∈ F, Tk H a) (motive_2 := fun _ _ F _ => ∀ a ∈ F, Tk H a)
    (fun _ _ h => by cases h) (fun h _ k => tk_cons (tk_lst h) k) (fun _ _ k => k) (fun h _ _ k => tk_cons (tk_dK h) k) (fun _ h => by cases h) (fun _ _ k1 k2 => tk_app k1 k2) h
theorem OwnL.tracked {vs : List V} {ms : List M} {F : List Addr} (h : OwnL C Z H vs ms F) : ∀ a ∈ F, Tk H a :=
  OwnL.rec (C := C) (Z := Z) (H := H) (motive_1 := fun _ _ F _ => ∀ a ∈ F, Tk H a) (motive_2 := fun _ _ F _ => ∀ a ∈ F, Tk H a)
    (fun _ _ h => by cases h) (fun h _ k => tk_cons (tk_lst h) k) (fun _ _ k => k) (fun h _ _ k => tk_cons (tk_dK h) k) (fun _ h => by cases h) (fun _ _ k1 k2 => tk_app k1 k2) h
theorem DenL.length : ∀ {vs : List V} {ts : List T}, DenL C Z H vs ts → vs.length = ts.length
  | _, _, .nil => rfl
  | _, _, .cons _ b => congrArg (· + 1) b.length
theorem OwnL.length : ∀ {vs : List V} {ms : List M} {F : List Addr}, OwnL C Z H vs ms F → vs.length = ms.length
  | _, _, _, .nil => rfl
  | _, _, _, .cons _ b => congrArg (· + 1) b.length
theorem DenL.get : ∀ {vs : List V} {ts : List T} {i : Nat} {t : T}, DenL C Z H vs ts → ts[i]? = some t → ∃ v, vs[i]? = some v ∧ Den C Z H v t
  | _, _, _, _, .nil, e => by simp at e
  | _, _, 0, _, .cons a _, e => by simp at e; subst e; exact ⟨_, rfl, a⟩
  | _, _, i + 1, _, .cons _ b, e => by
    obtain ⟨v, h1, h2⟩ := b.get (i := i) (by simpa using e)
    exact ⟨v, by simpa using h1, h2⟩
theorem DenL.getV : ∀ {vs : List V} {ts : List T} {i : Nat} {v : V}, DenL C Z H vs ts → vs[i]? = some v → ∃ t, ts[i]? = some t ∧ Den C Z H v t
  | _, _, _, _, .nil, e => by simp at e
  | _, _, 0, _, .cons a _, e => by simp at e; subst e; exact ⟨_, rfl, a⟩
  | _, _, i + 1, _, .cons _ b, e => by
    obtain ⟨v, h1, h2⟩ := b.getV (i := i) (by simpa using e)
    exact ⟨v, by simpa using h1, h2⟩
theorem DenL.append : ∀ {vs ws : List V} {ts us : List T}, DenL C Z H vs ts → DenL C Z H ws us → DenL C Z H (vs ++ ws) (ts ++ us)
  | _, _, _, _, .nil, b => b
  | _, _, _, _, .cons a r, b => .cons a (r.append b)
theorem DenL.take : ∀ {vs : List V} {ts : List T} (n : Nat), DenL C Z H vs ts → DenL C Z H (vs.take n) (ts.take n)
  | _, _, 0, _ => .nil
  | _, _, _ + 1, .nil => .nil
  | _, _, n + 1, .cons a r => .cons a (r.take n)
theorem DenL.drop : ∀ {vs : List V} {ts : List T} (n : Nat), DenL C Z H vs ts → DenL C Z H (vs.drop n) (ts.drop n)
  | _, _, 0, r => r
  | _, _, _ + 1, .nil => .nil
  | _, _, n + 1, .cons a r => r.drop n
theorem DenL.rep {vs : List V} {ts : List T} (d : DenL C Z H vs ts) : ∀ n : Nat, DenL C Z H (List.replicate n vs).flatten (List.replicate n ts).flatten
  | 0 => .nil
  | n + 1 => by
    rw [List.replicate_succ, List.replicate_succ, List.flatten_cons, List.flatten_cons]
    exact d.append (d.rep n)
theorem DenL.ints : ∀ {vs : List V} {ts : List T} {ns : List Int}, DenL C Z H vs ts → intsOf ts = some ns → vs = ns.map V.int
  | _, _, ns, .nil, e => by simp [intsOf] at e; subst e; rfl
  | _, _, ns, .cons (t := t) a r, e => by
    cases a <;> simp [intsOf] at e
    obtain ⟨ms, e1, rfl⟩ := e
    rw [r.ints e1]; rfl
theorem DenL.bls : ∀ {vs : List V} {ts : List T} {ns : List Bool}, DenL C Z H vs ts → blsOf ts = some ns → vs = ns.map V.bl
  | _, _, ns, .nil, e => by simp [blsOf] at e; subst e; rfl
  | _, _, ns, .cons (t := t) a r, e => by
    cases a <;> simp [blsOf] at e
    obtain ⟨ms, e1, rfl⟩ := e
    rw [r.bls e1]; rfl
mutual
/-- no list within: nothing hangs on what is fixed -/
theorem Den.free (l1 : ∀ a xs, H a = some (.tup xs) → H' a = some (.tup xs)) (l2 : ∀ a o u, H a = some (.frz o u) → H' a = some (.frz o u)) : ∀ {v : V} {t : T}, Den C Z H v t → t.sc = true → Den C Z' H' v t
  | _, _, .non, _ => .non
  | _, _, .bl b, _ => .bl b
  | _, _, .int i, _ => .int i
  | _, _, .str x, _ => .str x
  | _, _, .lst z h d, e => by simp [T.sc] at e
  | _, _, .tup h d, e => .tup (by
      rcases h with (h | ⟨o, h⟩) | h
      · exact .inl (.inl (l1 _ _ h))
      · exact .inl (.inr ⟨o, l2 _ _ _ h⟩)
      · exact .inr h) (DenL.free l1 l2 d (by simpa [T.sc] using e))
  | _, _, .dK z h e d, q => by simp [T.sc] at q
  | _, _, .dT z h e d, q => by simp [T.sc] at q
  | _, _, .fn i, _ => .fn i
  | _, _, .scr h, e => by simp [T.sc] at e
  | _, _, .exc _ _ _ _ _ _, e => by simp [T.sc] at e
theorem DenL.free (l1 : ∀ a xs, H a = some (.tup xs) → H' a = some (.tup xs)) (l2 : ∀ a o u, H a = some (.frz o u) → H' a = some (.frz o u)) : ∀ {vs : List V} {ts : List T}, DenL C Z H vs ts → T.scs ts = true → DenL C Z' H' vs ts
  | _, _, .nil, _ => .nil
  | _, _, .cons a b, e => by
    have e' := e
    simp only [T.scs, Bool.and_eq_true] at e'
    exact .cons (Den.free l1 l2 a e'.1) (DenL.free l1 l2 b e'.2)
end
mutual
theorem Own.free (l1 : ∀ a xs, H a = some (.tup xs) → H' a = some (.tup xs)) (l2 : ∀ a o u, H a = some (.frz o u) → H' a = some (.frz o u)) : ∀ {v : V} {m : M} {F : List Addr}, Own C Z H v m F → m.sc = true → (∀ a ∈ F, ∀ o, H a = some o → H' a = some o) → Own C Z' H' v m F
  | _, _, _, .fr d, e, _ => .fr (d.free l1 l2 (by simpa [M.sc] using e))
  | _, _, _, .lst h d, e, k => .lst (k _ List.mem_cons_self _ h) (OwnL.free l1 l2 d (by simpa [M.sc] using e) fun a ha => k a (List.mem_cons_of_mem _ ha))
  | _, _, _, .tup h d, e, k => .tup (by
      rcases h with (h | ⟨o, h⟩) | h
      · exact .inl (.inl (l1 _ _ h))
      · exact .inl (.inr ⟨o, l2 _ _ _ h⟩)
      · exact .inr h) (OwnL.free l1 l2 d (by simpa [M.sc] using e) k)
  | _, _, _, .dK h q d, e, k => .dK (k _ List.mem_cons_self _ h) q (OwnL.free l1 l2 d (by simpa [M.sc] using e) fun a ha => k a (List.mem_cons_of_mem _ ha))
theorem OwnL.free (l1 : ∀ a xs, H a = some (.tup xs) → H' a = some (.tup xs)) (l2 : ∀ a o u, H a = some (.frz o u) → H' a = some (.frz o u)) : ∀ {vs : List V} {ms : List M} {F : List Addr}, OwnL C Z H vs ms F → M.scs ms = true → (∀ a ∈ F, ∀ o, H a = some o → H' a = some o) → OwnL C Z' H' vs ms F
  | _, _, _, .nil, _, _ => .nil
  | _, _, _, .cons a b, e, k => by
    have e' := e
    simp only [M.scs, Bool.and_eq_true] at e'
    exact .cons (Own.free l1 l2 a e'.1 fun x hx => k x (List.mem_append_left _ hx)) (OwnL.free l1 l2 b e'.2 fun x hx => k x (List.mem_append_right _ hx))
end
end

/-! ### the state by slots -/
def InF (fs : Fo) : Zo := fun a => ∃ i, a ∈ fs i
def WOk (C : Pl) (pv : V) (Z : Zo) (H : Hp) (v : V) (F : List Addr) : W → Prop
  | .val t => Den C Z H v t
  | .own m => Own C Z H v m F
  | .io m => Own C Z H v m F ∧ v = pv
structure Rel (C : Pl) (pv : V) (σa : Sig) (σ : St) (Z : Zo) (fs : Fo) (H : Hp) : Prop where
  len : σa.length = σ.length
  sl : ∀ i w, σa[i]? = some (some w) → ∃ v, σ[i]? = some (some v) ∧ WOk C pv Z H v (fs i) w
  nd : ∀ i, (fs i).Nodup
  dj : ∀ i j a, a ∈ fs i → a ∈ fs j → i = j
  dz : ∀ i a, a ∈ fs i → ¬ Z a
  zt : ∀ a, Z a → H a ≠ none
  ft : ∀ i a, a ∈ fs i → Tk H a
structure Ext (Z : Zo) (fs : Fo) (H : Hp) (Z' : Zo) (fs' : Fo) (H' : Hp) : Prop where
  keep : ∀ a o, H a = some o → ¬ InF fs a → H' a = some o
  tup : ∀ a xs, H a = some (.tup xs) → H' a = some (.tup xs)
  frz : ∀ a o u, H a = some (.frz o u) → H' a = some (.frz o u)
  zm : ∀ a, Z a → Z' a
  zn : ∀ a, Z' a → Z a ∨ InF fs a ∨ H a = none
  fn : ∀ a, InF fs' a → InF fs a ∨ H a = none
structure Sep (F : List Addr) (fs : Fo) (H : Hp) (Z' : Zo) (fs' : Fo) (H' : Hp) : Prop where
  nd : F.Nodup
  dz : ∀ a ∈ F, ¬ Z' a
  df : ∀ a ∈ F, ¬ InF fs' a
  tr : ∀ a ∈ F, Tk H' a
  nw : ∀ a ∈ F, InF fs a ∨ H a = none

section
variable {C : Pl} {pv : V} {Z Z1 Z2 : Zo} {H H1 H2 : Hp} {fs fs1 fs2 : Fo} {σa : Sig} {σ : St} {F : List Addr}
theorem Ext.refl : Ext Z fs H Z fs H := ⟨fun _ _ h _ => h, fun _ _ h => h, fun _ _ _ h => h, fun _ h => h, fun _ h => .inl h, fun _ h => .inl h⟩
theorem Ext.trans (a : Ext Z fs H Z1 fs1 H1) (b : Ext Z1 fs1 H1 Z2 fs2 H2) : Ext Z fs H Z2 fs2 H2 := by
  have nn : ∀ x, H1 x = none → InF fs x ∨ H x = none := fun x h => by
    cases e : H x with
    | none => exact .inr rfl
    | some o =>
      by_cases hx : InF fs x
      · exact .inl hx
      · rw [a.keep x o e hx] at h; cases h
  refine ⟨fun x o h n => ?_, fun x xs h => b.tup x xs (a.tup x xs h), fun x o u h => b.frz x o u (a.frz x o u h), fun x h => b.zm x (a.zm x h), fun x h => ?_, fun x h => ?_⟩
  · refine b.keep x o (a.keep x o h n) fun q => ?_
    rcases a.fn x q with q | q
    · exact n q
    · rw [h] at q; cases q
  · rcases b.zn x h with q | q | q
    · exact a.zn x q
    · rcases a.fn x q with q | q
      · exact .inr (.inl q)
      · exact .inr (.inr q)
    · rcases nn x q with q | q
      · exact .inr (.inl q)
      · exact .inr (.inr q)
  · rcases b.fn x h with q | q
    · exact a.fn x q
    · exact nn x q
theorem Ext.later (R : Rel C pv σa σ Z fs H) (e : Ext Z fs H Z1 fs1 H1) : Later Z H Z1 H1 :=
  ⟨e.zm, fun a o z h => e.keep a o h fun ⟨i, q⟩ => R.dz i a q z, e.tup, e.frz⟩
theorem Sep.nil : Sep [] fs H Z1 fs1 H1 := ⟨List.nodup_nil, fun _ h => (by cases h), fun _ h => (by cases h), fun _ h => (by cases h), fun _ h => (by cases h)⟩
/-- new things stand beside; nothing else has changed -/
structure Grow (Z : Zo) (H : Hp) (Z' : Zo) (H' : Hp) : Prop where
  keep : ∀ a o, H a = some o → H' a = some o
  zm : ∀ a, Z a → Z' a
  zn : ∀ a, Z' a → Z a ∨ H a = none
  zt : ∀ a, Z' a → H' a ≠ none
theorem Grow.refl (h : ∀ a, Z a → H a ≠ none) : Grow Z H Z H := ⟨fun _ _ h => h, fun _ h => h, fun _ h => .inl h, h⟩
theorem Grow.trans (a : Grow Z H Z1 H1) (b : Grow Z1 H1 Z2 H2) : Grow Z H Z2 H2 :=
  ⟨fun x o h => b.keep x o (a.keep x o h), fun x h => b.zm x (a.zm x h), fun x h => (b.zn x h).elim (a.zn x) fun q => .inr (by
    cases e : H x with
    | none => rfl
    | some o => rw [a.keep x o e] at q; cases q), b.zt⟩
theorem Grow.later (g : Grow Z H Z1 H1) : Later Z H Z1 H1 := ⟨g.zm, fun a o _ h => g.keep a o h, fun a xs h => g.keep a _ h, fun a o u h => g.keep a _ h⟩
theorem Grow.ext (g : Grow Z H Z1 H1) : Ext Z fs H Z1 fs H1 := ⟨fun a o h _ => g.keep a o h, fun a xs h => g.keep a _ h, fun a o u h => g.keep a _ h, g.zm, fun a h => (g.zn a h).imp id .inr, fun a h => .inl h⟩
theorem WOk.later {v : V} {w : W} (l : Later Z H Z1 H1) (k : ∀ a ∈ F, ∀ o, H a = some o → H1 a = some o) (h : WOk C pv Z H v F w) : WOk C pv Z1 H1 v F w := by
  cases w with
  | val t => exact Den.later l h
  | own m => exact Own.later l h k
  | io m => exact ⟨Own.later l h.1 k, h.2⟩
theorem keeps3 {a : Addr} (k : ∀ o, H a = some o → H1 a = some o) (h : Tk H a) : Tk H1 a := by
  cases e : H a with
  | none => exact absurd e h.1
  | some o => unfold Tk; rw [k o e, ← e]; exact h
theorem Rel.grow (R : Rel C pv σa σ Z fs H) (g : Grow Z H Z1 H1) : Rel C pv σa σ Z1 fs H1 := by
  refine ⟨R.len, fun i w h => ?_, R.nd, R.dj, fun i a ha z => ?_, g.zt, fun i a ha => ?_⟩
  · obtain ⟨v, e, q⟩ := R.sl i w h
    exact ⟨v, e, q.later g.later fun a _ o e => g.keep a o e⟩
  · rcases g.zn a z with z | z
    · exact R.dz i a ha z
    · exact (R.ft i a ha).1 z
  · exact keeps3 (fun o e => g.keep a o e) (R.ft i a ha)
/-- a new object, fixed -/
theorem Grow.new {p : Addr} {o : HO} (h : ∀ a, Z a → H a ≠ none) (hp : H p = none) : Grow Z H (fun a => Z a ∨ a = p) (upd H p o) := by
  refine ⟨fun a u e => by rw [upd_ne (ne_of_none e hp)]; exact e, fun a h => .inl h, fun a h => h.imp id fun e => by rw [e]; exact hp, fun a z => ?_⟩
  by_cases e : a = p
  · rw [e, upd_same]; intro q; cases q
  · rw [upd_ne e]
    exact h a (z.resolve_right e)
/-- .. not yet fixed -/
theorem Grow.new0 {p : Addr} {o : HO} (h : ∀ a, Z a → H a ≠ none) (hp : H p = none) : Grow Z H Z (upd H p o) := by
  refine ⟨fun a u e => by rw [upd_ne (ne_of_none e hp)]; exact e, fun a h => h, fun a h => .inl h, fun a z => ?_⟩
  by_cases e : a = p
  · rw [e, upd_same]; intro q; cases q
  · rw [upd_ne e]
    exact h a z

/-! ### values -/
def ROk (C : Pl) (Z : Zo) (H : Hp) (v : V) (F : List Addr) : R → Prop
  | .val t => Den C Z H v t
  | .own m => Own C Z H v m F
/-- a value that is used: fixed from now on -/
theorem settle {v : V} {r : R} {σ' : St} (R : Rel C pv σa σ Z1 fs1 H1) (e : Ext Z fs H Z1 fs1 H1) (s : Sep F fs H Z1 fs1 H1) (h : ROk C Z1 H1 v F r) :
    ∃ Z2, Rel C pv σa σ Z2 fs1 H1 ∧ Ext Z fs H Z2 fs1 H1 ∧ Later Z1 H1 Z2 H1 ∧ Den C Z2 H1 v r.t := by
  have l : Later Z1 H1 (fun a => Z1 a ∨ a ∈ F) H1 := ⟨fun _ h => .inl h, fun _ _ _ h => h, fun _ _ h => h, fun _ _ _ h => h⟩
  refine ⟨fun a => Z1 a ∨ a ∈ F, ⟨R.len, fun i w q => ?_, R.nd, R.dj, fun i a ha z => ?_, fun a z => ?_, R.ft⟩, ⟨e.keep, e.tup, e.frz, fun a z => .inl (e.zm a z), fun a z => ?_, e.fn⟩, l, ?_⟩
  · obtain ⟨v, q1, q2⟩ := R.sl i w q
    exact ⟨v, q1, q2.later l fun _ _ _ e => e⟩
  · rcases z with z | z
    · exact R.dz i a ha z
    · exact s.df a z ⟨i, ha⟩
  · rcases z with z | z
    · exact R.zt a z
    · exact (s.tr a z).1
  · rcases z with z | z
    · exact e.zn a z
    · exact (s.nw a z).elim (fun q => .inr (.inl q)) fun q => .inr (.inr q)
  · cases r with
    | val t => exact Den.later l h
    | own m => exact Own.freeze l h fun a ha => ⟨.inr ha, fun _ e => e⟩
end
end PY
set_option Elab.async false
set_option linter.all false
set_option maxRecDepth 100000
set_option maxHeartbeats 400000
/-! # PySound2: what an expression's evaluation promises of its reading -/
namespace PY
open PySem L2

/-- an exception of ours: its own dict holds its value -/
def ExcP (C : Pl) (c : Nat) (t : T) (d : Option Addr) (Z : Zo) (H : Hp) : Prop := C.cls c = true ∧ ∃ (dd : Addr) (v : V), d = some dd ∧ Z dd ∧ H dd = some (.xd [(("value" : Str), v)]) ∧ Den C Z H v t
def Spec {α β : Type} (C : Pl) (pv : V) (Wx : WX) (σ : St) (Z : Zo) (fs : Fo) (H : Hp) (P : Zo → Hp → β → List Addr → α → Prop) (o : Out α) (Q : β → Hp → Prop) : Prop := match o with
  | .fail => False
  | .ok r σa => ∀ (b : β) (H' : Hp) (Z' : Zo) (fs' : Fo) (F : List Addr), Rel C pv σa σ Z' fs' H' → Ext Z fs H Z' fs' H' → Sep F fs H Z' fs' H' → P Z' H' b F r → Q b H'
  | .ex c t σa => ∀ (d : Option Addr) (H' : Hp) (Z' : Zo) (fs' : Fo), Rel C pv σa σ Z' fs' H' → Ext Z fs H Z' fs' H' → ExcP C c t d Z' H' → Wx (.ref (C.ca c)) d σ H'
abbrev PR (C : Pl) : Zo → Hp → V → List Addr → R → Prop := ROk C
abbrev PB : Zo → Hp → Bool → List Addr → Bool → Prop := fun _ _ b _ r => b = r
abbrev PM (C : Pl) : Zo → Hp → List V → List Addr → List M → Prop := fun Z H vs F ms => OwnL C Z H vs ms F
inductive AsOk (C : Pl) (σ : St) (Z : Zo) (H : Hp) : List V → List Addr → List A → Prop
  | nil : AsOk C σ Z H [] [] []
  | v {v : V} {t : T} {vs : List V} {F : List Addr} {as : List A} : Den C Z H v t → AsOk C σ Z H vs F as → AsOk C σ Z H (v :: vs) F (.v t :: as)
  | io {v : V} {i : Nat} {vs : List V} {F : List Addr} {as : List A} : σ[i]? = some (some v) → AsOk C σ Z H vs F as → AsOk C σ Z H (v :: vs) F (.io i :: as)
  | gv {v : V} {m : M} {vs : List V} {G F : List Addr} {as : List A} : Own C Z H v m G → AsOk C σ Z H vs F as → AsOk C σ Z H (v :: vs) (G ++ F) (.gv m :: as)
abbrev PAs (C : Pl) (σ : St) : Zo → Hp → List V → List Addr → List A → Prop := AsOk C σ

def evB (cl : Nat → List W → Out R) (e : E) (σ : Sig) : Out Bool := (ev cl e σ).bind R.bool
def tE (C : Pl) (pv : V) (Wx : WX) (cl : Nat → List W → Out R) (e : E) : TE := fun σ H Q => ∃ (σa : Sig) (Z : Zo) (fs : Fo), Rel C pv σa σ Z fs H ∧ Spec C pv Wx σ Z fs H (PR C) (ev cl e σa) Q
def tBo (C : Pl) (pv : V) (Wx : WX) (cl : Nat → List W → Out R) (e : E) : TT := fun σ H Q => ∃ (σa : Sig) (Z : Zo) (fs : Fo), Rel C pv σa σ Z fs H ∧ Spec C pv Wx σ Z fs H PB (evB cl e σa) Q
def tM (C : Pl) (pv : V) (Wx : WX) (cl : Nat → List W → Out R) (e : E) : TA := fun σ H Q => ∃ (σa : Sig) (Z : Zo) (fs : Fo), Rel C pv σa σ Z fs H ∧ Spec C pv Wx σ Z fs H (PM C) (evM cl e σa) Q
def tAs (C : Pl) (pv : V) (Wx : WX) (cl : Nat → List W → Out R) (e : E) : TA := fun σ H Q => ∃ (σa : Sig) (Z : Zo) (fs : Fo), Rel C pv σa σ Z fs H ∧ Spec C pv Wx σ Z fs H (PAs C σ) (evA cl e σa) Q

theorem pe_imp {X : Cx} {e : Expr} {t t' : TE} (h : PE X e t) (k : ∀ σ H Q, t' σ H Q → t σ H Q) : PE X e t' := ⟨fun pins s σ H Q I q => h.run pins s σ H Q I (k σ H Q q)⟩
theorem pt_imp {X : Cx} {e : Expr} {t t' : TT} (h : PT X e t) (k : ∀ σ H Q, t' σ H Q → t σ H Q) : PT X e t' := ⟨fun pins s σ H Q I q => h.run pins s σ H Q I (k σ H Q q)⟩
theorem pw_imp {X : Cx} {e : Expr} {t t' : TT} (h : PW X e t) (k : ∀ σ H Q, t' σ H Q → t σ H Q) : PW X e t' := ⟨fun w pins s σ H Q I q => h.run w pins s σ H Q I (k σ H Q q)⟩
theorem pa_imp {X : Cx} {e : List Expr} {t t' : TA} (h : PA X e t) (k : ∀ σ H Q, t' σ H Q → t σ H Q) : PA X e t' := ⟨fun p pins s σ H Q I q => h.run p pins s σ H Q I (k σ H Q q)⟩

def upF (fs : Fo) (i : Nat) (G : List Addr) : Fo := fun j => if j = i then G else fs j
theorem upF_eq {fs : Fo} {i : Nat} {G : List Addr} : upF fs i G i = G := if_pos rfl
theorem upF_ne {fs : Fo} {i j : Nat} {G : List Addr} (h : j ≠ i) : upF fs i G j = fs j := if_neg h
section
variable {C : Pl} {pv : V} {Wx : WX} {σ : St} {Z Z1 Z2 : Zo} {fs fs1 fs2 : Fo} {H H1 H2 : Hp} {σa : Sig} {α β γ δ : Type}
theorem nw_of {F : List Addr} (e : Ext Z fs H Z1 fs1 H1) {a : Addr} (h : InF fs1 a ∨ H1 a = none) : InF fs a ∨ H a = none := by
  rcases h with h | h
  · exact e.fn a h
  · cases q : H a with
    | none => exact .inr rfl
    | some o =>
      by_cases hx : InF fs a
      · exact .inl hx
      · rw [e.keep a o q hx] at h; cases h
theorem Sep.from {F : List Addr} (e : Ext Z fs H Z1 fs1 H1) (s : Sep F fs1 H1 Z2 fs2 H2) : Sep F fs H Z2 fs2 H2 := ⟨s.nd, s.dz, s.df, s.tr, fun a ha => nw_of (F := F) e (s.nw a ha)⟩
/-- what is held apart stays apart -/
theorem Sep.step {F : List Addr} (s : Sep F fs H Z1 fs1 H1) (e : Ext Z1 fs1 H1 Z2 fs2 H2) : Sep F fs H Z2 fs2 H2 := by
  refine ⟨s.nd, fun a ha z => ?_, fun a ha z => ?_, fun a ha => ?_, s.nw⟩
  · rcases e.zn a z with q | q | q
    · exact s.dz a ha q
    · exact s.df a ha q
    · exact (s.tr a ha).1 q
  · rcases e.fn a z with q | q
    · exact s.df a ha q
    · exact (s.tr a ha).1 q
  · exact keeps3 (fun o h => e.keep a o h (s.df a ha)) (s.tr a ha)
theorem Sep.app {F G : List Addr} (s : Sep F fs H Z1 fs1 H1) (e0 : Ext Z fs H Z1 fs1 H1) (e : Ext Z1 fs1 H1 Z2 fs2 H2) (u : Sep G fs1 H1 Z2 fs2 H2) : Sep (F ++ G) fs H Z2 fs2 H2 := by
  have s' := s.step e
  have u' := u.from e0
  refine ⟨List.nodup_append.mpr ⟨s'.nd, u'.nd, fun a ha b hb q => ?_⟩, fun a ha => (List.mem_append.mp ha).elim (s'.dz a) (u'.dz a), fun a ha => (List.mem_append.mp ha).elim (s'.df a) (u'.df a), fun a ha => (List.mem_append.mp ha).elim (s'.tr a) (u'.tr a), fun a ha => (List.mem_append.mp ha).elim (s'.nw a) (u'.nw a)⟩
  subst q
  rcases u.nw a hb with q | q
  · exact s.df a ha q
  · exact (s.tr a ha).1 q
theorem own_step {F : List Addr} {v : V} {m : M} (R : Rel C pv σa σ Z1 fs1 H1) (s : Sep F fs H Z1 fs1 H1) (e : Ext Z1 fs1 H1 Z2 fs2 H2) (h : Own C Z1 H1 v m F) : Own C Z2 H2 v m F :=
  h.later (e.later R) fun a ha o q => e.keep a o q (s.df a ha)
theorem Spec.shift {P : Zo → Hp → β → List Addr → α → Prop} {o : Out α} {Q : β → Hp → Prop} (e : Ext Z fs H Z1 fs1 H1) (h : Spec C pv Wx σ Z fs H P o Q) : Spec C pv Wx σ Z1 fs1 H1 P o Q := by
  cases o with
  | fail => exact h
  | ok r σb => exact fun b H' Z' fs' F R x s p => h b H' Z' fs' F R (e.trans x) (s.from e) p
  | ex c t σb => exact fun d H' Z' fs' R x p => h d H' Z' fs' R (e.trans x) p
theorem Spec.bind {P : Zo → Hp → β → List Addr → α → Prop} {P' : Zo → Hp → δ → List Addr → γ → Prop} {o : Out α} {f : α → Sig → Out γ} {Q : δ → Hp → Prop} {Q' : β → Hp → Prop} (h : Spec C pv Wx σ Z fs H P' (o.bind f) Q)
    (k : ∀ (r : α) (σ1 : Sig) (b : β) (Z1 : Zo) (fs1 : Fo) (H1 : Hp) (F : List Addr), o = .ok r σ1 → Rel C pv σ1 σ Z1 fs1 H1 → Ext Z fs H Z1 fs1 H1 → Sep F fs H Z1 fs1 H1 → P Z1 H1 b F r → Spec C pv Wx σ Z fs H P' (f r σ1) Q → Q' b H1) : Spec C pv Wx σ Z fs H P o Q' := by
  cases o with
  | fail => exact h
  | ok r σb => exact fun b H' Z' fs' F R x s p => k r σb b Z' fs' H' F rfl R x s p h
  | ex c t σb => exact h
/-- a value that is used -/
theorem Spec.bindT {P' : Zo → Hp → δ → List Addr → γ → Prop} {o : Out R} {f : R → Sig → Out γ} {Q : δ → Hp → Prop} {Q' : V → Hp → Prop} (h : Spec C pv Wx σ Z fs H P' (o.bind f) Q)
    (k : ∀ (r : R) (σ1 : Sig) (v : V) (Z1 : Zo) (fs1 : Fo) (H1 : Hp), o = .ok r σ1 → Rel C pv σ1 σ Z1 fs1 H1 → Ext Z fs H Z1 fs1 H1 → Den C Z1 H1 v r.t → Spec C pv Wx σ Z1 fs1 H1 P' (f r σ1) Q → Q' v H1) : Spec C pv Wx σ Z fs H (PR C) o Q' :=
  h.bind fun r σ1 v Z1 fs1 H1 F e R x s p q => by
    obtain ⟨Z2, R2, x2, _, d⟩ := settle (σ' := σ) R x s p
    exact k r σ1 v Z2 fs1 H1 e R2 x2 d (q.shift x2)
/-- the end: a value that stands -/
theorem Spec.fin {t : T} {v : V} {Q : VK} (h : Spec C pv Wx σ Z fs H (PR C) (.ok (.val t) σa) Q) (R : Rel C pv σa σ Z fs H) (d : Den C Z H v t) : Q v H := h v H Z fs [] R .refl .nil d
theorem Spec.finB {b : Bool} {Q : Bool → Hp → Prop} (h : Spec C pv Wx σ Z fs H PB (.ok b σa) Q) (R : Rel C pv σa σ Z fs H) : Q b H := h b H Z fs [] R .refl .nil rfl
/-- a new fixed object -/
theorem Spec.new {t : T} {o : HO} {Q : VK} (h : Spec C pv Wx σ Z fs H (PR C) (.ok (.val t) σa) Q) (R : Rel C pv σa σ Z fs H) {p : Addr} (hp : H p = none)
    (d : ∀ Z', Grow Z H Z' (upd H p o) → Z' p → Den C Z' (upd H p o) (.ref p) t) : Q (.ref p) (upd H p o) := by
  have g : Grow Z H (fun a => Z a ∨ a = p) (upd H p o) := Grow.new R.zt hp
  exact h (.ref p) _ _ fs [] (R.grow g) g.ext .nil (d _ g (.inr rfl))
theorem Spec.newL {ts : List T} {xs : List V} {Q : VK} (h : Spec C pv Wx σ Z fs H (PR C) (.ok (.val (.lst ts)) σa) Q) (R : Rel C pv σa σ Z fs H) (d : DenL C Z H xs ts) {p : Addr} (hp : H p = none) : Q (.ref p) (upd H p (.lst xs)) :=
  h.new R hp fun Z' g z => .lst z upd_same (d.later g.later)
theorem Spec.newT {ts : List T} {xs : List V} {Q : VK} (h : Spec C pv Wx σ Z fs H (PR C) (.ok (.val (.tup ts)) σa) Q) (R : Rel C pv σa σ Z fs H) (d : DenL C Z H xs ts) {p : Addr} (hp : H p = none) : Q (.ref p) (upd H p (.tup xs)) :=
  h.new R hp fun Z' g z => .tup (SqT.of upd_same) (d.later g.later)
theorem inF_set {i : Nat} {G : List Addr} {a : Addr} (h : InF (upF fs i G) a) : a ∈ G ∨ InF fs a := by
  obtain ⟨j, hj⟩ := h
  by_cases e : j = i
  · rw [e, upF_eq] at hj; exact .inl hj
  · rw [upF_ne e] at hj; exact .inr ⟨j, hj⟩
theorem mem_up {i j : Nat} {a : Addr} (h : a ∈ upF fs i [] j) : j ≠ i ∧ a ∈ fs j := by
  by_cases e : j = i
  · rw [e, upF_eq] at h; cases h
  · rw [upF_ne e] at h; exact ⟨e, h⟩
theorem nd_up {i j : Nat} (h : ∀ i, (fs i).Nodup) : (upF fs i [] j).Nodup := by
  by_cases e : j = i
  · rw [e, upF_eq]; exact List.nodup_nil
  · rw [upF_ne e]; exact h j

/-- a slot's owned data becomes fixed -/
theorem Rel.freezeSlot {i : Nat} {m : M} {w : W} (R : Rel C pv σa σ Z fs H) (h : σa[i]? = some (some w)) (hw : w = .own m ∨ w = .io m) :
    ∃ (v : V) (Z' : Zo) (fs' : Fo), σ[i]? = some (some v) ∧ Rel C pv (σa.set i (some (.val m.er))) σ Z' fs' H ∧ Ext Z fs H Z' fs' H ∧ Den C Z' H v m.er := by
  obtain ⟨v, e, q⟩ := R.sl i w h
  have ow : Own C Z H v m (fs i) := by
    rcases hw with rfl | rfl
    · exact q
    · exact q.1
  have l : Later Z H (fun a => Z a ∨ a ∈ fs i) H := ⟨fun _ h => .inl h, fun _ _ _ h => h, fun _ _ h => h, fun _ _ _ h => h⟩
  have d : Den C (fun a => Z a ∨ a ∈ fs i) H v m.er := Own.freeze l ow fun a ha => ⟨.inr ha, fun _ e => e⟩
  refine ⟨v, fun a => Z a ∨ a ∈ fs i, upF fs i [], e, ⟨by rw [List.length_set]; exact R.len, fun j w' hj => ?_, fun j => ?_, fun j k a ha hb => ?_, fun j a ha z => ?_, fun a z => ?_, fun j a ha => ?_⟩, ⟨fun _ _ h _ => h, fun _ _ h => h, fun _ _ _ h => h, fun _ z => .inl z, fun a z => ?_, fun a z => ?_⟩, d⟩
  · by_cases hji : i = j
    · subst hji
      have hl : i < σa.length := (List.getElem?_eq_some_iff.mp h).1
      rw [List.getElem?_set_self hl] at hj
      cases hj
      exact ⟨v, e, d⟩
    · rw [List.getElem?_set_ne hji] at hj
      obtain ⟨v', e', q'⟩ := R.sl j w' hj
      refine ⟨v', e', ?_⟩
      rw [upF_ne (Ne.symm hji)]
      exact q'.later l fun _ _ _ e => e
  · exact nd_up R.nd
  · exact R.dj j k a (mem_up ha).2 (mem_up hb).2
  · obtain ⟨e1, ha⟩ := mem_up ha
    rcases z with z | z
    · exact R.dz j a ha z
    · exact e1 (R.dj j i a ha z)
  · rcases z with z | z
    · exact R.zt a z
    · exact (R.ft i a z).1
  · exact R.ft j a (mem_up ha).2
  · rcases z with z | z
    · exact .inl z
    · exact .inr (.inl ⟨i, z⟩)
  · rcases inF_set z with z | z
    · cases z
    · exact .inl z
/-- a slot's data changes hands, or goes; F stays apart -/
theorem Rel.drop {i : Nat} (R : Rel C pv σa σ Z fs H) : Rel C pv (σa.set i none) σ Z (upF fs i []) H := by
  refine ⟨by rw [List.length_set]; exact R.len, fun j w' hj => ?_, fun j => ?_, fun j k a ha hb => ?_, fun j a ha z => ?_, R.zt, fun j a ha => ?_⟩
  · by_cases hji : i = j
    · subst hji
      by_cases hl : i < σa.length
      · rw [List.getElem?_set_self hl] at hj; cases hj
      · rw [List.getElem?_eq_none (by rw [List.length_set]; omega)] at hj; cases hj
    · rw [List.getElem?_set_ne hji] at hj
      obtain ⟨v', e', q'⟩ := R.sl j w' hj
      refine ⟨v', e', ?_⟩
      rw [upF_ne (Ne.symm hji)]
      exact q'
  · exact nd_up R.nd
  · exact R.dj j k a (mem_up ha).2 (mem_up hb).2
  · exact R.dz j a (mem_up ha).2 z
  · exact R.ft j a (mem_up ha).2
theorem Ext.drop {i : Nat} : Ext Z fs H Z (upF fs i []) H :=
  ⟨fun _ _ h _ => h, fun _ _ h => h, fun _ _ _ h => h, fun _ z => z, fun _ z => .inl z, fun a z => (inF_set z).elim (fun q => by cases q) .inl⟩
theorem Rel.moved {i : Nat} (R : Rel C pv σa σ Z fs H) : Sep (fs i) fs H Z (upF fs i []) H := by
  refine ⟨R.nd i, fun a ha => R.dz i a ha, fun a ha ⟨j, hj⟩ => ?_, fun a ha => R.ft i a ha, fun a ha => .inl ⟨i, ha⟩⟩
  obtain ⟨e, hj⟩ := mem_up hj
  exact e (R.dj j i a hj ha)
end
end PY
set_option Elab.async false
set_option linter.all false
set_option maxRecDepth 100000
set_option maxHeartbeats 400000
/-! # PySound3: operators -/
namespace PY
open PySem L2

section
variable {X : Cx} {C : Pl} {pv : V} {Wx : WX} {σ : St} {Z Z1 Z2 : Zo} {fs fs1 fs2 : Fo} {H H1 H2 : Hp} {σa : Sig}

theorem DenL.cutV {vs : List V} {ts : List T} (d : DenL C Z H vs ts) (lo hi : Option Int) : DenL C Z H (cutV vs lo hi) (cutT ts lo hi) := by
  unfold L2.cutV cutT
  rw [d.length]
  exact (d.drop _).take _
theorem DenL.atI {vs : List V} {ts : List T} (d : DenL C Z H vs ts) {i : Int} {t : T} (h : L2.atI ts i = some t) : ∃ v, L2.atI vs i = some v ∧ Den C Z H v t := by
  unfold L2.atI at h ⊢
  rw [d.length]
  cases e : ixN ts.length i with
  | none => rw [e] at h; cases h
  | some j =>
    rw [e] at h
    obtain ⟨v, h1, h2⟩ := d.get (i := j) h
    exact ⟨v, h1, h2⟩

/-! ### data -/
mutual
theorem den_dp : ∀ {v : V} {t : T} {d : PyData}, Den C Z H v t → t.pd = some d → d.canLay0 = true → Dp C.K H v d
  | _, .non, _, h, e, _ => by cases h; simp only [T.pd, Option.some.injEq] at e; subst e; exact .non
  | _, .bl b, _, h, e, _ => by cases h; simp only [T.pd, Option.some.injEq] at e; subst e; exact .bl b
  | _, .int i, _, h, e, _ => by cases h; simp only [T.pd, Option.some.injEq] at e; subst e; exact .int i
  | _, .str x, _, h, e, _ => by cases h; simp only [T.pd, Option.some.injEq] at e; subst e; exact .str x
  | _, .lst ts, _, h, e, c => by
    cases h with
    | lst z hh dl =>
      simp only [T.pd, Option.map_eq_some_iff] at e
      obtain ⟨ds, e1, e2⟩ := e
      subst e2
      simp only [PyData.canLay0] at c
      exact .lst (.inl (.inl hh)) (denL_dp dl e1 c)
  | _, .tup ts, _, h, e, c => by
    cases h with
    | tup hh dl =>
      simp only [T.pd, Option.map_eq_some_iff] at e
      obtain ⟨ds, e1, e2⟩ := e
      subst e2
      simp only [PyData.canLay0] at c
      exact .tup hh (denL_dp dl e1 c)
  | _, .dK ks ts, _, h, e, c => by
    cases ks with
    | nil => simp only [T.pd, Option.some.injEq] at e; subst e; simp [PyData.canLay0] at c
    | cons k ks => simp [T.pd] at e
  | _, .dT ks ts, _, h, e, c => by simp [T.pd] at e
  | _, .fn i, _, h, e, c => by simp [T.pd] at e
  | _, .scr ns, _, h, e, c => by simp [T.pd] at e
theorem denL_dp : ∀ {vs : List V} {ts : List T} {ds : List PyData}, DenL C Z H vs ts → T.pds ts = some ds → PyData.canLayAll0 ds = true → DpAll C.K H vs ds
  | _, [], _, h, e, _ => by cases h; simp only [T.pds, Option.some.injEq] at e; subst e; exact .nil
  | _, t :: ts, _, h, e, c => by
    cases h with
    | cons a b =>
      simp only [T.pds] at e
      split at e
      · rename_i d ds e1 e2
        simp only [Option.some.injEq] at e
        subst e
        simp only [PyData.canLayAll0, Bool.and_eq_true] at c
        exact .cons (den_dp a e1 c.1) (denL_dp b e2 c.2)
      · cases e
end
theorem teq_den {x y : V} {a b : T} {r : Bool} (h : teq a b = some r) (dx : Den C Z H x a) (dy : Den C Z H y b) :
    ∃ d e, Dp C.K H x d ∧ Dp C.K H y e ∧ SeqAt.shaped d = true ∧ SeqAt.shaped e = true ∧ r = PyData.eqv d e := by
  unfold teq at h
  split at h
  · rename_i d e e1 e2
    split at h
    · rename_i s
      simp only [Bool.and_eq_true] at s
      simp only [Option.some.injEq] at h
      exact ⟨d, e, den_dp dx e1 (SeqAt.canLay_of_shaped s.1), den_dp dy e2 (SeqAt.canLay_of_shaped s.2), s.1, s.2, h.symm⟩
    · cases h
  · cases h

/-! ### two-place operators -/
def boO : BO → Operator
  | .add => .Add | .sub => .Sub | .mul => .Mult | .mod => .Mod | .fdiv => .FloorDiv | .pow => .Pow
def boR : BO → R2
  | .add => fun x y H Q => (rI0 (fun i j => .int (i + j)) x y H Q ∨ rCat x y H Q) ∨ ∃ i j, x = .str i ∧ y = .str j ∧ i.length + j.length ≤ sizeLine ∧ Q (.str (i ++ j)) H
  | .sub => rI0 fun i j => .int (i - j)
  | .mul => fun x y H Q => rI CMul (fun i j => .int (i * j)) x y H Q ∨ rRep x y H Q
  | .mod => rI (fun _ j => 0 < j) fun i j => .int (i % j)
  | .fdiv => rI CDiv fun i j => .int (i / j)
  | .pow => rI CPow fun i j => .int (i ^ j.toNat)
theorem bo_op (op : BO) : OpR X (binaryOp (boO op)) (boR op) := by
  cases op with
  | add => exact (op_add.or op_cat).or op_add_str
  | sub => exact op_sub
  | mul => exact op_mul.or op_rep
  | mod => exact op_mod
  | fdiv => exact op_fdiv
  | pow => exact op_pow
theorem mulOk_ok {i j : Int} (h : mulOk i j = true) : CMul i j := by
  unfold mulOk at h
  simp only [Bool.or_eq_true, Bool.and_eq_true, decide_eq_true_eq] at h
  exact h
theorem bo_den {op : BO} {x y : V} {a b t : T} {Q : VK} (e : bop op a b = some t) (dx : Den C Z H x a) (dy : Den C Z H y b) (R : Rel C pv σa σ Z fs H)
    (h : Spec C pv Wx σ Z fs H (PR C) (.ok (.val t) σa) Q) : boR op x y H Q := by
  unfold bop at e
  split at e
  · cases dx; cases dy
    simp only [Option.some.injEq] at e; subst e
    exact .inl (.inl ⟨_, _, rfl, rfl, h.fin R (.int _)⟩)
  · split at e
    · rename_i hl
      simp only [Option.some.injEq] at e; subst e
      cases dx with
      | lst z1 h1 l1 =>
        cases dy with
        | lst z2 h2 l2 => exact .inl (.inr ⟨_, _, _, _, rfl, rfl, h1, h2, by rw [l1.length, l2.length]; exact hl, fun p hp => h.newL R (l1.append l2) hp⟩)
    · cases e
  · split at e
    · rename_i hl
      simp only [Option.some.injEq] at e; subst e
      cases dx; cases dy
      exact .inr ⟨_, _, rfl, rfl, hl, h.fin R (.str _)⟩
    · cases e
  · cases dx; cases dy
    simp only [Option.some.injEq] at e; subst e
    exact ⟨_, _, rfl, rfl, h.fin R (.int _)⟩
  · split at e
    · rename_i hl
      simp only [Option.some.injEq] at e; subst e
      cases dx; cases dy
      exact .inl ⟨_, _, rfl, rfl, mulOk_ok hl, h.fin R (.int _)⟩
    · cases e
  · split at e
    · rename_i hl
      simp only [Option.some.injEq] at e; subst e
      cases dy
      cases dx with
      | lst z1 h1 l1 => exact .inr ⟨_, _, _, rfl, rfl, h1, hl.1, hl.2.1, by rw [l1.length]; exact hl.2.2, fun p hp => h.newL R (l1.rep _) hp⟩
    · cases e
  · split at e
    · rename_i hl
      simp only [Option.some.injEq] at e; subst e
      cases dx; cases dy
      exact ⟨_, _, rfl, rfl, hl, h.fin R (.int _)⟩
    · cases e
  · split at e
    · rename_i hl
      simp only [Option.some.injEq] at e; subst e
      cases dx; cases dy
      exact ⟨_, _, rfl, rfl, hl, h.fin R (.int _)⟩
    · cases e
  · split at e
    · rename_i hl
      simp only [Option.some.injEq] at e; subst e
      cases dx; cases dy
      exact ⟨_, _, rfl, rfl, hl, h.fin R (.int _)⟩
    · cases e
  · cases e

/-! ### comparisons -/
def coO : CO → CmpOp
  | .eq => .Eq | .ne => .NotEq | .lt => .Lt | .le => .LtE | .gt => .Gt | .ge => .GtE | .is => .Is | .isnot => .IsNot | .mem => .In | .nmem => .NotIn
def plnV : V → Bool
  | .non => true | .int _ => true | .str _ => true | .ref _ => true | .bl _ => true | _ => false
/-- not an object of the heap's -/
def rIsO (neg : Bool) : R2 := fun x y H Q => ∃ b : Bool, y = .bl b ∧ x ≠ .bl b ∧ plnV x = true ∧ Q (.bl neg) H
theorem op_isO : OpR X (compareOp .Is) (rIsO false) := by
  intro pins s σ H x y v u Q I rx ry h
  obtain ⟨b, rfl, hn, hk, q⟩ := h
  cases (show u = Value.bool b from ry)
  have fin : EP X pins σ Q (.bool false) s := ⟨.bl false, H, I, rfl, q⟩
  cases x with
  | non => cases (show v = Value.none from rx); exact wpAny_is_other rfl (fun z => by cases z) fin
  | int i => obtain ⟨t, e⟩ := (show ∃ t, v = Value.int i t from rx); subst e; exact wpAny_is_other rfl (fun z => by cases z) fin
  | str i => obtain ⟨t, e⟩ := (show ∃ t, v = Value.str i t from rx); subst e; exact wpAny_is_other rfl (fun z => by cases z) fin
  | ref a => cases (show v = Value.ref a from rx); exact wpAny_is_other rfl (fun z => by cases z) fin
  | bl c => cases (show v = Value.bool c from rx); exact wpAny_is_other rfl (fun z => hn (by cases z; rfl)) fin
  | _ => cases hk
theorem op_isnotO : OpR X (compareOp .IsNot) (rIsO true) := by
  intro pins s σ H x y v u Q I rx ry h
  obtain ⟨b, rfl, hn, hk, q⟩ := h
  cases (show u = Value.bool b from ry)
  have fin : EP X pins σ Q (.bool true) s := ⟨.bl true, H, I, rfl, q⟩
  cases x with
  | non => cases (show v = Value.none from rx); exact wpAny_isNot_other rfl (fun z => by cases z) fin
  | int i => obtain ⟨t, e⟩ := (show ∃ t, v = Value.int i t from rx); subst e; exact wpAny_isNot_other rfl (fun z => by cases z) fin
  | str i => obtain ⟨t, e⟩ := (show ∃ t, v = Value.str i t from rx); subst e; exact wpAny_isNot_other rfl (fun z => by cases z) fin
  | ref a => cases (show v = Value.ref a from rx); exact wpAny_isNot_other rfl (fun z => by cases z) fin
  | bl c => cases (show v = Value.bool c from rx); exact wpAny_isNot_other rfl (fun z => hn (by cases z; rfl)) fin
  | _ => cases hk
def rInDict (neg : Bool) : R2 := fun x y H Q => ∃ a o, y = .ref a ∧ DGet H a x o ∧ Q (.bl (if neg then !o.isSome else o.isSome)) H
theorem op_inDict (hu : X.A.units + 1 < cLine) : OpR X (compareOp .In) (rInDict false) := by
  intro pins s σ H x y v u Q I rx ry h
  obtain ⟨a, ov, rfl, g, q⟩ := h
  obtain rfl : u = Value.ref a := ry
  exact d_in hu I g rx fun s3 I3 => ⟨.bl ov.isSome, H, I3, rfl, q⟩
theorem op_notInDict (hu : X.A.units + 1 < cLine) : OpR X (compareOp .NotIn) (rInDict true) := by
  intro pins s σ H x y v u Q I rx ry h
  obtain ⟨a, ov, rfl, g, q⟩ := h
  obtain rfl : u = Value.ref a := ry
  exact d_notIn hu I g rx fun s3 I3 => ⟨.bl (!ov.isSome), H, I3, rfl, q⟩
def coR (K : PySem.W.Frag) : CO → R2
  | .eq => rEqD K
  | .ne => rNeD K
  | .lt => rI0 fun i j => .bl (decide (i < j))
  | .le => rI0 fun i j => .bl (decide (i ≤ j))
  | .gt => rI0 fun i j => .bl (decide (j < i))
  | .ge => rI0 fun i j => .bl (decide (j ≤ i))
  | .is => fun x y H Q => ((y = .non ∧ Q (.bl (decide (x = .non))) H) ∨ rIsB x y H Q) ∨ rIsO false x y H Q
  | .isnot => fun x y H Q => ((y = .non ∧ Q (.bl (!decide (x = .non))) H) ∨ rNotB x y H Q) ∨ rIsO true x y H Q
  | .mem => fun x y H Q => (rInD K x y H Q ∨ rInDict false x y H Q) ∨ ∃ i j, x = .str i ∧ y = .str j ∧ Q (.bl (!(Builtin.Str.occurrences j i 0 j.length 1).isEmpty)) H
  | .nmem => fun x y H Q => (rNotInD K x y H Q ∨ rInDict true x y H Q) ∨ ∃ i j, x = .str i ∧ y = .str j ∧ Q (.bl (!(!(Builtin.Str.occurrences j i 0 j.length 1).isEmpty))) H
theorem co_op (hu : X.A.units + 65 < cLine) (op : CO) : OpR X (compareOp (coO op)) (coR X.K op) := by
  cases op with
  | eq => exact op_eqD (by omega)
  | ne => exact op_neD (by omega)
  | lt => exact op_lt
  | le => exact op_le
  | gt => exact op_gt
  | ge => exact op_ge
  | is => exact (op_isN.or op_isBl).or op_isO
  | isnot => exact (op_notN.or op_notBl).or op_isnotO
  | mem => exact ((op_inD hu).or (op_inDict (by omega))).or op_in_str
  | nmem => exact ((op_notInD hu).or (op_notInDict (by omega))).or op_notin_str
theorem keyOf_kV {x : V} {t : T} {k : Ky} (h : keyOf t = some k) (d : Den C Z H x t) : x = kV k := by
  cases t <;> simp only [keyOf, Option.some.injEq, reduceCtorEq] at h
  · cases d; subst h; rfl
  · cases d; subst h; rfl
theorem valV_kix : ∀ {ks : List Ky} {xs : List V} {k : Ky}, ks.length = xs.length → valV (ks.zip xs) k = (kix ks k).bind fun j => xs[j]?
  | [], _, _, _ => by simp [kix, valV_nil]
  | j :: ks, [], _, h => by simp at h
  | j :: ks, x :: xs, k, h => by
    rw [List.zip_cons_cons]
    by_cases e : j = k
    · rw [valV_pos (p := (j, x)) e]; simp [kix, e]
    · rw [valV_neg (p := (j, x)) e, valV_kix (by simpa using h)]
      simp only [kix, if_neg e]
      cases kix ks k <;> simp
theorem kix_lt : ∀ {ks : List Ky} {k : Ky} {j : Nat}, kix ks k = some j → j < ks.length
  | i :: ks, k, j, h => by
    unfold kix at h
    split at h
    · simp only [Option.some.injEq] at h; subst h; simp
    · simp only [Option.map_eq_some_iff] at h
      obtain ⟨m, e, rfl⟩ := h
      have := kix_lt e
      simp only [List.length_cons]; omega
theorem valV_some {ks : List Ky} {xs : List V} {k : Ky} (h : ks.length = xs.length) : (valV (ks.zip xs) k).isSome = (kix ks k).isSome := by
  rw [valV_kix h]
  cases e : kix ks k with
  | none => rfl
  | some j =>
    have := kix_lt e
    simp [List.getElem?_eq_getElem (show j < xs.length by omega)]
theorem isT_den {x y : V} {a b : T} {r : Bool} (e : isT a b = some r) (dx : Den C Z H x a) (dy : Den C Z H y b) :
    (y = .non ∧ r = decide (x = .non)) ∨ (∃ p q, x = .bl p ∧ y = .bl q ∧ r = decide (p = q)) ∨ (∃ q, y = .bl q ∧ x ≠ .bl q ∧ r = false ∧ plnV x = true) := by
  unfold isT at e
  split at e <;> first
    | (cases e; done)
    | (simp only [Option.some.injEq] at e; subst e; cases dx <;> cases dy <;> first
        | exact .inl ⟨rfl, rfl⟩
        | exact .inl ⟨rfl, by simp⟩
        | exact .inr (.inl ⟨_, _, rfl, rfl, rfl⟩)
        | exact .inr (.inr ⟨_, rfl, fun z => (by cases z), rfl, rfl⟩))
theorem co_den {op : CO} {x y : V} {a b : T} {r : Bool} {Q : VK} (e : cop op a b = some r) (dx : Den C Z H x a) (dy : Den C Z H y b) (R : Rel C pv σa σ Z fs H)
    (h : Spec C pv Wx σ Z fs H (PR C) (.ok (.val (.bl r)) σa) Q) : coR C.K op x y H Q := by
  have fin : Q (.bl r) H := h.fin R (.bl r)
  unfold cop at e
  split at e
  · obtain ⟨d, e', h1, h2, s1, s2, rfl⟩ := teq_den e dx dy
    exact ⟨d, e', h1, h2, s1, s2, fin⟩
  · simp only [Option.map_eq_some_iff] at e
    obtain ⟨r', e, rfl⟩ := e
    obtain ⟨d, e', h1, h2, s1, s2, rfl⟩ := teq_den e dx dy
    exact ⟨d, e', h1, h2, s1, s2, fin⟩
  · cases dx; cases dy; simp only [Option.some.injEq] at e; subst e; exact ⟨_, _, rfl, rfl, fin⟩
  · cases dx; cases dy; simp only [Option.some.injEq] at e; subst e; exact ⟨_, _, rfl, rfl, fin⟩
  · cases dx; cases dy; simp only [Option.some.injEq] at e; subst e; exact ⟨_, _, rfl, rfl, fin⟩
  · cases dx; cases dy; simp only [Option.some.injEq] at e; subst e; exact ⟨_, _, rfl, rfl, fin⟩
  · rcases isT_den e dx dy with ⟨rfl, rfl⟩ | ⟨p, q, rfl, rfl, rfl⟩ | ⟨q, rfl, hn, rfl, hk⟩
    · exact .inl (.inl ⟨rfl, fin⟩)
    · exact .inl (.inr ⟨p, q, rfl, rfl, fin⟩)
    · exact .inr ⟨q, rfl, hn, hk, fin⟩
  · simp only [Option.map_eq_some_iff] at e
    obtain ⟨r', e, rfl⟩ := e
    rcases isT_den e dx dy with ⟨rfl, rfl⟩ | ⟨p, q, rfl, rfl, rfl⟩ | ⟨q, rfl, hn, rfl, hk⟩
    · exact .inl (.inl ⟨rfl, fin⟩)
    · exact .inl (.inr ⟨p, q, rfl, rfl, fin⟩)
    · exact .inr ⟨q, rfl, hn, hk, fin⟩
  · unfold tmem at e
    split at e
    · split at e
      · split at e
        · rename_i d ds e1 e2 s
          simp only [Bool.and_eq_true] at s
          simp only [Option.some.injEq] at e; subst e
          cases dy with
          | lst z hh dl =>
            have c := SeqAt.canLay_of_shaped s.2
            simp only [PyData.canLay0] at c
            exact .inl (.inl ⟨d, ds, den_dp dx e1 (SeqAt.canLay_of_shaped s.1), .lst (.inl (.inl hh)) (denL_dp dl e2 c), s.1, s.2, fin⟩)
        · cases e
      · cases e
    · simp only [Option.map_eq_some_iff] at e
      obtain ⟨k, e1, e2⟩ := e
      cases dy with
      | dK z hh hl dl =>
        rw [keyOf_kV e1 dx]
        refine .inl (.inr ⟨_, _, rfl, DGet.k hh, ?_⟩)
        rw [valV_some hl, e2]; exact fin
    · split at e
      · simp only [Option.some.injEq] at e; subst e
        cases dx
        cases dy
        exact .inr ⟨_, _, rfl, rfl, fin⟩
      · cases e
    · cases e
  · simp only [Option.map_eq_some_iff] at e
    obtain ⟨r', e, rfl⟩ := e
    unfold tmem at e
    split at e
    · split at e
      · split at e
        · rename_i d ds e1 e2 s
          simp only [Bool.and_eq_true] at s
          simp only [Option.some.injEq] at e; subst e
          cases dy with
          | lst z hh dl =>
            have c := SeqAt.canLay_of_shaped s.2
            simp only [PyData.canLay0] at c
            exact .inl (.inl ⟨d, ds, den_dp dx e1 (SeqAt.canLay_of_shaped s.1), .lst (.inl (.inl hh)) (denL_dp dl e2 c), s.1, s.2, fin⟩)
        · cases e
      · cases e
    · simp only [Option.map_eq_some_iff] at e
      obtain ⟨k, e1, e2⟩ := e
      cases dy with
      | dK z hh hl dl =>
        rw [keyOf_kV e1 dx]
        refine .inl (.inr ⟨_, _, rfl, DGet.k hh, ?_⟩)
        rw [valV_some hl, e2]; exact fin
    · split at e
      · simp only [Option.some.injEq] at e; subst e
        cases dx
        cases dy
        exact .inr ⟨_, _, rfl, rfl, fin⟩
      · cases e
    · cases e
  · cases e
end
end PY
set_option Elab.async false
set_option linter.all false
set_option maxRecDepth 100000
set_option maxHeartbeats 400000
/-! # PySound4: built-ins, items, slices, isinstance, repr -/
namespace PY
open PySem L2

section
variable {X : Cx} {C : Pl} {pv : V} {Wx : WX} {σ : St} {Z Z1 Z2 : Zo} {fs fs1 fs2 : Fo} {H H1 H2 : Hp} {σa : Sig} {pins : List (Addr × Obj)} {s : Shared}

/-! ### what is shown -/
theorem not_sys (I : Inv X pins σ H s) (hs : ∃ o, X.base.get? sysModules = some o) {a : Addr} {o : HO} (h : H a = some o) : sysModules ≠ a := by
  obtain ⟨ob, e⟩ := hs
  intro z
  rw [← z, (I.bs _ _ e).2] at h
  cases h
theorem dk_nil {P : Program} {w : World} {h : Heap} {a : Addr} (x : ObjOk P w H h a (.dK [])) : ∃ (o : Obj) (es : Array DictEntry) (n : Nat), h.get? a = some o ∧ o.cls = .type "dict" ∧ o.data = .dict es n ∧ es.toList = [] := by
  obtain ⟨_, _, vs, kv, o, es, ep, e, x, d, _, pr, _⟩ := x
  cases kv
  refine ⟨o, es, ep, e, x.1, d, ?_⟩
  cases hes : es.toList with
  | nil => rfl
  | cons y r => rw [hes] at pr; cases pr
mutual
theorem den_reads (hK : C.K = X.K) (I : Inv X pins σ H s) (hs : ∃ o, X.base.get? sysModules = some o) : ∀ {t : T} {v : V} {u : Value} {d : PyData}, Den C Z H v t → t.pd = some d → RelV v u → ∃ as, Reads s.heap u d as ∧ sysModules ∉ as
  | .non, _, _, _, h, e, r => by cases h; cases r; simp only [T.pd, Option.some.injEq] at e; subst e; exact ⟨_, .none, by simp⟩
  | .bl b, _, _, _, h, e, r => by cases h; cases r; simp only [T.pd, Option.some.injEq] at e; subst e; exact ⟨_, .bool b, by simp⟩
  | .int i, _, _, _, h, e, r => by cases h; obtain ⟨t, rfl⟩ := r; simp only [T.pd, Option.some.injEq] at e; subst e; exact ⟨_, .int i t, by simp⟩
  | .str x, _, _, _, h, e, r => by cases h; obtain ⟨t, rfl⟩ := r; simp only [T.pd, Option.some.injEq] at e; subst e; exact ⟨_, .str x t, by simp⟩
  | .lst ts, _, _, _, h, e, r => by
    cases h with
    | lst z hh dl =>
      cases r
      simp only [T.pd, Option.map_eq_some_iff] at e
      obtain ⟨ds, e1, e2⟩ := e
      subst e2
      obtain ⟨its, rv, ⟨o, n, ho, hc, _, hd⟩, _⟩ := I.list (SqL.of hh)
      obtain ⟨as, hr, hn⟩ := denL_reads hK I hs dl e1 rv
      refine ⟨_, .list ho hc hd hr, fun q => ?_⟩
      rcases List.mem_cons.mp q with q | q
      · exact not_sys I hs hh q
      · exact hn q
  | .tup ts, _, _, _, h, e, r => by
    cases h with
    | tup hh dl =>
      cases r
      simp only [T.pd, Option.map_eq_some_iff] at e
      obtain ⟨ds, e1, e2⟩ := e
      subst e2
      rw [hK] at hh
      obtain ⟨its, rv, ⟨o, ho, hc, n, hd⟩, _⟩ := I.tuple hh
      obtain ⟨as, hr, hn⟩ := denL_reads hK I hs dl e1 rv
      exact ⟨_, .tuple ho hc hd hr, hn⟩
  | .dK ks ts, _, _, _, h, e, r => by
    cases ks with
    | cons k ks => simp [T.pd] at e
    | nil =>
      simp only [T.pd, Option.some.injEq] at e; subst e
      cases h with
      | dK z hh hl dl =>
        cases r
        rw [List.zip_nil_left] at hh
        obtain ⟨o, es, n, ho, hc, hd, he⟩ := dk_nil (I.hok _ _ hh)
        refine ⟨_, .dict (as := []) (bs := []) ho hc hd (by rw [he]; exact .nil) (by rw [he]; exact .nil), fun q => ?_⟩
        rcases List.mem_cons.mp q with q | q
        · exact not_sys I hs hh q
        · simp at q
  | .dT ks ts, _, _, _, h, e, r => by simp [T.pd] at e
  | .fn i, _, _, _, h, e, r => by simp [T.pd] at e
  | .scr ns, _, _, _, h, e, r => by simp [T.pd] at e
theorem denL_reads (hK : C.K = X.K) (I : Inv X pins σ H s) (hs : ∃ o, X.base.get? sysModules = some o) : ∀ {ts : List T} {vs : List V} {us : List Value} {ds : List PyData}, DenL C Z H vs ts → T.pds ts = some ds → Vals vs us → ∃ as, ReadsAll s.heap us ds as ∧ sysModules ∉ as
  | [], _, _, _, h, e, r => by cases h; cases r; simp only [T.pds, Option.some.injEq] at e; subst e; exact ⟨_, .nil, by simp⟩
  | t :: ts, _, _, _, h, e, r => by
    cases h with
    | cons a b =>
      cases r with
      | cons r1 r2 =>
        simp only [T.pds] at e
        split at e
        · rename_i d ds e1 e2
          simp only [Option.some.injEq] at e
          subst e
          obtain ⟨as, q1, n1⟩ := den_reads hK I hs a e1 r1
          obtain ⟨bs, q2, n2⟩ := denL_reads hK I hs b e2 r2
          exact ⟨_, .cons q1 q2, fun q => (List.mem_append.mp q).elim n1 n2⟩
        · cases e
end
/-- repr(x) -/
def rRepr (C : Pl) : List V → Hp → VK → Prop := fun xs H Q => ∃ (x : V) (t : T) (y : Str) (Z : Zo), xs = [x] ∧ Den C Z H x t ∧ shown? t = some y ∧ Q (.str y) H
theorem call_repr (hK : C.K = X.K) (hs : ∃ o, X.base.get? sysModules = some o) (hg : X.A.guards = some []) (hu : X.A.units + 65 < cLine) : CallR X (.builtin "repr") (rRepr C) := by
  intro pins s σ H xs us Q I r h
  obtain ⟨x, t, y, Z, rfl, d, e, q⟩ := h
  obtain ⟨u, rfl, rx⟩ := vals1 r
  unfold shown? at e
  split at e
  · rename_i dd hd
    split at e
    · rename_i c
      simp only [Bool.and_eq_true, decide_eq_true_eq] at c
      obtain ⟨⟨c1, c2⟩, c3⟩ := c
      simp only [Option.some.injEq] at e
      subst e
      obtain ⟨as, hr, hn⟩ := den_reads hK I hs d hd rx
      have fin : ∀ (h' : Heap) (w tk : Tok), (∀ b o, s.heap.get? b = some o → h'.get? b = some o) → EP X pins σ Q (.str dd.shown w) { s with heap := h', toks := tk } := fun h' w tk k => ⟨.str _, H, I.kept k, ⟨_, rfl⟩, q⟩
      have fin0 : ∀ (w tk : Tok), EP X pins σ Q (.str dd.shown w) { s with toks := tk } := fun w tk => fin s.heap w tk fun _ _ e => e
      cases hr with
      | none => exact P.repr_of_none (fin0 _ _)
      | bool b => exact P.repr_of_bool (fin0 _ _)
      | int i t => exact P.repr_of_int (by simpa [PyData.showable] using c1) (fin0 _ _)
      | str z t => exact P.repr_of_str (fin0 _ _) (by simpa [PyData.shown] using c3)
      | list a b c' dl => exact repr_of_reads' (.list a b c' dl) c1 (fun _ => hn) hg (by omega) (fun _ _ e => e) (fun h' w tk k => fin h' w tk k) c3
      | tuple a b c' dl => exact repr_of_reads' (.tuple a b c' dl) c1 (fun _ => hn) hg (by omega) (fun _ _ e => e) (fun h' w tk k => fin h' w tk k) c3
      | dict a b c' dl dl' => exact repr_of_reads' (.dict a b c' dl dl') c1 (fun _ => hn) hg (by omega) (fun _ _ e => e) (fun h' w tk k => fin h' w tk k) c3
    · cases e
  · cases e

/-! ### isinstance -/
def Src.n : Src → String
  | .non => "NoneType" | .bool => "bool" | .int => "int" | .str => "str" | .list => "list" | .tuple => "tuple" | .dict => "dict"
def Ty.n : Ty → String
  | .int => "int" | .bool => "bool" | .str => "str" | .list => "list" | .tuple => "tuple" | .dict => "dict"
theorem src_kit (a : Src) (t : Ty) : L2.kitB a.n t.n = some (srcIs a t) := by cases a <;> cases t <;> decide +kernel
theorem src_den (hK : C.K = X.K) {t : T} {x : V} {a : Src} (d : Den C Z H x t) (h : t.src = some a) : TyX X.K H x (.type a.n) := by
  cases d with
  | non => cases h; exact .base .non
  | bl c => cases h; exact .base (.bl c)
  | int i => cases h; exact .base (.int i)
  | str i => cases h; exact .base (.str i)
  | lst z hh dl => cases h; exact .base (.lst hh)
  | tup hh dl =>
    cases h
    rw [hK] at hh
    rcases hh with (hh | ⟨o, hh⟩) | ⟨o, its, n, hk, hc, _⟩
    · exact .base (.tup hh)
    · exact .fTuple hh
    · exact .kTuple hk hc
  | dK z hh hl dl => cases h; exact .base (.dK hh)
  | dT z hh hl dl => cases h; exact .base (.dT hh)
  | fn i => cases h
  | scr hh =>
    cases h
    rcases hh with ⟨z, hh⟩ | ⟨o, hh⟩ | ⟨o, its, n, hk, hc, _⟩
    · exact .base (.lst hh)
    · exact .base (.frz hh)
    · exact .kList (by rw [← hK]; exact hk) hc
  | exc _ _ _ _ _ _ => cases h
theorem isi_den (hK : C.K = X.K) {t : T} {x : V} {ty : Ty} {b : Bool} {Q : VK} (d : Den C Z H x t) (h : t.isTy ty = some b) (q : Q (.bl b) H) : rIsi X.K [x, .ty ty.n] H Q := by
  unfold T.isTy at h
  cases e : t.src with
  | none => rw [e] at h; cases h
  | some a =>
    rw [e] at h
    cases h
    exact ⟨x, .ty ty.n, _, .type ty.n, _, rfl, .ty _, src_den hK d e, kit_ty (src_kit a ty), q⟩
theorem isi2_den (hK : C.K = X.K) {t : T} {x : V} {ty ty' : Ty} {b b' : Bool} {tp : Addr} {Q : VK} (d : Den C Z H x t) (h : t.isTy ty = some b) (h' : t.isTy ty' = some b') (ht : H tp = some (.tup [.ty ty.n, .ty ty'.n])) (q : Q (.bl (b || b')) H) :
    rIsiT X.K [x, .ref tp] H Q := by
  unfold T.isTy at h h'
  cases e : t.src with
  | none => rw [e] at h; cases h
  | some a =>
    rw [e] at h h'
    cases h
    cases h'
    refine ⟨x, tp, [.ty ty.n, .ty ty'.n], .type a.n, [.type ty.n, .type ty'.n], srcIs a ty || srcIs a ty', rfl, ht, .cons (.ty _) (.cons (.ty _) .nil), src_den hK d e, kitAny_cons (kit_ty (src_kit a ty)) (fun hf => ?_) (fun ht => ?_), q⟩
    · refine kitAny_cons (kit_ty (src_kit a ty')) (fun hf' => ?_) (fun ht' => ?_)
      · rw [hf, hf']; exact kitAny_nil
      · rw [ht', Bool.or_true]
    · rw [ht, Bool.true_or]

/-! ### items -/
def rIxD : R2 := fun x y H Q => ∃ a v, x = .ref a ∧ DGet H a y (some v) ∧ Q v H
theorem ix_dict (hu : X.A.units + 1 < cLine) : IxR X rIxD := by
  intro value slice pins s σ H x y v u Q I rx ry h hs
  obtain ⟨a, z, rfl, g, q⟩ := h
  cases rx
  exact PyProof.Rows.tail_any (dict_typeIs I g) PySem.F.slot_dict_getitem.lookup (d_getItem hu I g ry fun w' s3 I3 rw' => ⟨z, H, I3, rw', q⟩) hs
def rIxA (K : PySem.W.Frag) : R2 := fun x y H Q => ((rIxL K x y H Q ∨ rIxT K x y H Q) ∨ rIxD x y H Q) ∨ rIxS x y H Q
theorem ix_all (hu : X.A.units + 1 < cLine) : IxR X (rIxA X.K) := ((ix_list.or ix_tup).or (ix_dict hu)).or ix_str
theorem atI_map {α β : Type} {f : α → β} {xs : List α} {i : Int} : L2.atI (xs.map f) i = (L2.atI xs i).map f := by
  unfold L2.atI
  rw [List.length_map]
  cases ixN xs.length i <;> simp
theorem ix_den (hK : C.K = X.K) {x y : V} {a b t : T} {Q : VK} (e : tix a b = some t) (dx : Den C Z H x a) (dy : Den C Z H y b) (q : ∀ v, Den C Z H v t → Q v H) : rIxA X.K x y H Q := by
  cases dx with
  | lst z hh dl =>
    cases dy with
    | int i =>
      obtain ⟨v, h1, h2⟩ := dl.atI (i := i) e
      exact .inl (.inl (.inl ⟨_, _, _, v, rfl, rfl, SqL.of hh, h1, q v h2⟩))
    | _ => simp [tix] at e
  | tup hh dl =>
    cases dy with
    | int i =>
      obtain ⟨v, h1, h2⟩ := dl.atI (i := i) e
      exact .inl (.inl (.inr ⟨_, _, _, v, rfl, rfl, by rw [← hK]; exact hh, h1, q v h2⟩))
    | _ => simp [tix] at e
  | scr hh =>
    cases dy with
    | int i =>
      simp only [tix, Option.map_eq_some_iff] at e
      obtain ⟨n, e1, rfl⟩ := e
      exact .inl (.inl (.inl ⟨_, _, _, .int n, rfl, rfl, by rw [← hK]; exact hh.sq, by rw [atI_map, e1]; rfl, q _ (.int n)⟩))
    | _ => simp [tix] at e
  | dK z hh hl dl =>
    simp only [tix, Option.bind_eq_some_iff] at e
    obtain ⟨k, h1, j, h2, h3⟩ := e
    obtain ⟨v, h4, h5⟩ := dl.get h3
    refine .inl (.inr ⟨_, v, rfl, ?_, q v h5⟩)
    rw [keyOf_kV h1 dy]
    have g := DGet.k (k := k) hh
    rw [valV_kix hl, h2] at g
    simpa [h4] using g
  | str z =>
    cases dy with
    | int i =>
      simp only [tix] at e
      split at e
      · rename_i hz
        simp only [Option.map_eq_some_iff] at e
        obtain ⟨c, e1, rfl⟩ := e
        exact .inr ⟨_, _, c, rfl, rfl, hz, e1, q _ (.str _)⟩
      · cases e
    | _ => simp [tix] at e
  | _ => simp [tix] at e
def isSl : Expr → Bool
  | .Slice .. => true
  | _ => false
theorem plainIx_of {b : Expr} (h : isSl b = false) : PlainIx b := by
  intro o i
  cases b <;> first | rfl | cases h

/-! ### slices -/
def rSlA (K : PySem.W.Frag) : V → Option Int → Option Int → Hp → VK → Prop := rSlL K
theorem cutV_map {α : Type} {f : α → V} {xs : List α} {lo hi : Option Int} : L2.cutV (xs.map f) lo hi = (cutT xs lo hi).map f := by
  unfold L2.cutV cutT
  rw [List.length_map, List.map_take, List.map_drop]
theorem sl_den (hK : C.K = X.K) {x : V} {a t : T} {l h : Option Int} {Q : VK} (e : tsl a l h = some t) (dx : Den C Z H x a) (R : Rel C pv σa σ Z fs H)
    (q : Spec C pv Wx σ Z fs H (PR C) (.ok (.val t) σa) Q) : rSlL X.K x l h H Q := by
  unfold tsl at e
  cases dx with
  | lst z hh dl =>
    simp only [Option.some.injEq] at e
    subst e
    exact ⟨_, _, rfl, SqL.of hh, fun p hp => q.newL R (dl.cutV l h) hp⟩
  | scr hh =>
    simp only [Option.some.injEq] at e
    subst e
    refine ⟨_, _, rfl, by rw [← hK]; exact hh.sq, fun p hp => ?_⟩
    rw [cutV_map]
    refine q.newL R ?_ hp
    generalize cutT _ l h = ns
    induction ns with
    | nil => exact .nil
    | cons n ns ih => exact .cons (.int n) ih
  | _ => simp at e

/-! ### built-ins -/
def BI.ty : BI → Bool
  | .int => true | .list => true | .tuple => true | .str => true
  | _ => false
def BI.n : BI → String
  | .len => "len" | .int => "int" | .sum => "sum" | .all => "all" | .any => "any" | .list => "list" | .tuple => "tuple" | .min2 => "min" | .max2 => "max" | .abs => "abs" | .repr => "repr" | .str => "str"
  | .minL => "min" | .maxL => "max"
def biR (C : Pl) : BI → List V → Hp → VK → Prop
  | .len => fun xs H Q => ((∃ p ys, xs = [.ref p] ∧ (SqL C.K H p ys ∨ SqT C.K H p ys) ∧ Q (.int ys.length) H) ∨ (∃ z, xs = [.str z] ∧ z.length ≤ sizeLine ∧ Q (.int z.length) H)) ∨ ∃ a kvs, xs = [V.ref a] ∧ H a = some (.dK kvs) ∧ Q (.int kvs.length) H
  | .int => fun xs H Q => (∃ i, xs = [.int i] ∧ Q (.int i) H) ∨ ∃ k, xs = [.bl k] ∧ Q (.int (if k then 1 else 0)) H
  | .sum => rSum C.K
  | .all => rAll C.K
  | .any => rAny C.K
  | .list => fun xs H Q => ∃ p ys, xs = [.ref p] ∧ (SqL C.K H p ys ∨ SqT C.K H p ys) ∧ ∀ l, H l = none → Q (.ref l) (upd H l (.lst ys))
  | .tuple => fun xs H Q => ∃ p ys, xs = [.ref p] ∧ ((SqL C.K H p ys ∧ ∀ l, H l = none → Q (.ref l) (upd H l (.tup ys))) ∨ (SqT C.K H p ys ∧ Q (.ref p) H))
  | .min2 => fun xs H Q => ∃ i j, xs = [.int i, .int j] ∧ Q (.int (if j < i then j else i)) H
  | .max2 => fun xs H Q => ∃ i j, xs = [.int i, .int j] ∧ Q (.int (if j > i then j else i)) H
  | .abs => fun xs H Q => ∃ i, xs = [.int i] ∧ Q (.int (if i < 0 then -i else i)) H
  | .repr => rRepr C
  | .maxL => rMax C.K
  | .minL => rMin C.K
  | _ => fun _ _ _ => False
def BI.v (b : BI) : Value := if b.ty then .type b.n else .builtin b.n
theorem bi_call (hK : C.K = X.K) (hc : X.calm = true) (hs : ∃ o, X.base.get? sysModules = some o) (hg : X.A.guards = some []) (hu : X.A.units + 65 < cLine) (b : BI) : CallR X b.v (biR C b) := by
  cases b with
  | len => unfold biR; rw [hK]; exact (call_len_seq.or call_len_str).or call_lenD
  | int => exact call_int1
  | sum => unfold biR; rw [hK]; exact cr_sum hc
  | all => unfold biR; rw [hK]; exact cr_all hc
  | any => unfold biR; rw [hK]; exact cr_any hc
  | list => unfold biR; rw [hK]; exact call_list_of
  | tuple => unfold biR; rw [hK]; exact call_tuple_of
  | min2 => exact call_min2 hc
  | max2 => exact call_max2 hc
  | abs => exact call_abs
  | repr => exact call_repr hK hs hg hu
  | maxL => unfold biR; rw [hK]; exact cr_max hc
  | minL => unfold biR; rw [hK]; exact cr_min hc
  | _ => exact fun _ _ _ _ _ _ _ _ _ h => h.elim
theorem bi_den {b : BI} {xs : List V} {ts : List T} {t : T} {Q : VK} (e : bi b ts = some t) (d : DenL C Z H xs ts) (R : Rel C pv σa σ Z fs H) (q : Spec C pv Wx σ Z fs H (PR C) (.ok (.val t) σa) Q) : biR C b xs H Q := by
  unfold bi at e
  split at e
  · cases d with | cons d1 d2 => cases d2; cases d1 with | lst z hh dl =>
    cases e; exact .inl (.inl ⟨_, _, rfl, .inl (SqL.of hh), by rw [dl.length]; exact q.fin R (.int _)⟩)
  · cases d with | cons d1 d2 => cases d2; cases d1 with | tup hh dl =>
    cases e; exact .inl (.inl ⟨_, _, rfl, .inr hh, by rw [dl.length]; exact q.fin R (.int _)⟩)
  · split at e
    · rename_i hl
      cases d with | cons d1 d2 => cases d2; cases d1; cases e; exact .inl (.inr ⟨_, rfl, hl, q.fin R (.int _)⟩)
    · cases e
  · cases d with | cons d1 d2 => cases d2; cases d1 with | dK z hh hl dl =>
    cases e
    exact .inr ⟨_, _, rfl, hh, by rw [List.length_zip, ← hl, Nat.min_self]; exact q.fin R (.int _)⟩
  · cases d with | cons d1 d2 => cases d2; cases d1 with | scr hh =>
    cases e
    exact .inl (.inl ⟨_, _, rfl, .inl hh.sq, by rw [List.length_map]; exact q.fin R (.int _)⟩)
  · cases d with | cons d1 d2 => cases d2; cases d1; cases e; exact .inl ⟨_, rfl, q.fin R (.int _)⟩
  · cases d with | cons d1 d2 => cases d2; cases d1; cases e; exact .inr ⟨_, rfl, q.fin R (.int _)⟩
  · simp only [Option.map_eq_some_iff] at e
    obtain ⟨ns, e1, rfl⟩ := e
    cases d with | cons d1 d2 => cases d2; cases d1 with | lst z hh dl =>
    rw [dl.ints e1] at hh
    exact ⟨_, ns, rfl, SqL.of hh, q.fin R (.int _)⟩
  · simp only [Option.map_eq_some_iff] at e
    obtain ⟨ns, e1, rfl⟩ := e
    cases d with | cons d1 d2 => cases d2; cases d1 with | lst z hh dl =>
    rw [dl.bls e1] at hh
    exact ⟨_, ns, rfl, SqL.of hh, q.fin R (.bl _)⟩
  · simp only [Option.map_eq_some_iff] at e
    obtain ⟨ns, e1, rfl⟩ := e
    cases d with | cons d1 d2 => cases d2; cases d1 with | lst z hh dl =>
    rw [dl.bls e1] at hh
    exact ⟨_, ns, rfl, SqL.of hh, q.fin R (.bl _)⟩
  · cases d with | cons d1 d2 => cases d2; cases d1 with | lst z hh dl =>
    cases e
    exact ⟨_, _, rfl, .inl (SqL.of hh), fun p hp => q.newL R dl hp⟩
  · cases d with | cons d1 d2 => cases d2; cases d1 with | tup hh dl =>
    cases e
    exact ⟨_, _, rfl, .inr hh, fun p hp => q.newL R dl hp⟩
  · cases d with | cons d1 d2 => cases d2; cases d1 with | lst z hh dl =>
    cases e
    exact ⟨_, _, rfl, .inl ⟨SqL.of hh, fun p hp => q.newT R dl hp⟩⟩
  · cases d with | cons d1 d2 => cases d2; cases d1 with | tup hh dl =>
    cases e
    exact ⟨_, _, rfl, .inr ⟨hh, q.fin R (.tup hh dl)⟩⟩
  · cases d with | cons d1 d2 => cases d2 with | cons d2 d3 => cases d3; cases d1; cases d2; cases e; exact ⟨_, _, rfl, q.fin R (.int _)⟩
  · cases d with | cons d1 d2 => cases d2 with | cons d2 d3 => cases d3; cases d1; cases d2; cases e; exact ⟨_, _, rfl, q.fin R (.int _)⟩
  · cases d with | cons d1 d2 => cases d2; cases d1; cases e; exact ⟨_, rfl, q.fin R (.int _)⟩
  · simp only [Option.map_eq_some_iff] at e
    obtain ⟨y, e1, rfl⟩ := e
    cases d with | cons d1 d2 => cases d2; exact ⟨_, _, y, Z, rfl, d1, e1, q.fin R (.str _)⟩
  · simp only [Option.bind_eq_some_iff, Option.map_eq_some_iff] at e
    obtain ⟨ns, e1, m, e2, rfl⟩ := e
    cases d with | cons d1 d2 => cases d2; cases d1 with | lst z hh dl =>
    rw [dl.ints e1] at hh
    obtain ⟨k1, k2⟩ := List.max?_eq_some_iff.mp e2
    refine ⟨_, ns, rfl, SqL.of hh, List.length_pos_of_mem k1, fun m' h1 h2 => ?_⟩
    have : m' = m := Int.le_antisymm (k2 m' h1) (h2 m k1)
    subst this
    exact q.fin R (.int _)
  · simp only [Option.bind_eq_some_iff, Option.map_eq_some_iff] at e
    obtain ⟨ns, e1, m, e2, rfl⟩ := e
    cases d with | cons d1 d2 => cases d2; cases d1 with | lst z hh dl =>
    rw [dl.ints e1] at hh
    obtain ⟨k1, k2⟩ := List.min?_eq_some_iff.mp e2
    refine ⟨_, ns, rfl, SqL.of hh, List.length_pos_of_mem k1, fun m' h1 h2 => ?_⟩
    have : m' = m := Int.le_antisymm (h2 m k1) (k2 m' h1)
    subst this
    exact q.fin R (.int _)
  · cases e
end
end PY
set_option Elab.async false
set_option linter.all false
set_option maxRecDepth 100000
set_option maxHeartbeats 400000
/-! # PySound5: expressions -/
namespace PY
open PySem L2

/-- an expression's text, as a value and as a test -/
structure SE (X : Cx) (C : Pl) (pv : V) (Wx : WX) (cl : Nat → List W → Out R) (ex : Expr) (e : E) : Prop where
  v : PE X ex (tE C pv Wx cl e)
  b : PT X ex (tBo C pv Wx cl e)
structure Gd (X : Cx) (C : Pl) (n : Nat) : Prop where
  hK : C.K = X.K
  calm : X.calm = true
  nd : X.N.Nodup
  sm : ∃ o, X.base.get? sysModules = some o
  gs : X.A.guards = some []
  room : Room n X.A
theorem Gd.hu {X : Cx} {C : Pl} {n : Nat} (g : Gd X C n) : X.A.units + 65 < cLine := by have := g.room.un; omega
theorem Gd.h1 {X : Cx} {C : Pl} {n : Nat} (g : Gd X C n) : X.A.units + 1 < cLine := by have := g.room.un; omega

section
variable {X : Cx} {C : Pl} {pv : V} {Wx : WX} {cl : Nat → List W → Out R} {ex : Expr} {e : E} {σ : St} {Z Z1 Z2 : Zo} {fs fs1 fs2 : Fo} {H H1 H2 : Hp} {σa : Sig}
/-- a test by its value -/
theorem tBo_of {Q : Bool → Hp → Prop} (h : tBo C pv Wx cl e σ H Q) : tE C pv Wx cl e σ H fun x H1 => ∃ c, x = .bl c ∧ Q c H1 := by
  obtain ⟨σa, Z, fs, R, h⟩ := h
  refine ⟨σa, Z, fs, R, Spec.bindT h fun r σ1 v Z1 fs1 H1 _ R1 _ d h1 => ?_⟩
  unfold PY.R.bool at h1
  cases ht : r.t with
  | bl b =>
    rw [ht] at d h1
    cases d
    exact ⟨b, rfl, h1.finB R1⟩
  | _ => rw [ht] at h1; exact h1.elim
theorem SE.of (h : PE X ex (tE C pv Wx cl e)) (he : ∀ whole, isTrue ex X.env whole = (do let v ← whole; standAt ex.pos; holding [v] (truthy v))) : SE X C pv Wx cl ex e :=
  ⟨h, pt_imp (pt_val h he) fun _ _ _ h => tBo_of h⟩
theorem SE.ofT (h : PE X ex (tE C pv Wx cl e)) {t : TE} (hb : PT X ex (tTest t)) (k : ∀ σ H Q, tE C pv Wx cl e σ H Q → t σ H Q) : SE X C pv Wx cl ex e :=
  ⟨h, pt_imp hb fun σ H Q h => k σ H _ (tBo_of h)⟩

/-! ### names, constants -/
theorem se_const {v : V} {t : T} (h : PE X ex (tC v)) (hev : ∀ σ, ev cl e σ = .ok (.val t) σ) (d : ∀ Z H, Den C Z H v t) : PE X ex (tE C pv Wx cl e) :=
  pe_imp h fun σ H Q ⟨σa, Z, fs, R, q⟩ => by
    rw [hev] at q
    exact q.fin R (d Z H)
theorem se_non {j pos} : SE X C pv Wx cl (.Constant .none j pos) .non := .of (se_const pe_non (fun _ => by simp only [ev]) fun _ _ => .non) fun _ => rfl
theorem se_bl {b j pos} : SE X C pv Wx cl (.Constant (.bool b) j pos) (.bl b) := .of (se_const pe_bl (fun _ => by simp only [ev]) fun _ _ => .bl b) fun _ => rfl
theorem se_int {i j pos} : SE X C pv Wx cl (.Constant (.int i) j pos) (.int i) := .of (se_const pe_int (fun _ => by simp only [ev]) fun _ _ => .int i) fun _ => rfl
theorem se_str {x j pos} : SE X C pv Wx cl (.Constant (.str x) j pos) (.str x) := .of (se_const pe_str (fun _ => by simp only [ev]) fun _ _ => .str x) fun _ => rfl
theorem se_gi {x : Str} {i : Int} {u : Value} {pos : Pos} (hg : Gl X x) (hm : X.mg x = some u) (r : RelV (.int i) u) (hd : (x == ("__debug__" : Str)) = false) : SE X C pv Wx cl (.Name x pos) (.gi x i) :=
  .of (se_const (pe_glob hg hm r hd) (fun _ => by simp only [ev]) fun _ _ => .int i) fun _ => rfl
theorem se_fnv {x : Str} {f : Nat} {pos : Pos} (hg : Gl X x) (hm : X.mg x = some (.ref (C.fa f))) (hd : (x == ("__debug__" : Str)) = false) : SE X C pv Wx cl (.Name x pos) (.fnv f) :=
  .of (se_const (pe_glob (v := .ref (C.fa f)) hg hm rfl hd) (fun _ => by simp only [ev]) fun _ _ => .fn f) fun _ => rfl
theorem tE_sl {i : Nat} {Q : VK} (h : tE C pv Wx cl (.sl i) σ H Q) : tVar i σ H Q := by
  obtain ⟨σa, Z, fs, R, q⟩ := h
  simp only [ev, rd] at q
  cases hi : σa[i]? with
  | none => rw [hi] at q; exact q.elim
  | some o =>
    cases o with
    | none => rw [hi] at q; exact q.elim
    | some w =>
      rw [hi] at q
      cases w with
      | val t =>
        obtain ⟨v, e, d⟩ := R.sl i _ hi
        exact ⟨v, e, q.fin R d⟩
      | own m =>
        obtain ⟨v, Z', fs', e, R', x, d⟩ := R.freezeSlot hi (.inl rfl)
        exact ⟨v, e, (q.shift x).fin R' d⟩
      | io m =>
        obtain ⟨v, Z', fs', e, R', x, d⟩ := R.freezeSlot hi (.inr rfl)
        exact ⟨v, e, (q.shift x).fin R' d⟩
theorem se_sl {i : Nat} {x : Str} {pos : Pos} (hN : X.N[i]? = some x) (hv : Vis X.env.scope x) (hd : (x == ("__debug__" : Str)) = false) (hcd : (x == ("__classdict__" : Str)) = false) : SE X C pv Wx cl (.Name x pos) (.sl i) :=
  .of (pe_imp (pe_var hN hv hd hcd) fun _ _ _ h => tE_sl h) fun _ => rfl
theorem tE_mv {i : Nat} {Q : VK} (h : tE C pv Wx cl (.mv i) σ H Q) : tVar i σ H Q := by
  obtain ⟨σa, Z, fs, R, q⟩ := h
  simp only [ev, mvd] at q
  split at q
  · rename_i m hi
    obtain ⟨v, e, d⟩ := R.sl i _ hi
    exact ⟨v, e, q v H Z _ (fs i) R.drop .drop R.moved d⟩
  · exact q.elim
theorem se_mv {i : Nat} {x : Str} {pos : Pos} (hN : X.N[i]? = some x) (hv : Vis X.env.scope x) (hd : (x == ("__debug__" : Str)) = false) (hcd : (x == ("__classdict__" : Str)) = false) : SE X C pv Wx cl (.Name x pos) (.mv i) :=
  .of (pe_imp (pe_var hN hv hd hcd) fun _ _ _ h => tE_mv h) fun _ => rfl

/-! ### operators -/
theorem se_bin {a b : Expr} {ea eb : E} {op : BO} {pos : Pos} (ha : SE X C pv Wx cl a ea) (hb : SE X C pv Wx cl b eb) : SE X C pv Wx cl (.BinOp a (boO op) b pos) (.bin op ea eb) := by
  refine .of (pe_imp (pe_op (bo_op op) ha.v hb.v) fun σ H Q ⟨σa, Z, fs, R, h⟩ => ?_) fun _ => rfl
  simp only [ev] at h
  refine ⟨σa, Z, fs, R, Spec.bindT h fun r σ1 x Z1 fs1 H1 _ R1 e1 d1 h1 => ?_⟩
  refine ⟨σ1, Z1, fs1, R1, Spec.bindT h1 fun r' σ2 y Z2 fs2 H2 _ R2 e2 d2 h2 => ?_⟩
  cases hb : bop op r.t r'.t with
  | none => rw [hb] at h2; exact h2.elim
  | some t =>
    rw [hb] at h2
    exact bo_den hb (d1.later (e2.later R1)) d2 R2 h2
theorem se_neg {a : Expr} {ea : E} {pos : Pos} (ha : SE X C pv Wx cl a ea) : SE X C pv Wx cl (.UnaryOp .USub a pos) (.neg ea) := by
  refine .of (pe_imp (pe_un un_neg ha.v) fun σ H Q ⟨σa, Z, fs, R, h⟩ => ?_) fun _ => rfl
  simp only [ev] at h
  refine ⟨σa, Z, fs, R, Spec.bindT h fun r σ1 x Z1 fs1 H1 _ R1 e1 d1 h1 => ?_⟩
  cases ht : r.t with
  | int i =>
    rw [ht] at d1 h1
    cases d1
    exact ⟨i, rfl, h1.fin R1 (.int _)⟩
  | _ => rw [ht] at h1; exact h1.elim
theorem evB_eq (e : E) (σ : Sig) : evB cl e σ = (ev cl e σ).bind R.bool := rfl
theorem bool_bl {r : R} {b : Bool} {σ : Sig} (h : r.t = .bl b) : r.bool σ = .ok b σ := by unfold R.bool; rw [h]
theorem se_not {a : Expr} {ea : E} {pos : Pos} (ha : SE X C pv Wx cl a ea) : SE X C pv Wx cl (.UnaryOp .Not a pos) (.not ea) := by
  refine ⟨pe_imp (pe_not ha.v) fun σ H Q ⟨σa, Z, fs, R, h⟩ => ?_, pt_imp (pt_not ha.b) fun σ H Q ⟨σa, Z, fs, R, h⟩ => ?_⟩
  · simp only [ev] at h
    refine ⟨σa, Z, fs, R, Spec.bindT h fun r σ1 x Z1 fs1 H1 _ R1 e1 d1 h1 => ?_⟩
    cases ht : r.t with
    | bl i =>
      rw [ht] at d1 h1
      cases d1
      exact ⟨i, rfl, h1.fin R1 (.bl _)⟩
    | _ => rw [ht] at h1; exact h1.elim
  · refine ⟨σa, Z, fs, R, ?_⟩
    rw [evB_eq] at h ⊢
    simp only [ev] at h
    cases hr : ev cl ea σa with
    | fail => rw [hr] at h; exact h
    | ex c v σ' => rw [hr] at h; exact h
    | ok r σ' =>
      rw [hr] at h
      simp only [Out.bind_ok] at h ⊢
      unfold PY.R.bool
      cases ht : r.t with
      | bl i =>
        rw [ht] at h
        simp only [Out.bind_ok, PY.R.bool, PY.R.t] at h
        intro b H' Z' fs' F R' x s p
        subst p
        exact h _ H' Z' fs' F R' x s rfl
      | _ => rw [ht] at h; exact h.elim
theorem se_and {a : Expr} {as : List Expr} {ea eb : E} {pos : Pos} {b : Expr} (ha : SE X C pv Wx cl a ea) (hv : PE X (.BoolOp .And (b :: as) pos) (tE C pv Wx cl eb)) (hb : PW X (.BoolOp .And (b :: as) pos) (tBo C pv Wx cl eb)) :
    PE X (.BoolOp .And (a :: b :: as) pos) (tE C pv Wx cl (.and ea eb)) ∧ PW X (.BoolOp .And (a :: b :: as) pos) (tBo C pv Wx cl (.and ea eb)) := by
  refine ⟨pe_imp (pe_and ha.v hv) fun σ H Q ⟨σa, Z, fs, R, h⟩ => ?_, pw_imp (pw_and ha.b hb) fun σ H Q ⟨σa, Z, fs, R, h⟩ => ?_⟩
  · simp only [ev] at h
    refine ⟨σa, Z, fs, R, Spec.bindT h fun r σ1 x Z1 fs1 H1 _ R1 e1 d1 h1 => ?_⟩
    cases ht : r.t with
    | bl i =>
      rw [ht] at d1 h1
      cases d1
      refine ⟨i, rfl, ?_⟩
      cases i with
      | true => exact ⟨σ1, Z1, fs1, R1, h1⟩
      | false => exact h1.fin R1 (.bl _)
    | _ => rw [ht] at h1; exact h1.elim
  · refine ⟨σa, Z, fs, R, ?_⟩
    rw [evB_eq] at h ⊢
    simp only [ev] at h
    cases hr : ev cl ea σa with
    | fail => rw [hr] at h; exact h
    | ex c v σ' => rw [hr] at h; exact h
    | ok r σ' =>
      rw [hr] at h
      simp only [Out.bind_ok] at h ⊢
      unfold PY.R.bool
      cases ht : r.t with
      | bl i =>
        rw [ht] at h
        intro b H' Z' fs' F R' x s p
        subst p
        cases b with
        | true =>
          simp only [ite_true]
          exact ⟨σ', Z', fs', R', h.shift x⟩
        | false =>
          simp only [Bool.false_eq_true, ite_false]
          simp only [Out.bind_ok, PY.R.bool, PY.R.t] at h
          exact h _ H' Z' fs' F R' x s rfl
      | _ => rw [ht] at h; exact h.elim
theorem se_or {a : Expr} {as : List Expr} {ea eb : E} {pos : Pos} {b : Expr} (ha : SE X C pv Wx cl a ea) (hv : PE X (.BoolOp .Or (b :: as) pos) (tE C pv Wx cl eb)) (hb : PW X (.BoolOp .Or (b :: as) pos) (tBo C pv Wx cl eb)) :
    PE X (.BoolOp .Or (a :: b :: as) pos) (tE C pv Wx cl (.or ea eb)) ∧ PW X (.BoolOp .Or (a :: b :: as) pos) (tBo C pv Wx cl (.or ea eb)) := by
  refine ⟨pe_imp (pe_or ha.v hv) fun σ H Q ⟨σa, Z, fs, R, h⟩ => ?_, pw_imp (pw_or ha.b hb) fun σ H Q ⟨σa, Z, fs, R, h⟩ => ?_⟩
  · simp only [ev] at h
    refine ⟨σa, Z, fs, R, Spec.bindT h fun r σ1 x Z1 fs1 H1 _ R1 e1 d1 h1 => ?_⟩
    cases ht : r.t with
    | bl i =>
      rw [ht] at d1 h1
      cases d1
      refine ⟨i, rfl, ?_⟩
      cases i with
      | false => exact ⟨σ1, Z1, fs1, R1, h1⟩
      | true => exact h1.fin R1 (.bl _)
    | _ => rw [ht] at h1; exact h1.elim
  · refine ⟨σa, Z, fs, R, ?_⟩
    rw [evB_eq] at h ⊢
    simp only [ev] at h
    cases hr : ev cl ea σa with
    | fail => rw [hr] at h; exact h
    | ex c v σ' => rw [hr] at h; exact h
    | ok r σ' =>
      rw [hr] at h
      simp only [Out.bind_ok] at h ⊢
      unfold PY.R.bool
      cases ht : r.t with
      | bl i =>
        rw [ht] at h
        intro b H' Z' fs' F R' x s p
        subst p
        cases b with
        | false =>
          simp only [Bool.false_eq_true, ite_false]
          exact ⟨σ', Z', fs', R', h.shift x⟩
        | true =>
          simp only [ite_true]
          simp only [Out.bind_ok, PY.R.bool, PY.R.t] at h
          exact h _ H' Z' fs' F R' x s rfl
      | _ => rw [ht] at h; exact h.elim
/-- the last of and, or -/
theorem se_one {op : BoolOp} {a : Expr} {ea : E} {pos : Pos} (ha : SE X C pv Wx cl a ea) : PE X (.BoolOp op [a] pos) (tE C pv Wx cl ea) ∧ PW X (.BoolOp op [a] pos) (tBo C pv Wx cl ea) := by
  refine ⟨pe_one ha.v, ?_⟩
  cases op with
  | And => exact pw_and1 ha.b
  | Or => exact pw_or1 ha.b
theorem SE.ofW (h : PE X ex (tE C pv Wx cl e) ∧ PW X ex (tBo C pv Wx cl e)) : SE X C pv Wx cl ex e := ⟨h.1, h.2.pt⟩
theorem se_ite {c a b : Expr} {ec ea eb : E} {pos : Pos} (hc : SE X C pv Wx cl c ec) (ha : SE X C pv Wx cl a ea) (hb : SE X C pv Wx cl b eb)
    (hi : ∀ {ta tb : TT} {tc : TT}, PT X c tc → PT X a ta → PT X b tb → PT X (.IfExp c a b pos) (fun σ H Q => tc σ H fun k H1 => if k = true then ta σ H1 Q else tb σ H1 Q)) : SE X C pv Wx cl (.IfExp c a b pos) (.ite ec ea eb) := by
  refine ⟨pe_imp (pe_ifExp hc.b ha.v hb.v) fun σ H Q ⟨σa, Z, fs, R, h⟩ => ?_, pt_imp (hi hc.b ha.b hb.b) fun σ H Q ⟨σa, Z, fs, R, h⟩ => ?_⟩
  · refine ⟨σa, Z, fs, R, ?_⟩
    rw [evB_eq]
    simp only [ev] at h
    cases hr : ev cl ec σa with
    | fail => rw [hr] at h; exact h
    | ex c v σ' => rw [hr] at h; exact h
    | ok r σ' =>
      rw [hr] at h
      simp only [Out.bind_ok] at h ⊢
      unfold PY.R.bool
      cases ht : r.t with
      | bl i =>
        rw [ht] at h
        intro b H' Z' fs' F R' x s p
        subst p
        cases b with
        | true => simp only [ite_true]; exact ⟨σ', Z', fs', R', h.shift x⟩
        | false => simp only [Bool.false_eq_true, ite_false]; exact ⟨σ', Z', fs', R', h.shift x⟩
      | _ => rw [ht] at h; exact h.elim
  · refine ⟨σa, Z, fs, R, ?_⟩
    rw [evB_eq] at h ⊢
    simp only [ev] at h
    cases hr : ev cl ec σa with
    | fail => rw [hr] at h; exact h
    | ex c v σ' => rw [hr] at h; exact h
    | ok r σ' =>
      rw [hr] at h
      simp only [Out.bind_ok] at h ⊢
      unfold PY.R.bool
      cases ht : r.t with
      | bl i =>
        rw [ht] at h
        intro b H' Z' fs' F R' x s p
        subst p
        cases b with
        | true => simp only [ite_true]; exact ⟨σ', Z', fs', R', h.shift x⟩
        | false => simp only [Bool.false_eq_true, ite_false]; exact ⟨σ', Z', fs', R', h.shift x⟩
      | _ => rw [ht] at h; exact h.elim
theorem cmp_k {op : CO} {ea eb : E} {Q : VK} (hK : C.K = X.K) (h : tE C pv Wx cl (.cmp op ea eb) σ H Q) : tOp (coR X.K op) (tE C pv Wx cl ea) (tE C pv Wx cl eb) σ H Q := by
  obtain ⟨σa, Z, fs, R, h⟩ := h
  simp only [ev] at h
  refine ⟨σa, Z, fs, R, Spec.bindT h fun r σ1 x Z1 fs1 H1 _ R1 e1 d1 h1 => ?_⟩
  refine ⟨σ1, Z1, fs1, R1, Spec.bindT h1 fun r' σ2 y Z2 fs2 H2 _ R2 e2 d2 h2 => ?_⟩
  cases hb : cop op r.t r'.t with
  | none => rw [hb] at h2; exact h2.elim
  | some t =>
    rw [hb] at h2
    rw [← hK]
    exact co_den hb (d1.later (e2.later R1)) d2 R2 h2
theorem se_cmp {n : Nat} (g : Gd X C n) {a b : Expr} {ea eb : E} {op : CO} {pos : Pos} (ha : SE X C pv Wx cl a ea) (hb : SE X C pv Wx cl b eb) (hm : behindInMarks (coO op) b = false) : SE X C pv Wx cl (.Compare a [coO op] [b] pos) (.cmp op ea eb) :=
  .ofT (pe_imp (pe_cmpR (co_op g.hu op) ha.v hb.v hm) fun _ _ _ h => cmp_k g.hK h) (pt_cmpR (co_op g.hu op) ha.v hb.v hm) fun _ _ _ h => cmp_k g.hK h
theorem chain_k {op op' : CO} {ea eb ec : E} {Q : VK} (hK : C.K = X.K) (h : tE C pv Wx cl (.chain op op' ea eb ec) σ H Q) : tChain (coR X.K op) (coR X.K op') (tE C pv Wx cl ea) (tE C pv Wx cl eb) (tE C pv Wx cl ec) σ H Q := by
  obtain ⟨σa, Z, fs, R, h⟩ := h
  simp only [ev] at h
  refine ⟨σa, Z, fs, R, Spec.bindT h fun r σ1 x Z1 fs1 H1 _ R1 e1 d1 h1 => ?_⟩
  refine ⟨σ1, Z1, fs1, R1, Spec.bindT h1 fun r' σ2 y Z2 fs2 H2 _ R2 e2 d2 h2 => ?_⟩
  cases hb : cop op r.t r'.t with
  | none => rw [hb] at h2; exact h2.elim
  | some t =>
    rw [hb] at h2
    rw [← hK]
    have d1' := d1.later (e2.later R1)
    have fin : ∀ (Q' : VK), (∀ H', Q' (.bl t) H') → True := fun _ _ => trivial
    refine co_den (σa := σ2) (Wx := Wx) hb d1' d2 R2 (fun v H3 Z3 fs3 F R3 e3 s3 p3 => ?_)
    cases p3
    refine ⟨t, rfl, ?_⟩
    cases t with
    | false => exact (h2.shift e3).fin R3 (.bl _)
    | true =>
      refine ⟨σ2, Z3, fs3, R3, Spec.bindT (h2.shift e3) fun r3 σ3 z Z4 fs4 H4 _ R4 e4 d4 h4 => ?_⟩
      cases hb' : cop op' r'.t r3.t with
      | none => rw [hb'] at h4; exact h4.elim
      | some t' =>
        rw [hb'] at h4
        exact co_den hb' ((d2.later (e3.later R2)).later (e4.later R3)) d4 R4 h4
theorem se_chain {n : Nat} (g : Gd X C n) {a b c : Expr} {ea eb ec : E} {op op' : CO} {pos : Pos} (ha : SE X C pv Wx cl a ea) (hb : SE X C pv Wx cl b eb) (hc : SE X C pv Wx cl c ec) (hm : lastMarks [coO op, coO op'] [b, c] = false) :
    SE X C pv Wx cl (.Compare a [coO op, coO op'] [b, c] pos) (.chain op op' ea eb ec) :=
  .ofT (pe_imp (pe_chain (co_op g.hu op) (co_op g.hu op') ha.v hb.v hc.v hm) fun _ _ _ h => chain_k g.hK h) (pt_chain (co_op g.hu op) (co_op g.hu op') ha.v hb.v hc.v hm) fun _ _ _ h => chain_k g.hK h
theorem se_ix {n : Nat} (g : Gd X C n) {a b : Expr} {ea eb : E} {pos : Pos} (ha : SE X C pv Wx cl a ea) (hb : SE X C pv Wx cl b eb) (hs : isSl b = false) : SE X C pv Wx cl (.Subscript a b pos) (.ix ea eb) := by
  refine .of (pe_imp (pe_ix (ix_all g.h1) ha.v hb.v (plainIx_of hs)) fun σ H Q ⟨σa, Z, fs, R, h⟩ => ?_) fun _ => rfl
  simp only [ev] at h
  refine ⟨σa, Z, fs, R, Spec.bindT h fun r σ1 x Z1 fs1 H1 _ R1 e1 d1 h1 => ?_⟩
  refine ⟨σ1, Z1, fs1, R1, Spec.bindT h1 fun r' σ2 y Z2 fs2 H2 _ R2 e2 d2 h2 => ?_⟩
  cases hb : tix r.t r'.t with
  | none => rw [hb] at h2; exact h2.elim
  | some t =>
    rw [hb] at h2
    exact ix_den g.hK hb (d1.later (e2.later R1)) d2 fun v d => h2.fin R2 d
/-- an optional part -/
def tO (C : Pl) (pv : V) (Wx : WX) (cl : Nat → List W → Out R) (e : E) : TO := fun σ H Q => ∃ (σa : Sig) (Z : Zo) (fs : Fo), Rel C pv σa σ Z fs H ∧ Spec (β := Option Int) C pv Wx σ Z fs H (fun _ _ l _ o => l = o) (evO cl e σa) Q
theorem so_none : PO X none (tO C pv Wx cl .none) :=
  ⟨fun pins s σ H Q I ⟨σa, Z, fs, R, q⟩ => po_none.run pins s σ H Q I (by
    simp only [evO] at q
    exact q none H Z fs [] R .refl .nil rfl)⟩
theorem so_some {a : Expr} {ea : E} (ha : SE X C pv Wx cl a ea) (hn : ea ≠ .none) : PO X (some a) (tO C pv Wx cl ea) := by
  have hev : ∀ σ, evO cl ea σ = (ev cl ea σ).bind R.int1 := fun σ => by
    cases ea <;> first | exact absurd rfl hn | simp only [evO]
  refine ⟨fun pins s σ H Q I ⟨σa, Z, fs, R, h⟩ => (po_some ha.v).run pins s σ H Q I ?_⟩
  rw [hev] at h
  refine ⟨σa, Z, fs, R, Spec.bindT h fun r σ1 x Z1 fs1 H1 _ R1 e1 d1 h1 => ?_⟩
  unfold PY.R.int1 at h1
  cases ht : r.t with
  | int i =>
    rw [ht] at d1 h1
    cases d1
    exact ⟨i, rfl, h1 (some i) H1 Z1 fs1 [] R1 .refl .nil rfl⟩
  | _ => rw [ht] at h1; exact h1.elim
theorem se_slice {n : Nat} (g : Gd X C n) {a : Expr} {ea el eh : E} {lo hi : Option Expr} {pos p2 : Pos} (ha : SE X C pv Wx cl a ea) (hl : PO X lo (tO C pv Wx cl el)) (hh : PO X hi (tO C pv Wx cl eh)) : SE X C pv Wx cl (.Subscript a (.Slice lo hi none p2) pos) (.slice ea el eh) := by
  refine .of (pe_imp (pe_slice sl_list ha.v hl hh) fun σ H Q ⟨σa, Z, fs, R, h⟩ => ?_) fun _ => rfl
  simp only [ev] at h
  refine ⟨σa, Z, fs, R, Spec.bindT h fun r σ1 x Z1 fs1 H1 _ R1 e1 d1 h1 => ?_⟩
  refine ⟨σ1, Z1, fs1, R1, Spec.bind h1 fun l σ2 l' Z2 fs2 H2 F2 _ R2 e2 s2 p2 h2 => ?_⟩
  subst p2
  refine ⟨σ2, Z2, fs2, R2, Spec.bind (h2.shift e2) fun l σ3 u' Z3 fs3 H3 F3 _ R3 e3 s3 p3 h3 => ?_⟩
  subst p3
  cases hb : tsl r.t l' u' with
  | none => rw [hb] at h3; exact h3.elim
  | some t =>
    rw [hb] at h3
    exact sl_den g.hK hb ((d1.later (e2.later R1)).later (e3.later R2)) R3 (h3.shift e3)

/-! ### displays -/
theorem sm_nil : PA X [] (tM C pv Wx cl .nil) := pa_imp pa_nil fun σ H Q ⟨σa, Z, fs, R, q⟩ => by
  simp only [evM] at q
  exact q [] H Z fs [] R .refl .nil .nil
theorem ROk.own {v : V} {F : List Addr} {r : R} (h : ROk C Z H v F r) (s : F = [] ∨ True) : ∃ G, Own C Z H v r.m G ∧ (∀ a ∈ G, a ∈ F) ∧ (F.Nodup → G.Nodup) := by
  cases r with
  | val t => exact ⟨[], .fr h, fun a ha => (by cases ha), fun _ => List.nodup_nil⟩
  | own m => exact ⟨F, h, fun a ha => ha, id⟩
theorem Sep.sub {F G : List Addr} (s : Sep F fs H Z1 fs1 H1) (h : ∀ a ∈ G, a ∈ F) (n : G.Nodup) : Sep G fs H Z1 fs1 H1 :=
  ⟨n, fun a ha => s.dz a (h a ha), fun a ha => s.df a (h a ha), fun a ha => s.tr a (h a ha), fun a ha => s.nw a (h a ha)⟩
theorem sm_cons {a : Expr} {as : List Expr} {ea eas : E} (ha : SE X C pv Wx cl a ea) (has : PA X as (tM C pv Wx cl eas)) (hs : starEach (a :: as) X.env = (false, eval a X.env) :: starEach as X.env) : PA X (a :: as) (tM C pv Wx cl (.cons ea eas)) := by
  refine pa_imp (pa_cons ha.v has hs) fun σ H Q ⟨σa, Z, fs, R, h⟩ => ?_
  simp only [evM] at h
  refine ⟨σa, Z, fs, R, Spec.bind h fun r σ1 v Z1 fs1 H1 F1 _ R1 e1 s1 p1 h1 => ?_⟩
  refine ⟨σ1, Z1, fs1, R1, Spec.bind (h1.shift e1) fun ms σ2 vs Z2 fs2 H2 F2 hev R2 e2 s2 p2 h2 => ?_⟩
  rw [hev, Out.bind_ok] at h1
  obtain ⟨G, ow, hG, nG⟩ := ROk.own p1 (.inr trivial)
  have sG := s1.sub hG (nG s1.nd)
  exact h1 (v :: vs) H2 Z2 fs2 (G ++ F2) R2 (e1.trans e2) (Sep.app sG e1 e2 s2) (.cons (own_step R1 sG e2 ow) p2)
end
end PY
set_option Elab.async false
set_option linter.all false
set_option maxRecDepth 100000
set_option maxHeartbeats 400000
/-! # PySound6: displays, calls of built-ins and of defs -/
namespace PY
open PySem L2

section
variable {X : Cx} {C : Pl} {pv : V} {Wx : WX} {cl : Nat → List W → Out R} {ex : Expr} {e : E} {σ : St} {Z Z1 Z2 : Zo} {fs fs1 fs2 : Fo} {H H1 H2 : Hp} {σa σ1 : Sig}

/-- a new list of what was made -/
theorem mk_lst {own : Bool} {ms : List M} {vs : List V} {F : List Addr} {Q : VK} (h : Spec C pv Wx σ Z fs H (PR C) (.ok (if own then .own (.lst ms) else .val (.lst (ms.map M.er))) σ1) Q)
    (R : Rel C pv σ1 σ Z1 fs1 H1) (e : Ext Z fs H Z1 fs1 H1) (s : Sep F fs H Z1 fs1 H1) (p : OwnL C Z1 H1 vs ms F) {a : Addr} (ha : H1 a = none) : Q (.ref a) (upd H1 a (.lst vs)) := by
  have nF : a ∉ F := fun q => (s.tr a q).1 ha
  cases own with
  | true =>
    have g : Grow Z1 H1 Z1 (upd H1 a (.lst vs)) := Grow.new0 R.zt ha
    refine h (.ref a) _ Z1 fs1 (a :: F) (R.grow g) (e.trans g.ext) ?_ (.lst upd_same (p.later g.later fun b _ o q => g.keep b o q))
    refine ⟨List.nodup_cons.mpr ⟨nF, s.nd⟩, fun b hb => ?_, fun b hb => ?_, tk_cons (tk_lst upd_same) fun b hb => keeps3 (fun o q => g.keep b o q) (s.tr b hb), fun b hb => ?_⟩
    · rcases List.mem_cons.mp hb with rfl | hb
      · exact fun z => R.zt _ z ha
      · exact s.dz b hb
    · rcases List.mem_cons.mp hb with rfl | hb
      · exact fun ⟨i, q⟩ => (R.ft i _ q).1 ha
      · exact s.df b hb
    · rcases List.mem_cons.mp hb with rfl | hb
      · exact nw_of (F := F) e (.inr ha)
      · exact s.nw b hb
  | false =>
    obtain ⟨Z2, R2, e2, l2, d2⟩ := settle (σ' := σ) (r := .own (.tup ms)) (v := .ref a) (H1 := upd H1 a (.tup vs)) (F := F) (R.grow (Grow.new0 R.zt ha)) (e.trans (Grow.new0 R.zt ha).ext) (s.step (Grow.new0 R.zt ha).ext)
      (.tup (SqT.of upd_same) (p.later (Grow.new0 R.zt ha).later fun b _ o q => (Grow.new0 R.zt ha).keep b o q))
    have hZ2 : ∀ b, b ∈ F → Z1 b ∨ b ∈ F := fun b hb => .inr hb
    -- the same with a list at a
    let Z3 : Zo := fun b => (Z1 b ∨ b ∈ F) ∨ b = a
    have l3 : Later Z1 H1 Z3 (upd H1 a (.lst vs)) := ⟨fun b z => .inl (.inl z), fun b o _ q => by rw [upd_ne (ne_of_none q ha)]; exact q, fun b xs q => by rw [upd_ne (ne_of_none q ha)]; exact q, fun b o u q => by rw [upd_ne (ne_of_none q ha)]; exact q⟩
    have k3 : ∀ b o, H1 b = some o → upd H1 a (.lst vs) b = some o := fun b o q => by rw [upd_ne (ne_of_none q ha)]; exact q
    have d3 : DenL C Z3 (upd H1 a (.lst vs)) vs (M.ers ms) := OwnL.freeze l3 p fun b hb => ⟨.inl (.inr hb), fun o q => k3 b o q⟩
    rw [M.ers_map] at d3
    refine h (.ref a) _ Z3 fs1 [] ⟨R.len, fun i w q => ?_, R.nd, R.dj, fun i b hb z => ?_, fun b z => ?_, fun i b hb => keeps3 (fun o q => k3 b o q) (R.ft i b hb)⟩ ⟨fun b o q n => k3 b o (e.keep b o q n), fun b xs q => k3 b _ (e.tup b xs q), fun b o u q => k3 b _ (e.frz b o u q), fun b z => .inl (.inl (e.zm b z)), fun b z => ?_, e.fn⟩ .nil (.lst (.inr rfl) upd_same d3)
    · obtain ⟨v, q1, q2⟩ := R.sl i w q
      exact ⟨v, q1, q2.later l3 fun b _ o q => k3 b o q⟩
    · rcases z with (z | z) | z
      · exact R.dz i b hb z
      · exact s.df b z ⟨i, hb⟩
      · rw [z] at hb; exact (R.ft i a hb).1 ha
    · rcases z with (z | z) | z
      · intro q
        cases hb : H1 b with
        | none => exact R.zt b z hb
        | some o => rw [k3 b o hb] at q; cases q
      · intro q
        cases hb : H1 b with
        | none => exact (s.tr b z).1 hb
        | some o => rw [k3 b o hb] at q; cases q
      · rw [z, upd_same]; intro q; cases q
    · rcases z with (z | z) | z
      · exact e.zn b z
      · exact (s.nw b z).elim (fun q => .inr (.inl q)) fun q => .inr (.inr q)
      · rw [z]; exact (nw_of (F := F) e (.inr ha)).elim (fun q => .inr (.inl q)) fun q => .inr (.inr q)
theorem mk_tup {own : Bool} {ms : List M} {vs : List V} {F : List Addr} {Q : VK} (h : Spec C pv Wx σ Z fs H (PR C) (.ok (if own then .own (.tup ms) else .val (.tup (ms.map M.er))) σ1) Q)
    (R : Rel C pv σ1 σ Z1 fs1 H1) (e : Ext Z fs H Z1 fs1 H1) (s : Sep F fs H Z1 fs1 H1) (p : OwnL C Z1 H1 vs ms F) {a : Addr} (ha : H1 a = none) : Q (.ref a) (upd H1 a (.tup vs)) := by
  have g : Grow Z1 H1 Z1 (upd H1 a (.tup vs)) := Grow.new0 R.zt ha
  have ow : Own C Z1 (upd H1 a (.tup vs)) (.ref a) (.tup ms) F := .tup (SqT.of upd_same) (p.later g.later fun b _ o q => g.keep b o q)
  have s' := s.step g.ext
  cases own with
  | true => exact h (.ref a) _ Z1 fs1 F (R.grow g) (e.trans g.ext) s' ow
  | false =>
    obtain ⟨Z2, R2, e2, l2, d2⟩ := settle (σ' := σ) (r := .own (.tup ms)) (R.grow g) (e.trans g.ext) s' ow
    refine h (.ref a) _ Z2 fs1 [] R2 e2 .nil ?_
    simp only [PY.R.t, M.er, M.ers_map] at d2
    exact d2
theorem se_lst {own : Bool} {es : List Expr} {ees : E} {pos : Pos} (h : PA X es (tM C pv Wx cl ees)) : SE X C pv Wx cl (.List es pos) (.lst own ees) := by
  refine .of (pe_imp (pe_lst h) fun σ H Q ⟨σa, Z, fs, R, h⟩ => ?_) fun _ => rfl
  simp only [ev] at h
  refine ⟨σa, Z, fs, R, Spec.bind h fun ms σ1 vs Z1 fs1 H1 F hev R1 e1 s1 p1 h1 => ?_⟩
  split at h1
  · rename_i hl
    exact ⟨by rw [p1.length]; exact hl, fun p hp => mk_lst h1 R1 e1 s1 p1 hp⟩
  · exact h1.elim
theorem se_tup {own : Bool} {es : List Expr} {ees : E} {k} {pos : Pos} (h : PA X es (tM C pv Wx cl ees)) : SE X C pv Wx cl (.Tuple es k pos) (.tup own ees) := by
  refine .of (pe_imp (pe_tup h) fun σ H Q ⟨σa, Z, fs, R, h⟩ => ?_) fun _ => rfl
  simp only [ev] at h
  refine ⟨σa, Z, fs, R, Spec.bind h fun ms σ1 vs Z1 fs1 H1 F hev R1 e1 s1 p1 h1 => ?_⟩
  split at h1
  · rename_i hl
    exact ⟨by rw [p1.length]; exact hl, fun p hp => mk_tup h1 R1 e1 s1 p1 hp⟩
  · exact h1.elim
theorem se_dnew {own : Bool} {pos : Pos} : SE X C pv Wx cl (.Dict [] [] pos) (.dnew own) := by
  refine .of (pe_imp pe_dnewK fun σ H Q ⟨σa, Z, fs, R, h⟩ p hp => ?_) fun _ => rfl
  simp only [ev] at h
  cases own with
  | true =>
    have g : Grow Z H Z (upd H p (.dK [])) := Grow.new0 R.zt hp
    refine h (.ref p) _ Z fs [p] (R.grow g) g.ext ⟨List.nodup_cons.mpr ⟨by simp, List.nodup_nil⟩, fun b hb z => ?_, fun b hb ⟨i, q⟩ => ?_, tk_cons (tk_dK upd_same) fun b hb => (by cases hb), fun b hb => ?_⟩ (.dK (xs := []) (by simpa using upd_same) rfl .nil)
    · rw [List.mem_singleton.mp hb] at z; exact R.zt p z hp
    · rw [List.mem_singleton.mp hb] at q; exact (R.ft i p q).1 hp
    · rw [List.mem_singleton.mp hb]; exact .inr hp
  | false => exact h.new R hp fun Z' g z => .dK (xs := []) z (by simpa using upd_same) rfl .nil

/-! ### only read -/
theorem Rel.fz (R : Rel C pv σa σ Z fs H) : ∃ Z', Rel C pv σa.fz σ Z' (fun _ => []) H ∧ (∀ a, Z a → Z' a) ∧ ∀ a, Z' a → Z a ∨ InF fs a := by
  refine ⟨fun a => Z a ∨ InF fs a, ⟨?_, fun i w h => ?_, fun _ => List.nodup_nil, fun i j a h => (by cases h), fun i a h => (by cases h), fun a z => ?_, fun i a h => (by cases h)⟩, fun a => .inl, fun a => id⟩
  · unfold Sig.fz; rw [List.length_map]; exact R.len
  · unfold Sig.fz at h
    rw [List.getElem?_map] at h
    cases e : σa[i]? with
    | none => rw [e] at h; cases h
    | some o =>
      rw [e] at h
      cases o with
      | none => simp at h
      | some w' =>
        simp only [Option.map_some, Option.some.injEq] at h
        subst h
        obtain ⟨v, q1, q2⟩ := R.sl i w' e
        have l : Later Z H (fun a => Z a ∨ InF fs a) H := ⟨fun _ h => .inl h, fun _ _ _ h => h, fun _ _ h => h, fun _ _ _ h => h⟩
        refine ⟨v, q1, ?_⟩
        cases w' with
        | val t => exact Den.later l q2
        | own m => exact Own.freeze l q2 fun a ha => ⟨.inr ⟨i, ha⟩, fun _ e => e⟩
        | io m => exact Own.freeze l q2.1 fun a ha => ⟨.inr ⟨i, ha⟩, fun _ e => e⟩
  · rcases z with z | ⟨i, z⟩
    · exact R.zt a z
    · exact (R.ft i a z).1
theorem noF {a : Addr} : ¬ InF (fun _ => ([] : List Addr)) a := fun ⟨_, h⟩ => by cases h
/-- the state is as it was, whatever was only read -/
theorem Rel.unfz {Z0 Z3 : Zo} {fs3 : Fo} {σ3 : Sig} (R : Rel C pv σa σ Z fs H) (z0 : ∀ a, Z0 a → Z a ∨ InF fs a) (R3 : Rel C pv σ3 σ Z3 fs3 H1) (e : Ext Z0 (fun _ => []) H Z3 fs3 H1) : Rel C pv σa σ Z fs H1 ∧ Ext Z fs H Z fs H1 := by
  have k : ∀ a o, H a = some o → H1 a = some o := fun a o q => e.keep a o q noF
  have g : Grow Z H Z H1 := ⟨k, fun a h => h, fun a h => .inl h, fun a z q => by
    cases hb : H a with
    | none => exact R.zt a z hb
    | some o => rw [k a o hb] at q; cases q⟩
  exact ⟨R.grow g, g.ext⟩
theorem sc_val {v : V} {r : R} {F : List Addr} {Z0 Z3 : Zo} (R : Rel C pv σa σ Z fs H) (z0 : ∀ a, Z0 a → Z a ∨ InF fs a) {fs3 : Fo} {σ3 : Sig} (R3 : Rel C pv σ3 σ Z3 fs3 H1) (e : Ext Z0 (fun _ => []) H Z3 fs3 H1) (s : Sep F (fun _ => []) H Z3 fs3 H1) (p : ROk C Z3 H1 v F r) (hs : r.sc = true) :
    ROk C Z H1 v F r ∧ Sep F fs H Z fs H1 := by
  refine ⟨?_, s.nd, fun a ha z => ?_, fun a ha ⟨i, q⟩ => ?_, s.tr, fun a ha => .inr ((s.nw a ha).resolve_left noF)⟩
  · cases r with
    | val t => exact Den.free (fun _ _ h => h) (fun _ _ _ h => h) p hs
    | own m => exact Own.free (fun _ _ h => h) (fun _ _ _ h => h) p hs fun _ _ _ h => h
  · exact R.zt a z ((s.nw a ha).resolve_left noF)
  · exact (R.ft i a q).1 ((s.nw a ha).resolve_left noF)
theorem tE_bor {Q : VK} (h : tE C pv Wx cl (.bor e) σ H Q) : tE C pv Wx cl e σ H Q := by
  obtain ⟨σa, Z, fs, R, h⟩ := h
  simp only [ev] at h
  obtain ⟨Z0, R0, z1, z0⟩ := R.fz
  refine ⟨σa.fz, Z0, fun _ => [], R0, ?_⟩
  cases hr : ev cl e σa.fz with
  | fail => rw [hr] at h; exact h
  | ex c v σ' =>
    rw [hr] at h
    exact fun d H' Z' fs' R' x p => h d H' Z' fs' R' ⟨fun a o q n => x.keep a o q noF, x.tup, x.frz, fun a z => x.zm a (z1 a z), fun a z => (x.zn a z).elim (fun q => (z0 a q).imp id .inl) fun q => .inr (.inr (q.resolve_left noF)), fun a q => (x.fn a q).elim (fun q => (noF q).elim) .inr⟩ p
  | ok r σ' =>
    rw [hr] at h
    intro v H' Z' fs' F R' x s p
    simp only at h
    split at h
    · rename_i hs
      obtain ⟨R2, e2⟩ := R.unfz z0 R' x
      obtain ⟨p2, s2⟩ := sc_val R z0 R' x s p hs
      exact h v H' Z fs F R2 e2 s2 p2
    · exact h.elim
theorem se_bor (h : SE X C pv Wx cl ex e) : SE X C pv Wx cl ex (.bor e) := by
  refine ⟨pe_imp h.v fun _ _ _ q => tE_bor q, pt_imp h.b fun σ H Q ⟨σa, Z, fs, R, h⟩ => ?_⟩
  rw [evB_eq] at h
  simp only [ev] at h
  obtain ⟨Z0, R0, z1, z0⟩ := R.fz
  refine ⟨σa.fz, Z0, fun _ => [], R0, ?_⟩
  rw [evB_eq]
  cases hr : ev cl e σa.fz with
  | fail => rw [hr] at h; exact h
  | ex c v σ' =>
    rw [hr] at h
    exact fun d H' Z' fs' R' x p => h d H' Z' fs' R' ⟨fun a o q n => x.keep a o q noF, x.tup, x.frz, fun a z => x.zm a (z1 a z), fun a z => (x.zn a z).elim (fun q => (z0 a q).imp id .inl) fun q => .inr (.inr (q.resolve_left noF)), fun a q => (x.fn a q).elim (fun q => (noF q).elim) .inr⟩ p
  | ok r σ' =>
    rw [hr] at h
    simp only at h
    split at h
    · rename_i hs
      simp only [Out.bind_ok, PY.R.bool] at h ⊢
      cases ht : r.t with
      | bl b =>
        rw [ht] at h
        intro c H' Z' fs' F R' x s p
        obtain ⟨R2, e2⟩ := R.unfz z0 R' x
        exact h c H' Z fs [] R2 e2 .nil p
      | _ => rw [ht] at h; exact h.elim
    · exact h.elim

/-! ### arguments -/
theorem sa_nil : PA X [] (tAs C pv Wx cl .nil) := pa_imp pa_nil fun σ H Q ⟨σa, Z, fs, R, q⟩ => by
  simp only [evA] at q
  exact q [] H Z fs [] R .refl .nil .nil
def E.plainArg : E → Bool
  | .io _ => false
  | .give _ => false
  | _ => true
theorem evA_cons {ea eas : E} (h : ea.plainArg = true) (σ : Sig) : evA cl (.cons ea eas) σ = (ev cl ea σ).bind fun r σ => (evA cl eas σ).bind fun as σ => .ok (.v r.t :: as) σ := by
  cases ea <;> first | (simp [E.plainArg] at h; done) | simp only [evA]
theorem AsOk.later {vs : List V} {F : List Addr} {as : List A} (l : Later Z H Z1 H1) (k : ∀ a ∈ F, ∀ o, H a = some o → H1 a = some o) (h : AsOk C σ Z H vs F as) : AsOk C σ Z1 H1 vs F as := by
  induction h with
  | nil => exact .nil
  | v d _ ih => exact .v (d.later l) (ih k)
  | io e _ ih => exact .io e (ih k)
  | gv o _ ih => exact .gv (o.later l fun a ha => k a (List.mem_append_left _ ha)) (ih fun a ha => k a (List.mem_append_right _ ha))
theorem sa_cons {a : Expr} {as : List Expr} {ea eas : E} (hp : ea.plainArg = true) (ha : SE X C pv Wx cl a ea) (has : PA X as (tAs C pv Wx cl eas)) (hs : starEach (a :: as) X.env = (false, eval a X.env) :: starEach as X.env) : PA X (a :: as) (tAs C pv Wx cl (.cons ea eas)) := by
  refine pa_imp (pa_cons ha.v has hs) fun σ H Q ⟨σa, Z, fs, R, h⟩ => ?_
  rw [evA_cons hp] at h
  refine ⟨σa, Z, fs, R, Spec.bindT h fun r σ1 v Z1 fs1 H1 _ R1 e1 d1 h1 => ?_⟩
  refine ⟨σ1, Z1, fs1, R1, Spec.bind h1 fun ms σ2 vs Z2 fs2 H2 F2 hev R2 e2 s2 p2 h2 => ?_⟩
  exact h2 (v :: vs) H2 Z2 fs2 F2 R2 e2 s2 (.v (d1.later (e2.later R1)) p2)
theorem sa_io {i : Nat} {x : Str} {p : Pos} {as : List Expr} {eas : E} (hN : X.N[i]? = some x) (hv : Vis X.env.scope x) (hd : (x == ("__debug__" : Str)) = false) (hcd : (x == ("__classdict__" : Str)) = false)
    (has : PA X as (tAs C pv Wx cl eas)) (hs : starEach (.Name x p :: as) X.env = (false, eval (.Name x p) X.env) :: starEach as X.env) : PA X (.Name x p :: as) (tAs C pv Wx cl (.cons (.io i) eas)) := by
  refine pa_imp (pa_cons (pe_var hN hv hd hcd) has hs) fun σ H Q ⟨σa, Z, fs, R, h⟩ => ?_
  simp only [evA] at h
  have go : ∀ w, σa[i]? = some (some w) → Spec C pv Wx σ Z fs H (PAs C σ) ((evA cl eas σa).bind fun as σ => .ok (.io i :: as) σ) Q → tCons (tVar i) (tAs C pv Wx cl eas) σ H Q := fun w hw h => by
    obtain ⟨v, e, _⟩ := R.sl i w hw
    refine ⟨v, e, σa, Z, fs, R, Spec.bind h fun ms σ2 vs Z2 fs2 H2 F2 hev R2 e2 s2 p2 h2 => ?_⟩
    exact h2 (v :: vs) H2 Z2 fs2 F2 R2 e2 s2 (.io e p2)
  split at h
  · rename_i hw; exact go _ hw h
  · rename_i hw; exact go _ hw h
  · exact h.elim
theorem sa_gv {a : Expr} {as : List Expr} {ea eas : E} (ha : SE X C pv Wx cl a ea) (has : PA X as (tAs C pv Wx cl eas)) (hs : starEach (a :: as) X.env = (false, eval a X.env) :: starEach as X.env) : PA X (a :: as) (tAs C pv Wx cl (.cons (.give ea) eas)) := by
  refine pa_imp (pa_cons ha.v has hs) fun σ H Q ⟨σa, Z, fs, R, h⟩ => ?_
  simp only [evA] at h
  refine ⟨σa, Z, fs, R, Spec.bind h fun r σ1 v Z1 fs1 H1 F1 _ R1 e1 s1 p1 h1 => ?_⟩
  refine ⟨σ1, Z1, fs1, R1, Spec.bind (h1.shift e1) fun ms σ2 vs Z2 fs2 H2 F2 hev R2 e2 s2 p2 h2 => ?_⟩
  rw [hev, Out.bind_ok] at h1
  obtain ⟨G, ow, hG, nG⟩ := ROk.own p1 (.inr trivial)
  have sG := s1.sub hG (nG s1.nd)
  exact h1 (v :: vs) H2 Z2 fs2 (G ++ F2) R2 (e1.trans e2) (Sep.app sG e1 e2 s2) (.gv (own_step R1 sG e2 ow) p2)
theorem AsOk.dens : ∀ {vs : List V} {F : List Addr} {as : List A} {ts : List T}, AsOk C σ Z H vs F as → argTs as = some ts → DenL C Z H vs ts ∧ F = []
  | _, _, _, ts, .nil, e => by simp only [argTs, Option.some.injEq] at e; subst e; exact ⟨.nil, rfl⟩
  | _, _, _, ts, .v d r, e => by
    simp only [argTs, Option.map_eq_some_iff] at e
    obtain ⟨us, e1, rfl⟩ := e
    obtain ⟨d2, rfl⟩ := r.dens e1
    exact ⟨.cons d d2, rfl⟩
  | _, _, _, ts, .io _ _, e => by simp [argTs] at e
  | _, _, _, ts, .gv _ _, e => by simp [argTs] at e

/-! ### built-ins called -/
theorem bi_k {b : BI} {as : E} {Q : VK} (h : tE C pv Wx cl (.bi b as) σ H Q) : tCB (biR C b) (tAs C pv Wx cl as) σ H Q := by
  obtain ⟨σa, Z, fs, R, h⟩ := h
  simp only [ev] at h
  refine ⟨σa, Z, fs, R, Spec.bind h fun as σ1 vs Z1 fs1 H1 F1 _ R1 e1 s1 p1 h1 => ?_⟩
  cases ht : argTs as with
  | none => rw [ht] at h1; exact h1.elim
  | some ts =>
    rw [ht] at h1
    obtain ⟨d, _⟩ := p1.dens ht
    cases hb : bi b ts with
    | none => simp only [Option.bind_some, hb] at h1; exact h1.elim
    | some t =>
      simp only [Option.bind_some, hb] at h1
      exact bi_den hb d R1 (h1.shift e1)
theorem se_bi {n : Nat} (g : Gd X C n) {b : BI} {x : Str} {es : List Expr} {e1 : Expr} {as : E} {p pos : Pos} (hx : bootBuiltins x = some b.v) (hg : Gl X x) (hm : X.mg x = none) (ha : PA X (e1 :: es) (tAs C pv Wx cl as))
    (hn : x ≠ "__name__") (hdb : (x == ("__debug__" : Str)) = false) (he : starEach (e1 :: es) X.env = (false, eval e1 X.env) :: starEach es X.env) (hpl : (backTo pos (starEach es X.env)).any (·.1) = false) :
    SE X C pv Wx cl (.Call (.Name x p) (e1 :: es) [] pos) (.bi b as) := by
  have hc := bi_call (X := X) g.hK g.calm g.sm g.gs g.hu b
  refine .of (pe_imp ?_ fun _ _ _ h => bi_k h) fun _ => rfl
  unfold BI.v at hx hc
  cases hb : b.ty with
  | true =>
    rw [hb] at hx hc
    exact pe_callTy hc hg hm hx ha hn hdb he hpl
  | false =>
    rw [hb] at hx hc
    exact pe_callB hc hg hm hx ha hn hdb he hpl
theorem se_isi {n : Nat} (g : Gd X C n) {a : Expr} {ea : E} {ty : Ty} {p p2 pos : Pos} (ha : SE X C pv Wx cl a ea) (hg : Gl X "isinstance") (hm : X.mg "isinstance" = none) (hg2 : Gl X ty.n) (hm2 : X.mg ty.n = none)
    (he : starEach [a, .Name ty.n p2] X.env = (false, eval a X.env) :: starEach [.Name ty.n p2] X.env) : SE X C pv Wx cl (.Call (.Name "isinstance" p) [a, .Name ty.n p2] [] pos) (.isi ea ty) := by
  have hb : bootBuiltins (ty.n : Str) = some (.type ty.n) := by cases ty <;> decide +kernel
  have hn : (ty.n : Str) ≠ "__name__" := by cases ty <;> decide +kernel
  have hd : ((ty.n : Str) == ("__debug__" : Str)) = false := by cases ty <;> decide +kernel
  refine .of (pe_imp (pe_callB call_isi hg hm PyProof.Rows.boot_isinstance (pa_cons ha.v (pa_cons (pe_bltn (v := .ty ty.n) hg2 hm2 hb rfl hn hd) pa_nil) he) (by decide) (by decide) he) fun σ H Q ⟨σa, Z, fs, R, h⟩ => ?_) fun _ => rfl
  simp only [ev] at h
  refine ⟨σa, Z, fs, R, Spec.bindT h fun r σ1 x Z1 fs1 H1 _ R1 e1 d1 h1 => ?_⟩
  cases ht : r.t.isTy ty with
  | none => rw [ht] at h1; exact h1.elim
  | some b =>
    rw [ht] at h1
    exact isi_den g.hK d1 ht (h1.fin R1 (.bl b))
theorem se_isi2 {n : Nat} (g : Gd X C n) {a : Expr} {ea : E} {ty ty' : Ty} {p p2 p3 pos pt : Pos} {k} (ha : SE X C pv Wx cl a ea) (hg : Gl X "isinstance") (hm : X.mg "isinstance" = none) (hg2 : Gl X ty.n) (hm2 : X.mg ty.n = none) (hg3 : Gl X ty'.n) (hm3 : X.mg ty'.n = none)
    (he : starEach [a, .Tuple [.Name ty.n p2, .Name ty'.n p3] k pt] X.env = (false, eval a X.env) :: starEach [.Tuple [.Name ty.n p2, .Name ty'.n p3] k pt] X.env) :
    SE X C pv Wx cl (.Call (.Name "isinstance" p) [a, .Tuple [.Name ty.n p2, .Name ty'.n p3] k pt] [] pos) (.isi2 ea ty ty') := by
  have hb : ∀ ty : Ty, bootBuiltins (ty.n : Str) = some (.type ty.n) := by intro ty; cases ty <;> decide +kernel
  have hn : ∀ ty : Ty, (ty.n : Str) ≠ "__name__" := by intro ty; cases ty <;> decide +kernel
  have hd : ∀ ty : Ty, ((ty.n : Str) == ("__debug__" : Str)) = false := by intro ty; cases ty <;> decide +kernel
  refine .of (pe_imp (pe_callB call_isiT hg hm PyProof.Rows.boot_isinstance (pa_cons ha.v (pa_cons (pe_tup (pa_cons (pe_bltn (v := .ty ty.n) hg2 hm2 (hb ty) rfl (hn ty) (hd ty)) (pa_cons (pe_bltn (v := .ty ty'.n) hg3 hm3 (hb ty') rfl (hn ty') (hd ty')) pa_nil))) pa_nil) he) (by decide) (by decide) he) fun σ H Q ⟨σa, Z, fs, R, h⟩ => ?_) fun _ => rfl
  simp only [ev] at h
  refine ⟨σa, Z, fs, R, Spec.bindT h fun r σ1 x Z1 fs1 H1 _ R1 e1 d1 h1 => ?_⟩
  refine ⟨(by show 2 ≤ sizeLine; decide), fun tp htp => ?_⟩
  cases ht : r.t.isTy ty with
  | none => rw [ht] at h1; exact h1.elim
  | some b =>
    cases ht' : r.t.isTy ty' with
    | none => rw [ht, ht'] at h1; exact h1.elim
    | some b' =>
      rw [ht, ht'] at h1
      have gr : Grow Z1 H1 Z1 (upd H1 tp (.tup [.ty ty.n, .ty ty'.n])) := Grow.new0 R1.zt htp
      exact isi2_den g.hK (d1.later gr.later) ht ht' upd_same ((h1.shift gr.ext).fin (R1.grow gr) (.bl _))
end
end PY
set_option Elab.async false
set_option linter.all false
set_option maxRecDepth 100000
set_option maxHeartbeats 400000
/-! # PySound7: calls of defs -/
namespace PY
open PySem L2

/-- a def keeps its promise where nothing is being shown around -/
structure FnG (P : Program) (w : World) (K : PySem.W.Frag) (mg : Str → Option Value) (base : Heap) (k : Nat) (f : Addr) (fd : FuncData) (ps : List Str) (sp : Sp) : Prop where
  len : ∀ vs H Q E, sp vs H Q E → vs.length = ps.length
  go : ∀ (A : Around) (l : List Env) (s : Shared) (H : Hp) (a : Args) (us : List Value) (vs : List V) (Q : VK) (E : XK), Room k A → A.guards = some [] →
    Env0 P w K mg base A l s H → BindsTo s fd a (ps.zip us) → Vals vs us → sp vs H Q E →
      codeAny (model P w) A (.call (.ref f) a) (CR (L2.CX P w) l P w H s Q E) s
/-- what a def promises: what its evaluation on plain data says -/
def spF (C : Pl) (clf : List W → Out R) (np : Nat) : Sp := fun vs H Q E => vs.length = np ∧ ∃ (ws : List W) (Z : Zo) (fs : Fo), Rel C (vs.headD .non) (ws.map some) (vs.map some) Z fs H ∧ Spec C (vs.headD .non) (fun cls d _ H' => E cls d H') (vs.map some) Z fs H (PR C) (clf ws) Q
/-- keywords alone, in another order -/
def KB (K : PySem.W.Frag) (fd : FuncData) (ps ks : List Str) (ix : List Nat) : Prop :=
  ks.length = ps.length ∧ ix.length = ps.length ∧ (∀ i ∈ ix, i < ks.length) ∧ ∀ (s : Shared) (ws : List Value), K.In s.heap → ws.length = ks.length → BindsTo s fd ⟨[], ks.zip ws⟩ (ps.zip (ix.filterMap fun i => ws[i]?))
structure Pg (X : Cx) (C : Pl) (k : Nat) (cl : Nat → List W → Out R) : Prop where
  fn : ∀ f, C.has f = true → FnG X.prog X.w X.K X.mg X.base k (C.fa f) (C.fd f) (C.ps f) (spF C (cl f) (C.ps f).length) ∧ X.mg (C.nm f) = some (.ref (C.fa f)) ∧ PySem.W.keepIn X.K (.ref (C.fa f)) = true ∧ Binds X.K (C.fd f) (C.ps f) []
  kw : ∀ f ks ix, C.kws f ks ix = true → KB X.K (C.fd f) (C.ps f) ks ix

section
variable {X : Cx} {C : Pl} {pv : V} {Wx : WX} {cl : Nat → List W → Out R} {ex : Expr} {e : E} {σ : St} {Z Z1 Z2 : Zo} {fs fs1 fs2 : Fo} {H H1 H2 : Hp} {σa σ1 : Sig} {k : Nat} {sp : Sp}

/-- the state at the call: the callee's promise of the very end -/
theorem run_go {f : Addr} {fd : FuncData} {ps : List Str} {a : Args} {us : List Value} {vs : List V} {pins : List (Addr × Obj)} {s : Shared} {Q : VK} (F : FnG X.prog X.w X.K X.mg X.base k f fd ps sp) (hr : Room k X.A) (hg : X.A.guards = some []) (tk : Takes X Wx)
    (I : Inv X pins σ H s) (hb : BindsTo s fd a (ps.zip us)) (r : Vals vs us) (h : sp vs H Q fun cls d H' => Wx cls d σ H') :
    codeAny (model X.prog X.w) X.A (.call (.ref f) a) (fun r s' => match r with
      | .ok (.ret u) => EP X pins σ Q u s'
      | .ok _ => False
      | .error e => X.xe e s') s := by
  have h1 := F.go X.A X.stack s H a us vs Q _ hr hg I.env0 hb r h
  refine codeAny_mono h1 fun q s' hq => ?_
  cases q with
  | error e => exact tk e s' (XE.of_call I (fun _ _ _ z => z) hq)
  | ok fl => cases fl with
    | ret u => exact I.after hq
    | _ => exact hq.elim
/-- f(a, ..) -/
def tCallG (sp : Sp) (Wx : WX) (t : TA) : TE := fun σ H Q => t σ H fun vs H1 => sp vs H1 Q fun cls d H' => Wx cls d σ H'
theorem pe_callG {f : Addr} {fd : FuncData} {ps : List Str} {x : Str} {p pos : Pos} {a : Expr} {as : List Expr} {t : TA} (F : FnG X.prog X.w X.K X.mg X.base k f fd ps sp) (hr : Room k X.A) (hgs : X.A.guards = some []) (tk : Takes X Wx)
    (hg : Gl X x) (hm : X.mg x = some (.ref f)) (hk : PySem.W.keepIn X.K (.ref f) = true) (hb : Binds X.K fd ps []) (ha : PA X (a :: as) t) (hd : (x == ("__debug__" : Str)) = false)
    (he : starEach (a :: as) X.env = (false, eval a X.env) :: starEach as X.env) (hp : (backTo pos (starEach as X.env)).any (·.1) = false) : PE X (.Call (.Name x p) (a :: as) [] pos) (tCallG sp Wx t) := by
  constructor
  intro pins s σ H Q I h
  apply wpAny_Call_Name_kw
  apply ld_glob I hg hm _ hd
  apply PySem.W.callWith_K I.ok.mod.kin hk _ he hp
  refine thn (ha.run pos pins s σ H _ I h) fun us s1 hs => ?_
  obtain ⟨vs, H1, I1, r, q⟩ := hs
  refine ⟨I1.kIn, wpAny_call (codeAny_mono (run_go (us := us) F hr hgs tk I1 ?_ r q) fun z s' hz => ?_)⟩
  · have hl : us.length = ps.length := by rw [← r.length]; exact F.len _ _ _ _ q
    have := hb s1 us I1.kIn (by simpa using hl)
    simpa using this
  · cases z with
    | error e => exact hz
    | ok fl => cases fl with
      | ret u => exact hz
      | _ => exact hz.elim
theorem vals_ix {vs : List V} {us : List Value} (r : Vals vs us) : ∀ {ix : List Nat}, (∀ i ∈ ix, i < us.length) → Vals (ix.filterMap fun i => vs[i]?) (ix.filterMap fun i => us[i]?)
  | [], _ => .nil
  | i :: ix, h => by
    have hi := h i List.mem_cons_self
    have hv : i < vs.length := by rw [r.length]; exact hi
    obtain ⟨u, e, q⟩ := r.get (List.getElem?_eq_getElem hv)
    rw [List.filterMap_cons, List.filterMap_cons, List.getElem?_eq_getElem hv, e]
    exact .cons q (vals_ix r fun j hj => h j (List.mem_cons_of_mem _ hj))
/-- f(k = a, ..) -/
theorem pe_callH {f : Addr} {fd : FuncData} {ps ks : List Str} {ix : List Nat} {x : Str} {p pos : Pos} {kws : List Keyword} {t : TA} (F : FnG X.prog X.w X.K X.mg X.base k f fd ps sp) (hr : Room k X.A) (hgs : X.A.guards = some []) (tk : Takes X Wx)
    (hg : Gl X x) (hm : X.mg x = some (.ref f)) (hk : PySem.W.keepIn X.K (.ref f) = true) (hb : KB X.K fd ps ks ix) (ha : PK X kws t) (hd : (x == ("__debug__" : Str)) = false)
    (hall : (backToKw pos (keywordEach kws X.env)).all (·.1.isSome) = true) (hks : (backToKw pos (keywordEach kws X.env)).filterMap (·.1) = ks)
    (hp : ((backTo pos (starEach [] X.env)).any (·.1) || (backToKw pos (keywordEach kws X.env)).any (·.1.isNone)) = false) :
    PE X (.Call (.Name x p) [] kws pos) (fun σ H Q => t σ H fun vs H1 => vs.length = ks.length ∧ sp (ix.filterMap fun i => vs[i]?) H1 Q fun cls d H' => Wx cls d σ H') := by
  constructor
  intro pins s σ H Q I h
  apply wpAny_Call_Name_kw
  apply ld_glob I hg hm _ hd
  apply PySem.W.callWith_KW0 I.ok.mod.kin hk hall _ hp
  refine thn (ha.run pos pins s σ H _ I h) fun us s1 hs => ?_
  obtain ⟨vs, H1, I1, r, hl, q⟩ := hs
  have hl' : us.length = ks.length := by rw [← r.length]; exact hl
  refine ⟨I1.kIn, ?_⟩
  rw [hks]
  refine wpAny_call (codeAny_mono (run_go (us := ix.filterMap fun i => us[i]?) F hr hgs tk I1 (hb.2.2.2 s1 us I1.kIn hl') (vals_ix r fun i hi => by rw [hl']; exact hb.2.2.1 i hi) q) fun z s' hz => ?_)
  cases z with
  | error e => exact hz
  | ok fl => cases fl with
    | ret u => exact hz
    | _ => exact hz.elim

/-! ### the callee's end, at the caller -/
theorem rel_vals {vs : List V} {ts : List T} (d : DenL C Z H vs ts) (zt : ∀ a, Z a → H a ≠ none) : Rel C pv ((ts.map W.val).map some) (vs.map some) Z (fun _ => []) H := by
  refine ⟨by simp [d.length], fun i w h => ?_, fun _ => List.nodup_nil, fun i j a h => (by cases h), fun i a h => (by cases h), zt, fun i a h => (by cases h)⟩
  rw [List.map_map, List.getElem?_map] at h
  cases e : ts[i]? with
  | none => rw [e] at h; cases h
  | some t =>
    rw [e] at h
    simp only [Option.map_some, Function.comp, Option.some.injEq] at h
    subst h
    obtain ⟨v, h1, h2⟩ := d.get e
    exact ⟨v, by rw [List.getElem?_map, h1]; rfl, h2⟩
/-- a callee that got fixed data alone: all else stands -/
theorem Ext.pureGrow {Z' : Zo} {fs' : Fo} {H' : Hp} (x : Ext Z1 (fun _ => []) H1 Z' fs' H') (zt : ∀ a, Z' a → H' a ≠ none) : Grow Z1 H1 Z' H' :=
  ⟨fun a o q => x.keep a o q noF, x.zm, fun a z => (x.zn a z).elim .inl fun q => .inr (q.resolve_left noF), zt⟩
theorem sep_pure {Z' : Zo} {fs' : Fo} {H' : Hp} {F : List Addr} (R : Rel C pv σ1 σ Z1 fs1 H1) (e : Ext Z fs H Z1 fs1 H1) (s : Sep F (fun _ => []) H1 Z' fs' H') : Sep F fs H Z' fs1 H' :=
  ⟨s.nd, s.dz, fun a ha ⟨i, q⟩ => (R.ft i a q).1 ((s.nw a ha).resolve_left noF), s.tr, fun a ha => nw_of (F := F) e (.inr ((s.nw a ha).resolve_left noF))⟩
theorem call_pure {clf : List W → Out R} {vs : List V} {ts : List T} {Q : VK} (R : Rel C pv σ1 σ Z1 fs1 H1) (e : Ext Z fs H Z1 fs1 H1) (d : DenL C Z1 H1 vs ts)
    (h : Spec C pv Wx σ Z fs H (PR C) (match clf (ts.map .val) with | .ok r _ => .ok r σ1 | .ex c v _ => .ex c v σ1 | .fail => .fail) Q) : spF C clf vs.length vs H1 Q fun cls d H' => Wx cls d σ H' := by
  refine ⟨rfl, ts.map .val, Z1, fun _ => [], rel_vals d R.zt, ?_⟩
  cases hc : clf (ts.map .val) with
  | fail => rw [hc] at h; exact h
  | ok r σ' =>
    rw [hc] at h
    intro v H' Z' fs' F R' x s p
    have g := x.pureGrow R'.zt
    exact h v H' Z' fs1 F (R.grow g) (e.trans g.ext) (sep_pure R e s) p
  | ex c t σ' =>
    rw [hc] at h
    intro d' H' Z' fs' R' x p
    have g := x.pureGrow R'.zt
    exact h d' H' Z' fs1 (R.grow g) (e.trans g.ext) p
def fs1of (G : List Addr) : Fo := fun i => if i = 0 then G else []
theorem inF1 {G : List Addr} {a : Addr} : InF (fs1of G) a ↔ a ∈ G := by
  constructor
  · rintro ⟨i, h⟩
    unfold fs1of at h
    split at h
    · exact h
    · cases h
  · intro h
    exact ⟨0, by unfold fs1of; rw [if_pos rfl]; exact h⟩
theorem rel_io {v : V} {m : M} {G : List Addr} {vs : List V} {ts : List T} (o : Own C Z H v m G) (nd : G.Nodup) (dz : ∀ a ∈ G, ¬ Z a) (d : DenL C Z H vs ts) (zt : ∀ a, Z a → H a ≠ none) :
    Rel C v ((W.io m :: ts.map W.val).map some) ((v :: vs).map some) Z (fs1of G) H := by
  have R0 := rel_vals (pv := v) d zt
  have m0 : ∀ {i a}, a ∈ fs1of G i → i = 0 ∧ a ∈ G := fun {i a} h => by
    unfold fs1of at h
    split at h
    · exact ⟨by assumption, h⟩
    · cases h
  refine ⟨by simp [d.length], fun i w h => ?_, fun i => ?_, fun i j a h h' => (m0 h).1.trans (m0 h').1.symm, fun i a h => dz a (m0 h).2, zt, fun i a h => o.tracked a (m0 h).2⟩
  · cases i with
    | zero =>
      simp only [List.map_cons, List.getElem?_cons_zero, Option.some.injEq] at h
      subst h
      exact ⟨v, rfl, by unfold fs1of; rw [if_pos rfl]; exact ⟨o, rfl⟩⟩
    | succ i =>
      obtain ⟨v', h1, h2⟩ := R0.sl i w (by simpa using h)
      refine ⟨v', by simpa using h1, ?_⟩
      unfold fs1of
      rw [if_neg (Nat.succ_ne_zero i)]
      exact h2
  · unfold fs1of
    split
    · exact nd
    · exact List.nodup_nil
end
end PY
set_option Elab.async false
set_option linter.all false
set_option maxRecDepth 100000
set_option maxHeartbeats 400000
/-! # PySound8: calls of defs (2) -/
namespace PY
open PySem L2
section
variable {X : Cx} {C : Pl} {pv : V} {Wx : WX} {cl : Nat → List W → Out R} {ex : Expr} {e : E} {σ : St} {Z Z1 Z2 : Zo} {fs fs1 fs2 : Fo} {H H1 H2 : Hp} {σa σ1 : Sig} {k : Nat} {sp : Sp}
theorem inF_up {i : Nat} {G : List Addr} {a : Addr} (h : InF (upF fs i G) a) : a ∈ G ∨ ∃ j, j ≠ i ∧ a ∈ fs j := by
  obtain ⟨j, hj⟩ := h
  by_cases e : j = i
  · rw [e, upF_eq] at hj; exact .inl hj
  · rw [upF_ne e] at hj; exact .inr ⟨j, e, hj⟩
/-- a slot whose data was lent: behind the call -/
theorem lent {i : Nat} {w : W} {m : M} {v : V} {vs : List V} {σ' : Sig} {Z' : Zo} {fsC : Fo} {H' : Hp} {F : List Addr} (kd : Bool) (R : Rel C pv σ1 σ Z1 fs1 H1) (e : Ext Z fs H Z1 fs1 H1) (hw : σ1[i]? = some (some w)) (hv : σ[i]? = some (some v))
    (hk : kd = true → v = pv) (R' : Rel C v σ' ((v :: vs).map some) Z' fsC H') (x : Ext Z1 (fs1of (fs1 i)) H1 Z' fsC H') (R0 : ∀ a, Z1 a → a ∉ fs1 i) (s : Sep F (fs1of (fs1 i)) H1 Z' fsC H') :
    Rel C pv (σ1.set i (wbk kd σ'[0]?)) σ Z' (upF fs1 i (fsC 0)) H' ∧ Ext Z fs H Z' (upF fs1 i (fsC 0)) H' ∧ Sep F fs H Z' (upF fs1 i (fsC 0)) H' := by
  have keep : ∀ a o, H1 a = some o → a ∉ fs1 i → H' a = some o := fun a o q n => x.keep a o q fun z => n (inF1.mp z)
  have l : Later Z1 H1 Z' H' := ⟨x.zm, fun a o z q => keep a o q (R0 a z), x.tup, x.frz⟩
  have f0 : ∀ a, a ∈ fsC 0 → a ∈ fs1 i ∨ H1 a = none := fun a ha => (x.fn a ⟨0, ha⟩).imp inF1.mp id
  have zn : ∀ a, Z' a → Z1 a ∨ a ∈ fs1 i ∨ H1 a = none := fun a z => (x.zn a z).imp id fun q => q.imp inF1.mp id
  have kj : ∀ j, j ≠ i → ∀ a ∈ fs1 j, ∀ o, H1 a = some o → H' a = some o := fun j hj a ha o q => keep a o q fun z => hj (R.dj j i a ha z)
  have hl : i < σ1.length := (List.getElem?_eq_some_iff.mp hw).1
  have apart : ∀ j, j ≠ i → ∀ a, a ∈ fs1 j → a ∉ fsC 0 := fun j hj a ha z => (f0 a z).elim (fun q => hj (R.dj j i a ha q)) fun q => (R.ft j a ha).1 q
  have x' : Ext Z1 fs1 H1 Z' (upF fs1 i (fsC 0)) H' := by
    refine ⟨fun a o q n => keep a o q fun z => n ⟨i, z⟩, x.tup, x.frz, x.zm, fun a z => (zn a z).imp id fun q => q.imp (fun q => ⟨i, q⟩) id, fun a z => ?_⟩
    rcases inF_up z with z | ⟨j, _, z⟩
    · exact (f0 a z).imp (fun q => ⟨i, q⟩) id
    · exact .inl ⟨j, z⟩
  refine ⟨⟨by rw [List.length_set]; exact R.len, fun j w' hj => ?_, fun j => ?_, fun j j' a ha hb => ?_, fun j a ha z => ?_, R'.zt, fun j a ha => ?_⟩, e.trans x', s.nd, s.dz, fun a ha z => ?_, s.tr, fun a ha => ?_⟩
  · by_cases hji : i = j
    · subst hji
      rw [List.getElem?_set_self hl] at hj
      have hj' : wbk kd σ'[0]? = some w' := Option.some.inj hj
      unfold wbk at hj'
      split at hj'
      · rename_i m' h0
        obtain ⟨v', e1, e2⟩ := R'.sl 0 _ h0
        have ev : v' = v := by simpa using e1.symm
        subst ev
        refine ⟨v', hv, ?_⟩
        rw [upF_eq]
        cases hj'
        cases kd with
        | true => exact ⟨e2.1, hk rfl⟩
        | false => exact e2.1
      · cases hj'
    · rw [List.getElem?_set_ne hji] at hj
      obtain ⟨v', e1, e2⟩ := R.sl j w' hj
      refine ⟨v', e1, ?_⟩
      rw [upF_ne (Ne.symm hji)]
      exact e2.later l (kj j (Ne.symm hji))
  · by_cases ej : j = i
    · rw [ej, upF_eq]; exact R'.nd 0
    · rw [upF_ne ej]; exact R.nd j
  · by_cases ej : j = i
    · by_cases ej' : j' = i
      · rw [ej, ej']
      · rw [ej, upF_eq] at ha; rw [upF_ne ej'] at hb; exact (apart j' ej' a hb ha).elim
    · by_cases ej' : j' = i
      · rw [ej', upF_eq] at hb; rw [upF_ne ej] at ha; exact (apart j ej a ha hb).elim
      · rw [upF_ne ej] at ha; rw [upF_ne ej'] at hb; exact R.dj j j' a ha hb
  · by_cases ej : j = i
    · rw [ej, upF_eq] at ha; exact R'.dz 0 a ha z
    · rw [upF_ne ej] at ha
      rcases zn a z with q | q | q
      · exact R.dz j a ha q
      · exact ej (R.dj j i a ha q)
      · exact (R.ft j a ha).1 q
  · by_cases ej : j = i
    · rw [ej, upF_eq] at ha; exact R'.ft 0 a ha
    · rw [upF_ne ej] at ha; exact keeps3 (fun o q => kj j ej a ha o q) (R.ft j a ha)
  · rcases inF_up z with z | ⟨j, hj, z⟩
    · exact s.df a ha ⟨0, z⟩
    · rcases s.nw a ha with q | q
      · exact hj (R.dj j i a z (inF1.mp q))
      · exact (R.ft j a z).1 q
  · rcases s.nw a ha with q | q
    · exact nw_of (F := F) e (.inl ⟨i, inF1.mp q⟩)
    · exact nw_of (F := F) e (.inr q)
theorem call_io {clf : List W → Out R} {i : Nat} {w : W} {m : M} {v : V} {vs : List V} {ts : List T} {Q : VK} (kd : Bool) (hk : kd = true → v = pv) (R : Rel C pv σ1 σ Z1 fs1 H1) (e : Ext Z fs H Z1 fs1 H1) (hw : σ1[i]? = some (some w)) (hv : σ[i]? = some (some v)) (o : Own C Z1 H1 v m (fs1 i)) (d : DenL C Z1 H1 vs ts)
    (h : Spec C pv Wx σ Z fs H (PR C) (match clf (.io m :: ts.map .val) with | .ok r σ' => .ok r (σ1.set i (wbk kd σ'[0]?)) | .ex c v σ' => .ex c v (σ1.set i (wbk kd σ'[0]?)) | .fail => .fail) Q) :
    spF C clf (vs.length + 1) (v :: vs) H1 Q fun cls d H' => Wx cls d σ H' := by
  refine ⟨rfl, .io m :: ts.map .val, Z1, fs1of (fs1 i), rel_io o (R.nd i) (R.dz i) d R.zt, ?_⟩
  have z0 : ∀ a, Z1 a → a ∉ fs1 i := fun a z q => R.dz i a q z
  cases hc : clf (.io m :: ts.map .val) with
  | fail => rw [hc] at h; exact h
  | ok r σ' =>
    rw [hc] at h
    intro u H' Z' fs' F R' x s p
    obtain ⟨R2, e2, s2⟩ := lent (m := m) kd R e hw hv hk R' x z0 s
    exact h u H' Z' _ F R2 e2 s2 p
  | ex c t σ' =>
    rw [hc] at h
    intro d' H' Z' fs' R' x p
    obtain ⟨R2, e2, _⟩ := lent (m := m) kd R e hw hv hk R' x z0 (F := []) .nil
    exact h d' H' Z' _ R2 e2 p
theorem call_gv {clf : List W → Out R} {G : List Addr} {m : M} {v : V} {vs : List V} {ts : List T} {Q : VK} (R : Rel C pv σ1 σ Z1 fs1 H1) (e : Ext Z fs H Z1 fs1 H1) (sG : Sep G fs H Z1 fs1 H1) (o : Own C Z1 H1 v m G) (d : DenL C Z1 H1 vs ts)
    (h : Spec C pv Wx σ Z fs H (PR C) (match clf (.io m :: ts.map .val) with | .ok r _ => .ok r σ1 | .ex c v _ => .ex c v σ1 | .fail => .fail) Q) :
    spF C clf (vs.length + 1) (v :: vs) H1 Q fun cls d H' => Wx cls d σ H' := by
  refine ⟨rfl, .io m :: ts.map .val, Z1, fs1of G, rel_io o sG.nd sG.dz d R.zt, ?_⟩
  have go : ∀ {Z' : Zo} {fsC : Fo} {H' : Hp} {σ' : Sig} {F : List Addr}, Rel C v σ' ((v :: vs).map some) Z' fsC H' → Ext Z1 (fs1of G) H1 Z' fsC H' → Sep F (fs1of G) H1 Z' fsC H' → Rel C pv σ1 σ Z' fs1 H' ∧ Ext Z fs H Z' fs1 H' ∧ Sep F fs H Z' fs1 H' := by
    intro Z' fsC H' σ' F R' x s
    have keep : ∀ a o, H1 a = some o → a ∉ G → H' a = some o := fun a o q n => x.keep a o q fun z => n (inF1.mp z)
    have l : Later Z1 H1 Z' H' := ⟨x.zm, fun a o z q => keep a o q fun g => sG.dz a g z, x.tup, x.frz⟩
    have kj : ∀ j, ∀ a ∈ fs1 j, ∀ o, H1 a = some o → H' a = some o := fun j a ha o q => keep a o q fun z => sG.df a z ⟨j, ha⟩
    have zn : ∀ a, Z' a → Z1 a ∨ a ∈ G ∨ H1 a = none := fun a z => (x.zn a z).imp id fun q => q.imp inF1.mp id
    refine ⟨⟨R.len, fun j w' hj => ?_, R.nd, R.dj, fun j a ha z => ?_, R'.zt, fun j a ha => keeps3 (fun o q => kj j a ha o q) (R.ft j a ha)⟩, ⟨fun a o q n => ?_, fun a xs q => x.tup _ _ (e.tup _ _ q), fun a o u q => x.frz _ _ _ (e.frz _ _ _ q), fun a z => x.zm _ (e.zm _ z), fun a z => ?_, e.fn⟩, s.nd, s.dz, fun a ha ⟨j, z⟩ => ?_, s.tr, fun a ha => ?_⟩
    · obtain ⟨v', e1, e2⟩ := R.sl j w' hj
      exact ⟨v', e1, e2.later l (kj j)⟩
    · rcases zn a z with q | q | q
      · exact R.dz j a ha q
      · exact sG.df a q ⟨j, ha⟩
      · exact (R.ft j a ha).1 q
    · refine keep a o (e.keep a o q n) fun g => ?_
      rcases sG.nw a g with z | z
      · exact n z
      · rw [q] at z; cases z
    · rcases zn a z with q | q | q
      · exact e.zn a q
      · exact .inr (sG.nw a q)
      · exact .inr (nw_of (F := F) e (.inr q))
    · rcases s.nw a ha with q | q
      · exact sG.df a (inF1.mp q) ⟨j, z⟩
      · exact (R.ft j a z).1 q
    · rcases s.nw a ha with q | q
      · exact sG.nw a (inF1.mp q)
      · exact nw_of (F := F) e (.inr q)
  cases hc : clf (.io m :: ts.map .val) with
  | fail => rw [hc] at h; exact h
  | ok r σ' =>
    rw [hc] at h
    intro u H' Z' fs' F R' x s p
    obtain ⟨R2, e2, s2⟩ := go R' x s
    exact h u H' Z' _ F R2 e2 s2 p
  | ex c t σ' =>
    rw [hc] at h
    intro d' H' Z' fs' R' x p
    obtain ⟨R2, e2, _⟩ := go R' x (F := []) .nil
    exact h d' H' Z' _ R2 e2 p
theorem callA_k {f : Nat} {as : List A} {vs : List V} {F : List Addr} {Q : VK} (R : Rel C pv σ1 σ Z1 fs1 H1) (e : Ext Z fs H Z1 fs1 H1) (s : Sep F fs H Z1 fs1 H1) (p : AsOk C σ Z1 H1 vs F as)
    (h : Spec C pv Wx σ Z fs H (PR C) (callA cl f as σ1) Q) : spF C (cl f) vs.length vs H1 Q fun cls d H' => Wx cls d σ H' := by
  cases p with
  | nil =>
    simp only [callA, argTs] at h
    exact call_pure (ts := []) R e .nil h
  | v d r =>
    simp only [callA] at h
    split at h
    · rename_i ts ht
      obtain ⟨d', _⟩ := AsOk.dens (.v d r) ht
      exact call_pure R e d' h
    · exact h.elim
  | io hv r =>
    simp only [callA] at h
    split at h
    · rename_i ts m ht hw
      obtain ⟨d', _⟩ := r.dens ht
      obtain ⟨v', e1, o⟩ := R.sl _ _ hw
      rw [hv] at e1
      cases e1
      exact call_io false (fun q => by cases q) R e hw hv o d' h
    · rename_i ts m ht hw
      obtain ⟨d', _⟩ := r.dens ht
      obtain ⟨v', e1, o⟩ := R.sl _ _ hw
      rw [hv] at e1
      cases e1
      exact call_io true (fun _ => o.2) R e hw hv o.1 d' h
    · exact h.elim
  | gv o r =>
    simp only [callA] at h
    split at h
    · rename_i ts ht
      obtain ⟨d', rfl⟩ := r.dens ht
      rw [List.append_nil] at s
      exact call_gv R e s o d' h
    · exact h.elim
def E.alen : E → Nat
  | .cons _ es => es.alen + 1
  | _ => 0
theorem AsOk.length {vs : List V} {F : List Addr} {as : List A} (h : AsOk C σ Z H vs F as) : vs.length = as.length := by
  induction h with
  | nil => rfl
  | v _ _ ih => simp [ih]
  | io _ _ ih => simp [ih]
  | gv _ _ ih => simp [ih]
theorem evA_len : ∀ {eas : E} {σ σ' : Sig} {as : List A}, evA cl eas σ = .ok as σ' → as.length = eas.alen
  | .nil, σ, σ', as, h => by simp only [evA, Out.ok.injEq] at h; rw [← h.1]; rfl
  | .cons a es, σ, σ', as, h => by
    have tail : ∀ {σ1 : Sig} {x : A}, ((evA cl es σ1).bind fun as σ => Out.ok (x :: as) σ) = .ok as σ' → as.length = (E.cons a es).alen := fun {σ1 x} h => by
      cases he : evA cl es σ1 with
      | fail => rw [he] at h; cases h
      | ex c v s => rw [he] at h; cases h
      | ok as' s =>
        rw [he] at h
        simp only [Out.bind_ok, Out.ok.injEq] at h
        rw [← h.1, List.length_cons, evA_len he]; rfl
    by_cases hp : a.plainArg = true
    · rw [evA_cons hp] at h
      cases he : ev cl a σ with
      | fail => rw [he] at h; cases h
      | ex c v s => rw [he] at h; cases h
      | ok r s => rw [he] at h; exact tail h
    · cases a <;> first | (exact absurd rfl hp) | skip
      · simp only [evA] at h
        split at h
        · exact tail h
        · exact tail h
        · cases h
      · rename_i e'
        simp only [evA] at h
        cases he : ev cl e' σ with
        | fail => rw [he] at h; cases h
        | ex c v s => rw [he] at h; cases h
        | ok r s => rw [he] at h; exact tail h
  | .sl _, _, _, _, h => by simp [evA] at h
  | .mv _, _, _, _, h => by simp [evA] at h
  | .io _, _, _, _, h => by simp [evA] at h
  | .give _, _, _, _, h => by simp [evA] at h
  | .pop _, _, _, _, h => by simp [evA] at h
  | .popAt _ _, _, _, _, h => by simp [evA] at h
  | .non, _, _, _, h => by simp [evA] at h
  | .bl _, _, _, _, h => by simp [evA] at h
  | .int _, _, _, _, h => by simp [evA] at h
  | .str _, _, _, _, h => by simp [evA] at h
  | .gi _ _, _, _, _, h => by simp [evA] at h
  | .fnv _, _, _, _, h => by simp [evA] at h
  | .lst _ _, _, _, _, h => by simp [evA] at h
  | .tup _ _, _, _, _, h => by simp [evA] at h
  | .dnew _, _, _, _, h => by simp [evA] at h
  | .bin _ _ _, _, _, _, h => by simp [evA] at h
  | .neg _, _, _, _, h => by simp [evA] at h
  | .not _, _, _, _, h => by simp [evA] at h
  | .and _ _, _, _, _, h => by simp [evA] at h
  | .or _ _, _, _, _, h => by simp [evA] at h
  | .cmp _ _ _, _, _, _, h => by simp [evA] at h
  | .chain _ _ _ _ _, _, _, _, h => by simp [evA] at h
  | .ite _ _ _, _, _, _, h => by simp [evA] at h
  | .call _ _, _, _, _, h => by simp [evA] at h
  | .callk _ _ _, _, _, _, h => by simp [evA] at h
  | .bi _ _, _, _, _, h => by simp [evA] at h
  | .isi _ _, _, _, _, h => by simp [evA] at h
  | .isi2 _ _ _, _, _, _, h => by simp [evA] at h
  | .ix _ _, _, _, _, h => by simp [evA] at h
  | .slice _ _ _, _, _, _, h => by simp [evA] at h
  | .pr1 _ _, _, _, _, h => by simp [evA] at h
  | .pr2 _ _ _, _, _, _, h => by simp [evA] at h
  | .none, _, _, _, h => by simp [evA] at h
  | .rng1 _, _, _, _, h => by simp [evA] at h
  | .rng2 _ _, _, _, _, h => by simp [evA] at h
  | .enum _, _, _, _, h => by simp [evA] at h
  | .zip _ _ _, _, _, _, h => by simp [evA] at h
  | .comp _ _ _ _ _ _, _, _, _, h => by simp [evA] at h
  | .comp2 _ _ _ _ _ _ _ _, _, _, _, h => by simp [evA] at h
  | .bor _, _, _, _, h => by simp [evA] at h
  | .isc _ _ _, _, _, _, h => by simp [evA] at h
  | .lcp _, _, _, _, h => by simp [evA] at h
  | .dlit _ _ _, _, _, _, h => by simp [evA] at h
  | .isv _, _, _, _, h => by simp [evA] at h
  | .xval _, _, _, _, h => by simp [evA] at h
  | .callv _ _ _, _, _, _, h => by simp [evA] at h
theorem call_k {f : Nat} {eas : E} {Q : VK} (hl : eas.alen = (C.ps f).length) (h : tE C pv Wx cl (.call f eas) σ H Q) : tCallG (spF C (cl f) (C.ps f).length) Wx (tAs C pv Wx cl eas) σ H Q := by
  obtain ⟨σa, Z, fs, R, h⟩ := h
  simp only [ev] at h
  refine ⟨σa, Z, fs, R, Spec.bind h fun as' σ1 vs Z1 fs1 H1 F1 hev R1 e1 s1 p1 h1 => ?_⟩
  have q := callA_k R1 e1 s1 p1 h1
  rw [p1.length, evA_len hev, hl] at q
  exact q
theorem se_call {n : Nat} (g : Gd X C n) (pg : Pg X C n cl) (tk : Takes X Wx) {f : Nat} {p pos : Pos} {a : Expr} {as : List Expr} {eas : E} (hf : C.has f = true) (hg : Gl X (C.nm f)) (hd : (C.nm f == ("__debug__" : Str)) = false)
    (ha : PA X (a :: as) (tAs C pv Wx cl eas)) (hl : eas.alen = (C.ps f).length) (he : starEach (a :: as) X.env = (false, eval a X.env) :: starEach as X.env) (hp : (backTo pos (starEach as X.env)).any (·.1) = false) :
    SE X C pv Wx cl (.Call (.Name (C.nm f) p) (a :: as) [] pos) (.call f eas) := by
  obtain ⟨F, hm, hk, hb⟩ := pg.fn f hf
  exact .of (pe_imp (pe_callG F g.room g.gs tk hg hm hk hb ha hd he hp) fun σ H Q h => call_k hl h) fun _ => rfl
/-- f() -/
theorem pe_callG0 {f : Addr} {fd : FuncData} {ps : List Str} {x : Str} {p pos : Pos} (F : FnG X.prog X.w X.K X.mg X.base k f fd ps sp) (hr : Room k X.A) (hgs : X.A.guards = some []) (tk : Takes X Wx)
    (hg : Gl X x) (hm : X.mg x = some (.ref f)) (hk : PySem.W.keepIn X.K (.ref f) = true) (hb : Binds X.K fd ps []) (hd : (x == ("__debug__" : Str)) = false) : PE X (.Call (.Name x p) [] [] pos) (tCallG sp Wx tNil) := by
  constructor
  intro pins s σ H Q I h
  apply wpAny_Call_Name_kw
  apply ld_glob I hg hm _ hd
  apply PySem.W.callWith_K0 I.kIn hk
  refine wpAny_call (codeAny_mono (run_go (us := []) F hr hgs tk I ?_ .nil h) fun z s' hz => ?_)
  · have hl : ([] : List Value).length = ps.length := F.len _ _ _ _ h
    have := hb s [] I.kIn (by simpa using hl)
    simpa using this
  · cases z with
    | error e => exact hz
    | ok fl => cases fl with
      | ret u => exact hz
      | _ => exact hz.elim
theorem se_call0 {n : Nat} (g : Gd X C n) (pg : Pg X C n cl) (tk : Takes X Wx) {f : Nat} {p pos : Pos} (hf : C.has f = true) (hg : Gl X (C.nm f)) (hd : (C.nm f == ("__debug__" : Str)) = false) (hl : (C.ps f).length = 0) :
    SE X C pv Wx cl (.Call (.Name (C.nm f) p) [] [] pos) (.call f .nil) := by
  obtain ⟨F, hm, hk, hb⟩ := pg.fn f hf
  refine .of (pe_imp (pe_callG0 F g.room g.gs tk hg hm hk hb hd) fun σ H Q ⟨σa, Z, fs, R, h⟩ => ?_) fun _ => rfl
  simp only [ev, evA, Out.bind_ok] at h
  have q := callA_k (vs := []) R .refl .nil .nil h
  show spF C (cl f) (C.ps f).length [] H Q _
  rw [hl]
  exact q

/-! ### keywords -/
theorem sk_nil : PK X [] (tAs C pv Wx cl .nil) := ⟨fun pos pins s σ H Q I ⟨σa, Z, fs, R, q⟩ => pk_nil.run pos pins s σ H Q I (by
  simp only [evA] at q
  exact q [] H Z fs [] R .refl .nil .nil)⟩
theorem sk_cons {a : Expr} {kws : List Keyword} {ea eas : E} {nm : Option Str} {kp : Pos} (hp : ea.plainArg = true) (ha : SE X C pv Wx cl a ea) (has : PK X kws (tAs C pv Wx cl eas)) : PK X (⟨nm, a, kp⟩ :: kws) (tAs C pv Wx cl (.cons ea eas)) := by
  refine ⟨fun pos pins s σ H Q I ⟨σa, Z, fs, R, h⟩ => (pk_cons ha.v has).run pos pins s σ H Q I ?_⟩
  rw [evA_cons hp] at h
  refine ⟨σa, Z, fs, R, Spec.bindT h fun r σ1 v Z1 fs1 H1 _ R1 e1 d1 h1 => ?_⟩
  refine ⟨σ1, Z1, fs1, R1, Spec.bind h1 fun ms σ2 vs Z2 fs2 H2 F2 hev R2 e2 s2 p2 h2 => ?_⟩
  exact h2 (v :: vs) H2 Z2 fs2 F2 R2 e2 s2 (.v (d1.later (e2.later R1)) p2)
theorem DenL.pick {vs : List V} {ts : List T} (d : DenL C Z H vs ts) : ∀ {ix : List Nat}, (∀ i ∈ ix, i < ts.length) → AsOk C σ Z H (ix.filterMap fun i => vs[i]?) [] (ix.filterMap fun i => (ts[i]?).map A.v)
  | [], _ => .nil
  | i :: ix, h => by
    obtain ⟨v, e, q⟩ := d.get (List.getElem?_eq_getElem (h i List.mem_cons_self))
    rw [List.filterMap_cons, List.filterMap_cons, List.getElem?_eq_getElem (h i List.mem_cons_self), e]
    exact .v q (d.pick fun j hj => h j (List.mem_cons_of_mem _ hj))
theorem pick_len {α : Type} {xs : List α} : ∀ {ix : List Nat}, (∀ i ∈ ix, i < xs.length) → (ix.filterMap fun i => xs[i]?).length = ix.length
  | [], _ => rfl
  | i :: ix, h => by
    rw [List.filterMap_cons, List.getElem?_eq_getElem (h i List.mem_cons_self), List.length_cons, List.length_cons, pick_len fun j hj => h j (List.mem_cons_of_mem _ hj)]
theorem se_callk {n : Nat} (g : Gd X C n) (pg : Pg X C n cl) (tk : Takes X Wx) {f : Nat} {ks : List Str} {ix : List Nat} {p pos : Pos} {kws : List Keyword} {eas : E} (hf : C.has f = true) (hkw : C.kws f ks ix = true) (hg : Gl X (C.nm f)) (hd : (C.nm f == ("__debug__" : Str)) = false)
    (ha : PK X kws (tAs C pv Wx cl eas)) (hl : eas.alen = ks.length) (hall : (backToKw pos (keywordEach kws X.env)).all (·.1.isSome) = true) (hks : (backToKw pos (keywordEach kws X.env)).filterMap (·.1) = ks)
    (hp : ((backTo pos (starEach [] X.env)).any (·.1) || (backToKw pos (keywordEach kws X.env)).any (·.1.isNone)) = false) :
    SE X C pv Wx cl (.Call (.Name (C.nm f) p) [] kws pos) (.callk f ix eas) := by
  obtain ⟨F, hm, hk, _⟩ := pg.fn f hf
  have kb := pg.kw f ks ix hkw
  refine .of (pe_imp (pe_callH F g.room g.gs tk hg hm hk kb ha hd hall hks hp) fun σ H Q ⟨σa, Z, fs, R, h⟩ => ?_) fun _ => rfl
  simp only [ev] at h
  refine ⟨σa, Z, fs, R, Spec.bind h fun as' σ1 vs Z1 fs1 H1 F1 hev R1 e1 s1 p1 h1 => ?_⟩
  have lv : vs.length = ks.length := by rw [p1.length, evA_len hev, hl]
  refine ⟨lv, ?_⟩
  cases ht : argTs as' with
  | none => rw [ht] at h1; exact h1.elim
  | some ts =>
    rw [ht] at h1
    obtain ⟨d, rfl⟩ := p1.dens ht
    have q := callA_k R1 e1 .nil (d.pick (σ := σ) fun i hi => by rw [← d.length, lv]; exact kb.2.2.1 i hi) h1
    rw [pick_len (xs := vs) fun i hi => by rw [lv]; exact kb.2.2.1 i hi, kb.2.1] at q
    exact q
end
end PY
set_option Elab.async false
set_option linter.all false
set_option maxRecDepth 100000
set_option maxHeartbeats 400000
/-! # PySound9: targets, what is walked -/
namespace PY
open PySem L2

def Tg.vars : Tg → List Nat
  | .nm i => [i]
  | .tp is => is
/-- a target gets a fixed value -/
def tG (C : Pl) (pv : V) (tg : Tg) : TG := fun v σ H Q => ∃ (σa : Sig) (Z : Zo) (fs : Fo) (t : T) (σb : Sig), Rel C pv σa σ Z fs H ∧ Den C Z H v t ∧ tg.put t σa = some σb ∧
  ∀ σ' : St, Rel C pv σb σ' Z fs H → σ'.length = σ.length → (∀ j, j ∉ tg.vars → σ'[j]? = σ[j]?) → Q σ' H
def tGs (C : Pl) (pv : V) (is : List Nat) : TGs := fun vs σ H Q => ∃ (σa : Sig) (Z : Zo) (fs : Fo) (ts : List T) (σb : Sig), Rel C pv σa σ Z fs H ∧ DenL C Z H vs ts ∧ puts is ts σa = some σb ∧
  ∀ σ' : St, Rel C pv σb σ' Z fs H → σ'.length = σ.length → (∀ j, j ∉ is → σ'[j]? = σ[j]?) → Q σ' H
/-- a walk over ts -/
def JWk (C : Pl) (J : It) (ts : List T) (Z : Zo) (H : Hp) : Prop := ∀ (Z1 : Zo) (H1 : Hp), Later Z H Z1 H1 → (∀ a, Z1 a → H1 a ≠ none) → ∀ i : Nat,
  (∀ t, ts[i]? = some t → J.go i H1 ∧ ∀ x H2, J.yld i H1 x H2 → ∃ Z2, Grow Z1 H1 Z2 H2 ∧ Den C Z2 H2 x t) ∧ (ts.length ≤ i → J.stop i H1)
abbrev PJ (C : Pl) : Zo → Hp → It → List Addr → List T → Prop := fun Z H J _ ts => JWk C J ts Z H
def tI (C : Pl) (pv : V) (Wx : WX) (cl : Nat → List W → Out R) (it : E) : TI := fun σ H Q => ∃ (σa : Sig) (Z : Zo) (fs : Fo), Rel C pv σa σ Z fs H ∧ Spec C pv Wx σ Z fs H (PJ C) (evIt cl it σa) Q

theorem pg_imp {X : Cx} {e : Expr} {t t' : TG} (h : PG X e t) (k : ∀ v σ H Q, t' v σ H Q → t v σ H Q) : PG X e t' := ⟨fun pins s σ H v u Q I r q => h.run pins s σ H v u Q I r (k v σ H Q q)⟩
theorem pgs_imp {X : Cx} {e : List Expr} {t t' : TGs} (h : PGs X e t) (k : ∀ v σ H Q, t' v σ H Q → t v σ H Q) : PGs X e t' := ⟨fun pins s σ H v u Q I r q => h.run pins s σ H v u Q I r (k v σ H Q q)⟩
theorem pi_imp {X : Cx} {tg e : Expr} {t t' : TI} (h : PI X tg e t) (k : ∀ σ H Q, t' σ H Q → t σ H Q) : PI X tg e t' := ⟨fun pins s σ H Q I q => h.run pins s σ H Q I (k σ H Q q)⟩

section
variable {X : Cx} {C : Pl} {pv : V} {Wx : WX} {cl : Nat → List W → Out R} {ex : Expr} {e : E} {σ σ' : St} {Z Z1 Z2 : Zo} {fs fs1 fs2 : Fo} {H H1 H2 : Hp} {σa σb σ1 : Sig} {n : Nat}

theorem put_val {i : Nat} {t : T} (h : put i (.val t) σa = some σb) : i < σa.length ∧ σb = σa.set i (some (.val t)) := by
  unfold put at h
  split at h
  · cases h
  · rename_i o ho _
    exact ⟨(List.getElem?_eq_some_iff.mp ‹σa[i]? = some o›).1, (Option.some.inj h).symm⟩
  · cases h
theorem Rel.putV {i : Nat} {v : V} {t : T} (R : Rel C pv σa σ Z fs H) (d : Den C Z H v t) (h : put i (.val t) σa = some σb) : Rel C pv σb (σ.set i (some v)) Z fs H := by
  obtain ⟨hi, rfl⟩ := put_val h
  have hi' : i < σ.length := by rw [← R.len]; exact hi
  refine ⟨by rw [List.length_set, List.length_set]; exact R.len, fun j w hj => ?_, R.nd, R.dj, R.dz, R.zt, R.ft⟩
  by_cases hji : i = j
  · subst hji
    rw [List.getElem?_set_self hi] at hj
    cases hj
    exact ⟨v, List.getElem?_set_self hi', d⟩
  · rw [List.getElem?_set_ne hji] at hj
    obtain ⟨u, e, q⟩ := R.sl j w hj
    exact ⟨u, by rw [List.getElem?_set_ne hji]; exact e, q⟩
theorem sg_nm {i : Nat} {x : Str} {pos : Pos} (hN : X.N.Nodup) (hi : X.N[i]? = some x) (hx : Loc X.env.scope x) (hf : X.fn x = true ∨ X.env.scope.names.lookup x = some .local) : PG X (.Name x pos) (tG C pv (.nm i)) := by
  refine pg_imp (pg_name hN hi hx hf) fun v σ H Q ⟨σa, Z, fs, t, σb, R, d, hp, k⟩ => ?_
  exact k _ (R.putV d hp) (List.length_set ..) fun j hj => List.getElem?_set_ne (fun q => hj (by rw [← q]; exact List.mem_singleton_self _))
theorem sgs_nil : PGs X [] (tGs C pv []) := by
  refine pgs_imp pgs_nil fun vs σ H Q ⟨σa, Z, fs, ts, σb, R, d, hp, k⟩ => ?_
  cases ts with
  | nil =>
    cases d
    simp only [puts, Option.some.injEq] at hp
    subst hp
    exact ⟨rfl, k σ R rfl fun _ _ => rfl⟩
  | cons t ts => simp [puts] at hp
theorem sgs_cons {i : Nat} {is : List Nat} {e : Expr} {es : List Expr} (h1 : PG X e (tG C pv (.nm i))) (h2 : PGs X es (tGs C pv is)) (hs : (assignEach (e :: es) X.env).map (·.2) = assign e X.env :: (assignEach es X.env).map (·.2)) : PGs X (e :: es) (tGs C pv (i :: is)) := by
  refine pgs_imp (pgs_cons h1 h2 hs) fun vs σ H Q ⟨σa, Z, fs, ts, σb, R, d, hp, k⟩ => ?_
  cases d with
  | nil => simp [puts] at hp
  | @cons v vs t ts d dr =>
    simp only [puts] at hp
    cases hq : put i (.val t) σa with
    | none => rw [hq] at hp; cases hp
    | some σc =>
      rw [hq] at hp
      refine ⟨v, vs, rfl, σa, Z, fs, t, σc, R, d, hq, fun σ' R' hl hk => ?_⟩
      refine ⟨σc, Z, fs, ts, σb, R', dr, hp, fun σ2 R2 hl2 hk2 => k σ2 R2 (hl2.trans hl) fun j hj => ?_⟩
      rw [List.mem_cons, not_or] at hj
      exact (hk2 j hj.2).trans (hk j (fun q => hj.1 (List.mem_singleton.mp q)))
theorem puts_len : ∀ {is : List Nat} {ts : List T} {σa σb : Sig}, puts is ts σa = some σb → ts.length = is.length
  | [], [], _, _, _ => rfl
  | [], _ :: _, _, _, h => by simp [puts] at h
  | _ :: _, [], _, _, h => by simp [puts] at h
  | i :: is, t :: ts, σa, σb, h => by
    simp only [puts] at h
    cases hq : put i (.val t) σa with
    | none => rw [hq] at h; cases h
    | some σc =>
      rw [hq] at h
      exact congrArg (· + 1) (puts_len (is := is) (ts := ts) h)
theorem sg_tp {is : List Nat} {es : List Expr} {k : Nat} {pos : Pos} (g : Gd X C n) (h : PGs X es (tGs C pv is)) (hn : (assignEach es X.env).length = is.length) (hst : (assignEach es X.env).findIdx? (·.1) = none) : PG X (.Tuple es k pos) (tG C pv (.tp is)) := by
  refine pg_imp (pg_tup g.calm h hn hst) fun v σ H Q ⟨σa, Z, fs, t, σb, R, d, hp, kk⟩ => ?_
  cases t with
  | tup ts =>
    cases d with
    | tup hq dl =>
      rw [g.hK] at hq
      have hl := puts_len (is := is) (ts := ts) hp
      exact ⟨_, _, rfl, hq, by rw [dl.length]; exact hl, σa, Z, fs, ts, σb, R, dl, hp, kk⟩
  | _ => simp [Tg.put] at hp

/-! ### what is walked -/
theorem SqL.lt {K : PySem.W.Frag} {a : Addr} {xs : List V} {i : Nat} {x : V} (h : SqL K H a xs) (hx : xs[i]? = some x) : (Itl K a).go i H := ⟨xs, x, h, hx⟩
theorem jw_list {a : Addr} {xs : List V} {ts : List T} (hq : ∀ Z1 H1, Later Z H Z1 H1 → SqL C.K H1 a xs) (d : DenL C Z H xs ts) : JWk C (Itl C.K a) ts Z H := by
  intro Z1 H1 l zt i
  have q := hq Z1 H1 l
  refine ⟨fun t ht => ?_, fun hi => ⟨xs, q, by rw [d.length]; exact hi⟩⟩
  obtain ⟨v, hv, dv⟩ := d.get ht
  refine ⟨⟨xs, v, q, hv⟩, fun x H2 ⟨e, y⟩ => ?_⟩
  subst e
  have := y xs q
  rw [hv] at this
  cases this
  exact ⟨Z1, .refl zt, dv.later l⟩
theorem jw_tup {a : Addr} {xs : List V} {ts : List T} (hq : SqT C.K H a xs) (d : DenL C Z H xs ts) : JWk C (Itt C.K a) ts Z H := by
  intro Z1 H1 l zt i
  have q := sqT_later l hq
  refine ⟨fun t ht => ?_, fun hi => ⟨xs, q, by rw [d.length]; exact hi⟩⟩
  obtain ⟨v, hv, dv⟩ := d.get ht
  refine ⟨⟨xs, v, q, hv⟩, fun x H2 ⟨e, y⟩ => ?_⟩
  subst e
  have := y xs q
  rw [hv] at this
  cases this
  exact ⟨Z1, .refl zt, dv.later l⟩
theorem dl_ints : ∀ ns : List Int, DenL C Z H (ns.map V.int) (ns.map T.int)
  | [] => .nil
  | n :: ns => .cons (.int n) (dl_ints ns)
/-- a list, a script: as one walks it -/
theorem den_walkL {v : V} {t : T} {ts : List T} (d : Den C Z H v t) (hi : itemsOf t = some ts) (ht : ∀ us, t ≠ .tup us) : ∃ a xs, v = .ref a ∧ SqL C.K H a xs ∧ DenL C Z H xs ts ∧ ∀ Z1 H1, Later Z H Z1 H1 → SqL C.K H1 a xs := by
  cases d with
  | lst z h dl =>
    simp only [itemsOf, Option.some.injEq] at hi
    subst hi
    exact ⟨_, _, rfl, SqL.of h, dl, fun Z1 H1 l => SqL.of (l.k _ _ z h)⟩
  | tup h dl => exact (ht _ rfl).elim
  | scr h =>
    simp only [itemsOf, Option.some.injEq] at hi
    subst hi
    exact ⟨_, _, rfl, h.sq, dl_ints _, fun Z1 H1 l => (scr_later l h).sq⟩
  | _ => simp [itemsOf] at hi
def E.plainIt : E → Bool
  | .rng1 _ => false
  | .rng2 _ _ => false
  | .enum _ => false
  | .zip _ _ _ => false
  | _ => true
theorem evIt_plain {e : E} (h : e.plainIt = true) (σ : Sig) : evIt cl e σ = (ev cl e σ).bind fun r σ => Out.of (itemsOf r.t) σ := by
  cases e <;> first | (simp [E.plainIt] at h; done) | simp only [evIt]
theorem si_plain {tg : Expr} (g : Gd X C n) (hp : e.plainIt = true) (he : SE X C pv Wx cl ex e) : PI X tg ex (tI C pv Wx cl e) := by
  refine ⟨fun pins s σ H Q I ⟨σa, Z, fs, R, h⟩ => ?_⟩
  rw [evIt_plain hp] at h
  by_cases hc : ∃ r σ1 ts, ev cl e σa = .ok r σ1 ∧ r.t = .tup ts
  · obtain ⟨r0, σ0, ts, h0, ht⟩ := hc
    refine (pi_tup he.v).run pins s σ H Q I ⟨σa, Z, fs, R, Spec.bindT h fun r σ1 v Z1 fs1 H1 hev R1 e1 d1 h1 => ?_⟩
    rw [h0] at hev
    cases hev
    rw [ht] at d1 h1
    cases d1 with
    | tup hq dl =>
      refine ⟨_, rfl, ⟨_, by rw [← g.hK]; exact hq⟩, ?_⟩
      rw [← g.hK]
      exact h1 _ H1 Z1 fs1 [] R1 .refl .nil (jw_tup hq dl)
  · refine (pi_list he.v).run pins s σ H Q I ⟨σa, Z, fs, R, Spec.bindT h fun r σ1 v Z1 fs1 H1 hev R1 e1 d1 h1 => ?_⟩
    cases hi : itemsOf r.t with
    | none => rw [hi] at h1; exact h1.elim
    | some ts =>
      rw [hi] at h1
      obtain ⟨a, xs, rfl, hq, dl, hl⟩ := den_walkL d1 hi fun us q => hc ⟨r, σ1, us, hev, q⟩
      refine ⟨a, rfl, ⟨xs, by rw [← g.hK]; exact hq⟩, ?_⟩
      rw [← g.hK]
      exact h1 _ H1 Z1 fs1 [] R1 .refl .nil (jw_list hl dl)
theorem range_at (lo : Int) : ∀ (n i : Nat) (t : T), (rangeT lo n)[i]? = some t → i < n ∧ t = .int (lo + i)
  | 0, _, _, h => by simp [rangeT] at h
  | n + 1, 0, t, h => by
    simp only [rangeT, List.getElem?_cons_zero, Option.some.injEq] at h
    exact ⟨Nat.succ_pos _, by rw [← h]; simp⟩
  | n + 1, i + 1, t, h => by
    simp only [rangeT, List.getElem?_cons_succ] at h
    obtain ⟨h1, h2⟩ := range_at (lo + 1) n i t h
    refine ⟨Nat.succ_lt_succ h1, ?_⟩
    rw [h2]
    congr 1
    omega
theorem range_len (lo : Int) : ∀ n : Nat, (rangeT lo n).length = n
  | 0 => rfl
  | n + 1 => by simp [rangeT, range_len (lo + 1) n]
theorem jw_range {lo : Int} {n : Nat} : JWk C (Itr lo n) (rangeT lo n) Z H := by
  intro Z1 H1 l zt i
  refine ⟨fun t ht => ?_, fun hi => by rw [range_len] at hi; exact hi⟩
  obtain ⟨h1, h2⟩ := range_at lo n i t ht
  refine ⟨h1, fun x H2 ⟨e, y⟩ => ?_⟩
  subst e y h2
  exact ⟨Z1, .refl zt, .int _⟩
theorem big_iff {i : Int} : big i = true ↔ -(2 ^ 62) ≤ i ∧ i < 2 ^ 62 := by unfold big; rw [Bool.and_eq_true, decide_eq_true_eq, decide_eq_true_eq]
theorem si_rng1 {tg a : Expr} {ea : E} {p pos : Pos} (ha : SE X C pv Wx cl a ea) (hg : Gl X "range") (hm : X.mg "range" = none) (hs' : starEach (a :: []) X.env = (false, eval a X.env) :: starEach [] X.env) (hs : starEach [a] X.env = [(false, eval a X.env)]) : PI X tg (.Call (.Name "range" p) [a] [] pos) (tI C pv Wx cl (.rng1 ea)) := by
  refine pi_imp (pi_range1 hg hm (pa_cons ha.v pa_nil hs') hs) fun σ H Q ⟨σa, Z, fs, R, h⟩ => ?_
  simp only [evIt] at h
  refine ⟨σa, Z, fs, R, Spec.bindT h fun r σ1 v Z1 fs1 H1 hev R1 e1 d1 h1 => ?_⟩
  cases ht : r.t with
  | int i =>
    rw [ht] at d1 h1
    cases d1
    simp only at h1
    split at h1
    · rename_i hb
      obtain ⟨b1, b2⟩ := big_iff.mp hb
      exact ⟨i, rfl, b1, b2, h1 _ H1 Z1 fs1 [] R1 .refl .nil jw_range⟩
    · exact h1.elim
  | _ => rw [ht] at h1; exact h1.elim
theorem si_rng2 {tg a b : Expr} {ea eb : E} {p pos : Pos} (ha : SE X C pv Wx cl a ea) (hb : SE X C pv Wx cl b eb) (hg : Gl X "range") (hm : X.mg "range" = none) (hs' : starEach (a :: [b]) X.env = (false, eval a X.env) :: starEach [b] X.env) (hs'' : starEach (b :: []) X.env = (false, eval b X.env) :: starEach [] X.env)
    (hs : starEach [a, b] X.env = [(false, eval a X.env), (false, eval b X.env)]) (hs2 : starEach [b] X.env = [(false, eval b X.env)]) : PI X tg (.Call (.Name "range" p) [a, b] [] pos) (tI C pv Wx cl (.rng2 ea eb)) := by
  refine pi_imp (pi_range2 hg hm (pa_cons ha.v (pa_cons hb.v pa_nil hs'') hs') hs hs2) fun σ H Q ⟨σa, Z, fs, R, h⟩ => ?_
  simp only [evIt] at h
  refine ⟨σa, Z, fs, R, Spec.bindT h fun r σ1 v Z1 fs1 H1 hev R1 e1 d1 h1 => ?_⟩
  refine ⟨σ1, Z1, fs1, R1, Spec.bindT h1 fun r' σ2 v' Z2 fs2 H2 hev' R2 e2 d2 h2 => ?_⟩
  cases ht : r.t with
  | int i =>
    cases ht' : r'.t with
    | int j =>
      rw [ht] at d1 h2
      rw [ht'] at d2 h2
      cases d1
      cases d2
      simp only at h2
      split at h2
      · rename_i hb
        rw [Bool.and_eq_true] at hb
        obtain ⟨b1, b2⟩ := big_iff.mp hb.1
        obtain ⟨b3, b4⟩ := big_iff.mp hb.2
        exact ⟨i, j, rfl, ⟨b1, b2, b3, b4⟩, h2 _ H2 Z2 fs2 [] R2 .refl .nil jw_range⟩
      · exact h2.elim
    | _ => rw [ht, ht'] at h2; exact h2.elim
  | _ => rw [ht] at h2; exact h2.elim
theorem enum_at : ∀ (n : Nat) (ts : List T) (i : Nat) (t : T), (enumFrom n ts)[i]? = some t → ∃ u, ts[i]? = some u ∧ t = .tup [.int ((n + i : Nat) : Int), u]
  | _, [], _, _, h => by simp [enumFrom] at h
  | n, u :: ts, 0, t, h => by
    simp only [enumFrom, List.getElem?_cons_zero, Option.some.injEq] at h
    exact ⟨u, rfl, h.symm⟩
  | n, u :: ts, i + 1, t, h => by
    simp only [enumFrom, List.getElem?_cons_succ] at h
    obtain ⟨w, h1, h2⟩ := enum_at (n + 1) ts i t h
    refine ⟨w, by simpa using h1, ?_⟩
    rw [h2]
    congr 3
    omega
theorem enum_len : ∀ (n : Nat) (ts : List T), (enumFrom n ts).length = ts.length
  | _, [] => rfl
  | n, _ :: ts => by simp [enumFrom, enum_len (n + 1) ts]
theorem jw_enum {a : Addr} {xs : List V} {ts : List T} (hq : ∀ Z1 H1, Later Z H Z1 H1 → SqL C.K H1 a xs) (d : DenL C Z H xs ts) : JWk C (Ite C.K a) (enumFrom 0 ts) Z H := by
  intro Z1 H1 l zt i
  have q := hq Z1 H1 l
  refine ⟨fun t ht => ?_, fun hi => ⟨xs, q, by rw [d.length]; rw [enum_len] at hi; exact hi⟩⟩
  obtain ⟨u, hu, rfl⟩ := enum_at 0 ts i t ht
  obtain ⟨v, hv, dv⟩ := d.get hu
  refine ⟨⟨xs, v, q, hv⟩, fun x H2 ⟨p, y, e1, e2, e3, k⟩ => ?_⟩
  subst e1 e3
  have := k xs q
  rw [hv] at this
  cases this
  have gr : Grow Z1 H1 Z1 (upd H1 p (.tup [.int (i : Nat), v])) := Grow.new0 zt e2
  refine ⟨Z1, gr, .tup (SqT.of upd_same) (.cons ?_ (.cons ((dv.later l).later gr.later) .nil))⟩
  have : ((0 + i : Nat) : Int) = (i : Nat) := by omega
  rw [this]
  exact .int _
theorem si_enum {es : List Expr} {kk : Nat} {tpos : Pos} {a : Expr} {ea : E} {p pos : Pos} (g : Gd X C n) (ha : SE X C pv Wx cl a ea) (hg : Gl X "enumerate") (hm : X.mg "enumerate" = none) (hs' : starEach (a :: []) X.env = (false, eval a X.env) :: starEach [] X.env) (hs : starEach [a] X.env = [(false, eval a X.env)]) :
    PI X (.Tuple es kk tpos) (.Call (.Name "enumerate" p) [a] [] pos) (tI C pv Wx cl (.enum ea)) := by
  refine pi_imp (pi_enum hg hm (pa_cons ha.v pa_nil hs') hs) fun σ H Q ⟨σa, Z, fs, R, h⟩ => ?_
  simp only [evIt] at h
  refine ⟨σa, Z, fs, R, Spec.bindT h fun r σ1 v Z1 fs1 H1 hev R1 e1 d1 h1 => ?_⟩
  cases ht : r.t with
  | lst ts =>
    rw [ht] at d1 h1
    obtain ⟨b, xs, rfl, hq, dl, hl⟩ := den_walkL d1 rfl (fun us q => by cases q)
    refine ⟨b, xs, rfl, by rw [← g.hK]; exact hq, ?_⟩
    rw [← g.hK]
    exact h1 _ H1 Z1 fs1 [] R1 .refl .nil (jw_enum hl dl)
  | _ => rw [ht] at h1; exact h1.elim
theorem zip_at : ∀ (as bs : List T) (i : Nat) (t : T), (zipT as bs)[i]? = some t → ∃ u w, as[i]? = some u ∧ bs[i]? = some w ∧ t = .tup [u, w]
  | [], _, _, _, h => by simp [zipT] at h
  | _ :: _, [], _, _, h => by simp [zipT] at h
  | u :: as, w :: bs, 0, t, h => by
    simp only [zipT, List.getElem?_cons_zero, Option.some.injEq] at h
    exact ⟨u, w, rfl, rfl, h.symm⟩
  | u :: as, w :: bs, i + 1, t, h => by
    simp only [zipT, List.getElem?_cons_succ] at h
    obtain ⟨u', w', h1, h2, h3⟩ := zip_at as bs i t h
    exact ⟨u', w', by simpa using h1, by simpa using h2, h3⟩
theorem zip_len : ∀ (as bs : List T) (i : Nat), (zipT as bs).length ≤ i → as.length ≤ i ∨ bs.length ≤ i
  | [], _, i, _ => .inl (Nat.zero_le _)
  | _ :: _, [], i, _ => .inr (Nat.zero_le _)
  | _ :: as, _ :: bs, 0, h => by simp [zipT] at h
  | _ :: as, _ :: bs, i + 1, h => by
    rcases zip_len as bs i (by simpa [zipT] using h) with q | q
    · exact .inl (by simpa using q)
    · exact .inr (by simpa using q)
theorem jw_zip {a b : Addr} {xs ys : List V} {ts us : List T} (hq : ∀ Z1 H1, Later Z H Z1 H1 → SqL C.K H1 a xs) (hr : ∀ Z1 H1, Later Z H Z1 H1 → SqL C.K H1 b ys) (d : DenL C Z H xs ts) (d' : DenL C Z H ys us) : JWk C (Itz C.K a b) (zipT ts us) Z H := by
  intro Z1 H1 l zt i
  have q := hq Z1 H1 l
  have q' := hr Z1 H1 l
  refine ⟨fun t ht => ?_, fun hi => ⟨xs, ys, q, q', by rw [d.length, d'.length]; exact zip_len ts us i hi⟩⟩
  obtain ⟨u, w, hu, hw, rfl⟩ := zip_at ts us i t ht
  obtain ⟨v, hv, dv⟩ := d.get hu
  obtain ⟨v', hv', dv'⟩ := d'.get hw
  refine ⟨⟨xs, ys, v, v', q, q', hv, hv'⟩, fun x H2 ⟨p, y, y', e1, e2, e3, k, k'⟩ => ?_⟩
  subst e1 e3
  have z := k xs q
  rw [hv] at z
  cases z
  have z := k' ys q'
  rw [hv'] at z
  cases z
  have gr : Grow Z1 H1 Z1 (upd H1 p (.tup [v, v'])) := Grow.new0 zt e2
  exact ⟨Z1, gr, .tup (SqT.of upd_same) (.cons ((dv.later l).later gr.later) (.cons ((dv'.later l).later gr.later) .nil))⟩
theorem jw_zipT {a b : Addr} {xs ys : List V} {ts us : List T} (hq : SqT C.K H a xs) (hr : SqT C.K H b ys) (d : DenL C Z H xs ts) (d' : DenL C Z H ys us) : JWk C (RZ.ItzT C.K a b) (zipT ts us) Z H := by
  intro Z1 H1 l zt i
  have q := sqT_later l hq
  have q' := sqT_later l hr
  refine ⟨fun t ht => ?_, fun hi => ⟨xs, ys, q, q', by rw [d.length, d'.length]; exact zip_len ts us i hi⟩⟩
  obtain ⟨u, w, hu, hw, rfl⟩ := zip_at ts us i t ht
  obtain ⟨v, hv, dv⟩ := d.get hu
  obtain ⟨v', hv', dv'⟩ := d'.get hw
  refine ⟨⟨xs, ys, v, v', q, q', hv, hv'⟩, fun x H2 ⟨p, y, y', e1, e2, e3, k, k'⟩ => ?_⟩
  subst e1 e3
  have z := k xs q
  rw [hv] at z
  cases z
  have z := k' ys q'
  rw [hv'] at z
  cases z
  have gr : Grow Z1 H1 Z1 (upd H1 p (.tup [v, v'])) := Grow.new0 zt e2
  exact ⟨Z1, gr, .tup (SqT.of upd_same) (.cons ((dv.later l).later gr.later) (.cons ((dv'.later l).later gr.later) .nil))⟩
theorem si_zip {es : List Expr} {kk : Nat} {tpos : Pos} {a b : Expr} {ea eb : E} {p pos : Pos} (g : Gd X C n) (ha : SE X C pv Wx cl a ea) (hb : SE X C pv Wx cl b eb) (hg : Gl X "zip") (hm : X.mg "zip" = none)
    (hs' : starEach (a :: [b]) X.env = (false, eval a X.env) :: starEach [b] X.env) (hs'' : starEach (b :: []) X.env = (false, eval b X.env) :: starEach [] X.env) (hpl : (backTo pos (starEach [b] X.env)).any (·.1) = false) :
    PI X (.Tuple es kk tpos) (.Call (.Name "zip" p) [a, b] [] pos) (tI C pv Wx cl (.zip false ea eb)) := by
  refine pi_imp (RZ.pi_zipA hg hm (pa_cons ha.v (pa_cons hb.v pa_nil hs'') hs') hs' hpl) fun σ H Q ⟨σa, Z, fs, R, h⟩ => ?_
  simp only [evIt] at h
  refine ⟨σa, Z, fs, R, Spec.bindT h fun r σ1 v Z1 fs1 H1 hev R1 e1 d1 h1 => ?_⟩
  refine ⟨σ1, Z1, fs1, R1, Spec.bindT h1 fun r' σ2 v' Z2 fs2 H2 hev' R2 e2 d2 h2 => ?_⟩
  have d1' := d1.later (e2.later R1)
  cases hz : zipS false r.t r'.t with
  | none => rw [hz] at h2; exact h2.elim
  | some zs =>
    rw [hz] at h2
    cases ht : r.t with
    | lst ts =>
      cases ht' : r'.t with
      | lst us =>
        rw [ht] at d1' hz
        rw [ht'] at d2 hz
        simp only [zipS, Bool.false_and, Bool.false_eq_true, if_false, Option.some.injEq] at hz
        subst hz
        obtain ⟨b, xs, rfl, hq, dl, hl⟩ := den_walkL d1' rfl (fun us q => by cases q)
        obtain ⟨b', xs', rfl, hq', dl', hl'⟩ := den_walkL d2 rfl (fun us q => by cases q)
        refine ⟨b, b', xs, xs', rfl, .inl ⟨by rw [← g.hK]; exact hq, by rw [← g.hK]; exact hq', ?_⟩⟩
        rw [← g.hK]
        exact h2 _ H2 Z2 fs2 [] R2 .refl .nil (jw_zip hl hl' dl dl')
      | _ => rw [ht, ht'] at hz; simp [zipS] at hz
    | tup ts =>
      cases ht' : r'.t with
      | tup us =>
        rw [ht] at d1' hz
        rw [ht'] at d2 hz
        simp only [zipS, Bool.false_and, Bool.false_eq_true, if_false, Option.some.injEq] at hz
        subst hz
        cases d1' with
        | tup hq dl => cases d2 with
          | tup hq' dl' =>
            refine ⟨_, _, _, _, rfl, .inr ⟨by rw [← g.hK]; exact hq, by rw [← g.hK]; exact hq', ?_⟩⟩
            rw [← g.hK]
            exact h2 _ H2 Z2 fs2 [] R2 .refl .nil (jw_zipT hq hq' dl dl')
      | _ => rw [ht, ht'] at hz; simp [zipS] at hz
    | _ => rw [ht] at hz; simp [zipS] at hz
end
end PY
set_option Elab.async false
set_option linter.all false
set_option maxRecDepth 100000
set_option maxHeartbeats 400000
/-! # PySound10: comprehensions -/
namespace PY
open PySem L2

abbrev Wx0 : WX := fun _ _ _ _ => False
/-- a clause's test -/
def tC (C : Pl) (pv : V) (Wx : WX) (cl : Nat → List W → Out R) (e : E) : TT := fun σ H Q => ∃ (σa : Sig) (Z : Zo) (fs : Fo), Rel C pv σa σ Z fs H ∧ Spec C pv Wx σ Z fs H PB (evC cl e σa) Q

section
variable {X : Cx} {C : Pl} {pv : V} {Wx : WX} {cl : Nat → List W → Out R} {ex : Expr} {e : E} {σ σ' : St} {Z Z1 Z2 : Zo} {fs fs1 fs2 : Fo} {H H1 H2 : Hp} {σa σb σ1 : Sig} {n : Nat}

theorem wipes_len : ∀ (vs : List Nat) (σa : Sig), (wipes vs σa).length = σa.length
  | [], _ => rfl
  | i :: vs, σa => by show ((wipes vs σa).set i none).length = _; rw [List.length_set, wipes_len]
theorem wipes_some : ∀ {vs : List Nat} {σa : Sig} {i : Nat} {w : W}, (wipes vs σa)[i]? = some (some w) → σa[i]? = some (some w) ∧ i ∉ vs
  | [], _, _, _, h => ⟨h, by simp⟩
  | j :: vs, σa, i, w, h => by
    have h : ((wipes vs σa).set j none)[i]? = some (some w) := h
    by_cases e : j = i
    · subst e
      by_cases hl : j < (wipes vs σa).length
      · rw [List.getElem?_set_self hl] at h; cases h
      · rw [List.getElem?_eq_none (by rw [List.length_set]; omega)] at h; cases h
    · rw [List.getElem?_set_ne e] at h
      obtain ⟨h1, h2⟩ := wipes_some h
      exact ⟨h1, by simp only [List.mem_cons, not_or]; exact ⟨fun q => e q.symm, h2⟩⟩
theorem Rel.wipe (R : Rel C pv σa σ Z fs H) (vs : List Nat) : Rel C pv (wipes vs σa) (L2.wipe σ vs) Z fs H := by
  refine ⟨by rw [wipes_len, wipe_length]; exact R.len, fun i w h => ?_, R.nd, R.dj, R.dz, R.zt, R.ft⟩
  obtain ⟨h1, h2⟩ := wipes_some h
  obtain ⟨v, e, q⟩ := R.sl i w h1
  exact ⟨v, by rw [wipe_out h2]; exact e, q⟩
/-- the block's own names are hidden -/
theorem hide_ok : ∀ {vs : List Nat} {σa σb : Sig}, hide vs σa = some σb → σb.length = σa.length ∧ (∀ i w, σb[i]? = some (some w) → σa[i]? = some (some w) ∧ i ∉ vs) ∧ ∀ i w, i ∈ vs → σa[i]? = some (some w) → ∃ t, w = .val t
  | [], σa, σb, h => by
    simp only [hide, Option.some.injEq] at h
    subst h
    exact ⟨rfl, fun i w h => ⟨h, by simp⟩, fun i w h => by cases h⟩
  | i :: vs, σa, σb, h => by
    simp only [hide] at h
    split at h
    · rename_i h0
      obtain ⟨h1, h2, h3⟩ := hide_ok (vs := vs) h
      refine ⟨h1, fun j w hj => ?_, fun j w hj hw => ?_⟩
      · obtain ⟨a, b⟩ := h2 j w hj
        refine ⟨a, fun q => ?_⟩
        rcases List.mem_cons.mp q with rfl | q
        · rw [h0] at a; cases a
        · exact b q
      · rcases List.mem_cons.mp hj with rfl | hj
        · rw [h0] at hw; cases hw
        · exact h3 j w hj hw
    · rename_i t h0
      cases hq : hide vs σa with
      | none => rw [hq] at h; cases h
      | some σc =>
        rw [hq] at h
        simp only [Option.map_some, Option.some.injEq] at h
        subst h
        obtain ⟨h1, h2, h3⟩ := hide_ok (vs := vs) hq
        refine ⟨by rw [List.length_set]; exact h1, fun j w hj => ?_, fun j w hj hw => ?_⟩
        · by_cases e : i = j
          · subst e
            by_cases hl : i < σc.length
            · rw [List.getElem?_set_self hl] at hj; cases hj
            · rw [List.getElem?_eq_none (by rw [List.length_set]; omega)] at hj; cases hj
          · rw [List.getElem?_set_ne e] at hj
            obtain ⟨a, b⟩ := h2 j w hj
            exact ⟨a, by simp only [List.mem_cons, not_or]; exact ⟨fun q => e q.symm, b⟩⟩
        · rcases List.mem_cons.mp hj with rfl | hj
          · rw [h0] at hw
            cases hw
            exact ⟨t, rfl⟩
          · exact h3 j w hj hw
    · cases h
theorem Rel.hide {vs : List Nat} (R : Rel C pv σa σ Z fs H) (h : hide vs σa = some σb) : Rel C pv σb (L2.wipe σ vs) Z fs H := by
  obtain ⟨h1, h2, _⟩ := hide_ok h
  refine ⟨by rw [h1, wipe_length]; exact R.len, fun i w hi => ?_, R.nd, R.dj, R.dz, R.zt, R.ft⟩
  obtain ⟨a, b⟩ := h2 i w hi
  obtain ⟨v, e, q⟩ := R.sl i w a
  exact ⟨v, by rw [wipe_out b]; exact e, q⟩
theorem back_len : ∀ (vs : List Nat) (σ0 σa : Sig), (back vs σ0 σa).length = σa.length
  | [], _, _ => rfl
  | i :: vs, σ0, σa => by show ((back vs σ0 σa).set i _).length = _; rw [List.length_set, back_len]
theorem back_some : ∀ {vs : List Nat} {σ0 σa : Sig} {i : Nat} {w : W}, (back vs σ0 σa)[i]? = some (some w) → (i ∈ vs ∧ σ0[i]? = some (some w)) ∨ (i ∉ vs ∧ σa[i]? = some (some w))
  | [], _, _, _, _, h => .inr ⟨by simp, h⟩
  | j :: vs, σ0, σa, i, w, h => by
    have h : ((back vs σ0 σa).set j ((σ0[j]?).getD none))[i]? = some (some w) := h
    by_cases e : j = i
    · subst e
      by_cases hl : j < (back vs σ0 σa).length
      · rw [List.getElem?_set_self hl] at h
        refine .inl ⟨List.mem_cons_self, ?_⟩
        cases q : σ0[j]? with
        | none => rw [q] at h; cases h
        | some o => rw [q] at h; exact h
      · rw [List.getElem?_eq_none (by rw [List.length_set]; omega)] at h; cases h
    · rw [List.getElem?_set_ne e] at h
      rcases back_some h with ⟨a, b⟩ | ⟨a, b⟩
      · exact .inl ⟨List.mem_cons_of_mem _ a, b⟩
      · exact .inr ⟨by simp only [List.mem_cons, not_or]; exact ⟨fun q => e q.symm, a⟩, b⟩
/-- out of the block: the hidden names are as they were -/
theorem Rel.back {vs : List Nat} {σ0 : Sig} (R0 : Rel C pv σ0 σ Z fs H) (h : PY.hide vs σ0 = some σb) (R : Rel C pv σa (L2.wipe σ vs) Z1 fs1 H1) (e : Ext Z fs H Z1 fs1 H1) : Rel C pv (PY.back vs σ0 σa) σ Z1 fs1 H1 := by
  obtain ⟨_, _, h3⟩ := hide_ok h
  refine ⟨by rw [back_len, R.len, wipe_length], fun i w hi => ?_, R.nd, R.dj, R.dz, R.zt, R.ft⟩
  rcases back_some hi with ⟨a, b⟩ | ⟨a, b⟩
  · obtain ⟨t, rfl⟩ := h3 i w a b
    obtain ⟨v, q, d⟩ := R0.sl i _ b
    exact ⟨v, q, Den.later (e.later R0) d⟩
  · obtain ⟨v, q, d⟩ := R.sl i w b
    exact ⟨v, by rw [← wipe_out a]; exact q, d⟩

/-! ### a block's turn -/
theorem noex_ok {α : Type} {o : Out α} {a : α} {σa : Sig} (h : o.noex = .ok a σa) : o = .ok a σa := by
  cases o with
  | ok a' σ' => exact h
  | fail => cases h
  | ex c v σ' => cases h
theorem bind_okO {α β : Type} {o : Out α} {f : α → Sig → Out β} {b : β} {σa : Sig} (h : o.bind f = .ok b σa) : ∃ a σ', o = .ok a σ' ∧ f a σ' = .ok b σa := by
  cases o with
  | ok a' σ' => exact ⟨a', σ', rfl, h⟩
  | fail => cases h
  | ex c v σ' => cases h
theorem onS_ok {α : Type} {o : Option Sig} {f : Sig → Out α} {b : α} {σa : Sig} (h : onS o f = .ok b σa) : ∃ σ', o = some σ' ∧ f σ' = .ok b σa := by
  cases o with
  | some σ' => exact ⟨σ', rfl, h⟩
  | none => cases h
/-- what comes to an end: as a promise -/
theorem Spec.okd {α β : Type} {P : Zo → Hp → β → List Addr → α → Prop} {o : Out α} {r : α} {Q : β → Hp → Prop} (h : o = .ok r σa) (k : ∀ (b : β) (H' : Hp) (Z' : Zo) (fs' : Fo) (F : List Addr), Rel C pv σa σ Z' fs' H' → Ext Z fs H Z' fs' H' → Sep F fs H Z' fs' H' → P Z' H' b F r → Q b H') : Spec C pv Wx σ Z fs H P o Q := by
  rw [h]
  exact k
/-- evL comes to an end or nothing does -/
theorem evL_ex (f : T → Sig → Out (List M)) (hf : ∀ t σ c v σ', f t σ ≠ .ex c v σ') : ∀ (ts : List T) (σ : Sig) c v σ', evL f ts σ ≠ .ex c v σ'
  | [], _, _, _, _ => fun e => by cases e
  | t :: ts, σ, c, v, σ' => fun e => by
    unfold evL at e
    cases q : f t σ with
    | fail => rw [q] at e; cases e
    | ex c' v' σ2 => exact hf _ _ _ _ _ q
    | ok a σ2 =>
      rw [q, Out.bind_ok] at e
      cases q2 : evL f ts σ2 with
      | fail => rw [q2] at e; cases e
      | ex c' v' σ3 => exact evL_ex f hf ts σ2 _ _ _ q2
      | ok b σ3 => rw [q2] at e; cases e
theorem noex_ex {α : Type} {o : Out α} {c v σ'} : o.noex ≠ .ex c v σ' := by
  cases o <;> exact fun e => by cases e

/-- a list being made, apart -/
structure Mk (C : Pl) (D : Addr) (fs0 : Fo) (H0 : Hp) (Z : Zo) (fs : Fo) (H : Hp) (ms : List M) : Prop where
  ex : ∃ (acc : List V) (F : List Addr), H D = some (.lst acc) ∧ OwnL C Z H acc ms F ∧ Sep (D :: F) fs0 H0 Z fs H
theorem Mk.step {D : Addr} {fs0 : Fo} {H0 : Hp} {ms : List M} (R : Rel C pv σa σ Z fs H) (m : Mk C D fs0 H0 Z fs H ms) (e : Ext Z fs H Z1 fs1 H1) : Mk C D fs0 H0 Z1 fs1 H1 ms := by
  obtain ⟨acc, F, h, o, s⟩ := m.ex
  have nD : ¬ InF fs D := s.df D List.mem_cons_self
  exact ⟨acc, F, e.keep _ _ h nD, o.later (e.later R) fun a ha u q => e.keep a u q (s.df a (List.mem_cons_of_mem _ ha)), s.step e⟩
theorem OwnL.snoc : ∀ {vs : List V} {ms : List M} {F : List Addr} {v : V} {m : M} {G : List Addr}, OwnL C Z H vs ms F → Own C Z H v m G → OwnL C Z H (vs ++ [v]) (ms ++ [m]) (F ++ G)
  | _, _, _, v, m, G, .nil, o => by
    have := OwnL.cons o .nil
    rw [List.append_nil] at this
    exact this
  | _, _, _, v, m, G, .cons a r, o => by
    have := OwnL.cons a (r.snoc o)
    rw [← List.append_assoc] at this
    exact this
theorem Later.trans (a : Later Z H Z1 H1) (b : Later Z1 H1 Z2 H2) : Later Z H Z2 H2 := ⟨fun x h => b.z x (a.z x h), fun x o z h => b.k x o (a.z x z) (a.k x o z h), fun x xs h => b.tup x xs (a.tup x xs h), fun x o u h => b.frz x o u (a.frz x o u h)⟩
/-- one more item -/
theorem Mk.push {D : Addr} {Z0 : Zo} {fs0 : Fo} {H0 : Hp} {ms : List M} {v : V} {r : R} {F : List Addr} (R0 : Rel C pv σa σ Z fs H) (m : Mk C D fs0 H0 Z fs H ms) (e0 : Ext Z0 fs0 H0 Z fs H) (R1 : Rel C pv σb σ Z1 fs1 H1) (e : Ext Z fs H Z1 fs1 H1) (s : Sep F fs H Z1 fs1 H1) (p : ROk C Z1 H1 v F r) :
    ∃ acc, H1 D = some (.lst acc) ∧ acc.length = ms.length ∧ Rel C pv σb σ Z1 fs1 (upd H1 D (.lst (acc ++ [v]))) ∧ Later Z H Z1 (upd H1 D (.lst (acc ++ [v]))) ∧ Ext Z0 fs0 H0 Z1 fs1 (upd H1 D (.lst (acc ++ [v]))) ∧ Mk C D fs0 H0 Z1 fs1 (upd H1 D (.lst (acc ++ [v]))) (ms ++ [r.m]) := by
  obtain ⟨acc, F0, h, o, s0⟩ := m.ex
  have nD : ¬ InF fs D := s0.df D List.mem_cons_self
  have h1 := e.keep _ _ h nD
  have s1 := s0.step e
  have nF0 : D ∉ F0 := (List.nodup_cons.mp s0.nd).1
  obtain ⟨G, ow, hG, nG⟩ := ROk.own p (.inr trivial)
  have sG := s.sub hG (nG s.nd)
  have nG' : D ∉ G := fun q => by
    rcases sG.nw D q with z | z
    · exact nD z
    · rw [h] at z; cases z
  have nZ : ¬ Z1 D := s1.dz D List.mem_cons_self
  have nf1 : ¬ InF fs1 D := s1.df D List.mem_cons_self
  -- the heap changes at D alone
  have ne : ∀ {b}, b ≠ D → upd H1 D (.lst (acc ++ [v])) b = H1 b := fun hb => upd_ne hb
  have kz : ∀ b, Z1 b → b ≠ D := fun b z q => nZ (by rw [← q]; exact z)
  have kf : ∀ b, InF fs1 b → b ≠ D := fun b z q => nf1 (by rw [← q]; exact z)
  have l : Later Z1 H1 Z1 (upd H1 D (.lst (acc ++ [v]))) := ⟨fun _ z => z, fun b u z q => by rw [ne (kz b z)]; exact q, fun b xs q => by
    rw [ne (fun z => by rw [z, h1] at q; cases q)]; exact q, fun b u w q => by
    rw [ne (fun z => by rw [z, h1] at q; cases q)]; exact q⟩
  have tk : ∀ b, Tk H1 b → b ≠ D → Tk (upd H1 D (.lst (acc ++ [v]))) b := fun b t hb => by unfold Tk; rw [ne hb]; exact t
  refine ⟨acc, h1, o.length, ⟨R1.len, fun i w q => ?_, R1.nd, R1.dj, R1.dz, fun b z => by rw [ne (kz b z)]; exact R1.zt b z, fun i b hb => tk b (R1.ft i b hb) (kf b ⟨i, hb⟩)⟩, (e.later R0).trans l, ?_, ⟨acc ++ [v], F0 ++ G, upd_same, ?_, ?_⟩⟩
  · obtain ⟨u, q1, q2⟩ := R1.sl i w q
    exact ⟨u, q1, q2.later l fun b hb o q => by rw [ne (kf b ⟨i, hb⟩)]; exact q⟩
  · have e01 := e0.trans e
    have nw : InF fs0 D ∨ H0 D = none := s0.nw D List.mem_cons_self
    refine ⟨fun b u q n => ?_, fun b xs q => l.tup b xs (e01.tup b xs q), fun b u w q => l.frz b u w (e01.frz b u w q), e01.zm, e01.zn, e01.fn⟩
    have : b ≠ D := fun z => by
      rcases nw with w | w
      · exact n (by rw [z]; exact w)
      · rw [z, w] at q; cases q
    rw [ne this]
    exact e01.keep b u q n
  · refine OwnL.snoc (OwnL.later l (o.later (e.later R0) fun a ha u q => e.keep a u q (s0.df a (List.mem_cons_of_mem _ ha))) fun b hb u q => ?_) (ow.later l fun b hb u q => ?_)
    · rw [ne (fun z => nF0 (by rw [← z]; exact hb))]; exact q
    · rw [ne (fun z => nG' (by rw [← z]; exact hb))]; exact q
  · have sApp := Sep.app s0 e0 e sG
    have q : D :: (F0 ++ G) = (D :: F0) ++ G := rfl
    rw [q]
    refine ⟨sApp.nd, sApp.dz, sApp.df, fun b hb => ?_, sApp.nw⟩
    by_cases hb' : b = D
    · rw [hb']; exact tk_lst upd_same
    · exact tk b (sApp.tr b hb) hb'
/-- the list is made -/
theorem Mk.fin {D : Addr} {own : Bool} {ms : List M} {Q : VK} (h : Spec C pv Wx σ Z fs H (PR C) (finL own ms σa) Q) (R : Rel C pv σa σ Z1 fs1 H1) (e : Ext Z fs H Z1 fs1 H1) (m : Mk C D fs H Z1 fs1 H1 ms) : Q (.ref D) H1 := by
  obtain ⟨acc, F, hD, o, s⟩ := m.ex
  unfold finL at h
  split at h
  · cases own with
    | true => exact h (.ref D) H1 Z1 fs1 (D :: F) R e s (.lst hD o)
    | false =>
      obtain ⟨Z2, R2, e2, l2, d2⟩ := settle (σ' := σ) (r := .own (.lst ms)) R e s (.lst hD o)
      refine h (.ref D) H1 Z2 fs1 [] R2 e2 .nil ?_
      simp only [PY.R.t, M.er, M.ers_map] at d2
      exact d2
  · exact h.elim
end
end PY
set_option Elab.async false
set_option linter.all false
set_option maxRecDepth 100000
set_option maxHeartbeats 400000
/-! # PySound11: list comprehensions -/
namespace PY
open PySem L2

section
variable {X : Cx} {C : Pl} {pv : V} {Wx : WX} {cl : Nat → List W → Out R} {ex : Expr} {e : E} {σ σ' : St} {Z Z1 Z2 : Zo} {fs fs1 fs2 : Fo} {H H1 H2 : Hp} {σa σb σ1 : Sig} {n : Nat}

variable (cl) in
def compF (vs : List Nat) (tg : Tg) (c e : E) : T → Sig → Out (List M) := fun t σ => onS (tg.put t σ) fun σ => ((evC cl c σ).bind fun b σ => keepIf b (fun σ => (ev cl e σ).bind fun r σ => .ok [r.m] (wipes vs σ)) vs σ).noex
variable (cl) in
def compF1 (vs1 : List Nat) (tg1 : Tg) (e : E) : T → Sig → Out (List M) := fun t1 σ => onS (tg1.put t1 σ) fun σ => ((ev cl e σ).bind fun r σ => .ok [r.m] (wipes vs1 σ)).noex
variable (cl) in
def compF2 (vs vs1 : List Nat) (tg : Tg) (tg1 : Tg) (it1 e : E) : T → Sig → Out (List M) := fun t σ => onS (tg.put t σ) fun σ => (evIt cl it1 σ).noex.bind fun ts1 σ => (evL (compF1 cl vs1 tg1 e) ts1 (wipes vs1 σ)).bind fun ms σ => .ok ms (wipes vs σ)
theorem ev_comp {own vs tg it c e} (σ : Sig) : ev cl (.comp own vs tg it c e) σ = (evIt cl it σ).bind fun ts σ0 => onS (hide vs σ0) fun σ1 => (evL (compF cl vs tg c e) ts σ1).bind fun ms σ => finL own ms (back vs σ0 σ) := by
  simp only [ev]; rfl
theorem ev_comp2 {own vs vs1 tg it tg1 it1 e} (σ : Sig) : ev cl (.comp2 own vs vs1 tg it tg1 it1 e) σ = (evIt cl it σ).bind fun ts σ0 => onS (hide vs σ0) fun σ1 => (evL (compF2 cl vs vs1 tg tg1 it1 e) ts σ1).bind fun ms σ => finL own ms (back vs σ0 σ) := by
  simp only [ev]; rfl
theorem onS_ex {α : Type} {o : Option Sig} {f : Sig → Out α} (hf : ∀ σ c v σ', f σ ≠ .ex c v σ') {c v σ'} : onS o f ≠ .ex c v σ' := by
  cases o with
  | none => exact fun e => by cases e
  | some s => exact hf s c v σ'
theorem compF_ex {vs tg c e} : ∀ t σ c' v σ', compF cl vs tg c e t σ ≠ .ex c' v σ' := fun _ _ _ _ _ => onS_ex fun _ _ _ _ => noex_ex
theorem compF1_ex {vs tg e} : ∀ t σ c' v σ', compF1 cl vs tg e t σ ≠ .ex c' v σ' := fun _ _ _ _ _ => onS_ex fun _ _ _ _ => noex_ex
theorem bind_ex {α β : Type} {o : Out α} {f : α → Sig → Out β} (h1 : ∀ c v σ', o ≠ .ex c v σ') (h2 : ∀ a σ c v σ', f a σ ≠ .ex c v σ') {c v σ'} : o.bind f ≠ .ex c v σ' := by
  cases o with
  | ok a s => exact h2 a s c v σ'
  | fail => exact fun e => by cases e
  | ex c' v' s => exact (h1 c' v' s rfl).elim
theorem compF2_ex {vs vs1 tg tg1 it1 e} : ∀ t σ c' v σ', compF2 cl vs vs1 tg tg1 it1 e t σ ≠ .ex c' v σ' := fun _ _ _ _ _ => onS_ex fun _ _ _ _ => bind_ex (fun _ _ _ => noex_ex) fun _ _ _ _ _ => bind_ex (evL_ex _ compF1_ex _ _) fun _ _ _ _ _ e => by cases e
/-- a promise of a list that comes to an end -/
theorem Spec.evL {f : T → Sig → Out (List M)} (hf : ∀ t σ c v σ', f t σ ≠ .ex c v σ') {ts : List T} {k : List M → Sig → Out R} {Q : VK} (h : Spec C pv Wx σ Z fs H (PR C) ((PY.evL f ts σa).bind k) Q) : ∃ ms σ2, PY.evL f ts σa = .ok ms σ2 ∧ Spec C pv Wx σ Z fs H (PR C) (k ms σ2) Q := by
  cases q : PY.evL f ts σa with
  | fail => rw [q] at h; exact h.elim
  | ex c v σ' => exact (evL_ex f hf ts σa c v σ' q).elim
  | ok ms σ2 => rw [q] at h; exact ⟨ms, σ2, rfl, h⟩
theorem evL_cons {f : T → Sig → Out (List M)} {t : T} {ts : List T} {ms : List M} {σ2 : Sig} (h : PY.evL f (t :: ts) σa = .ok ms σ2) : ∃ a σd b, f t σa = .ok a σd ∧ PY.evL f ts σd = .ok b σ2 ∧ ms = a ++ b := by
  unfold PY.evL at h
  obtain ⟨a, σd, h1, h2⟩ := bind_okO h
  obtain ⟨b, σe, h3, h4⟩ := bind_okO h2
  cases h4
  exact ⟨a, σd, b, h1, h3, rfl⟩
theorem finL_len {own : Bool} {ms : List M} {Q : VK} (h : Spec C pv Wx σ Z fs H (PR C) (finL own ms σa) Q) : ms.length ≤ sizeLine := by
  unfold finL at h
  split at h
  · assumption
  · exact h.elim
theorem wipe_in {j : Nat} : ∀ {vs : List Nat}, j ∈ vs → (L2.wipe σ vs)[j]? = if j < σ.length then some none else none
  | v :: vs, h => by
    unfold L2.wipe
    by_cases e : v = j
    · subst e
      by_cases hl : v < σ.length
      · rw [List.getElem?_set_self (by rw [wipe_length]; exact hl), if_pos hl]
      · rw [if_neg hl, List.getElem?_eq_none (by rw [List.length_set, wipe_length]; omega)]
    · rw [List.getElem?_set_ne e]
      exact wipe_in ((List.mem_cons.mp h).resolve_left fun q => e q.symm)
theorem wipe_same {vs ws : List Nat} {σ2 : St} (hv : ∀ j ∈ ws, j ∈ vs) (hl : σ2.length = (L2.wipe σ vs).length) (hk : ∀ j, j ∉ ws → σ2[j]? = (L2.wipe σ vs)[j]?) : L2.wipe σ2 vs = L2.wipe σ vs := by
  rw [wipe_length] at hl
  apply List.ext_getElem?
  intro j
  by_cases hj : j ∈ vs
  · rw [wipe_in hj, wipe_in hj, hl]
  · rw [wipe_out hj]
    exact hk j fun q => hj (hv j q)
theorem wipe_wipe {vs ws : List Nat} (hv : ∀ j ∈ ws, j ∈ vs) : L2.wipe (L2.wipe σ ws) vs = L2.wipe σ vs := by
  apply List.ext_getElem?
  intro j
  by_cases hj : j ∈ vs
  · rw [wipe_in hj, wipe_in hj, wipe_length]
  · rw [wipe_out hj, wipe_out hj, wipe_out fun q => hj (hv j q)]
theorem mk_new {D : Addr} (R : Rel C pv σa σ Z fs H) (hD : H D = none) : Mk C D fs H Z fs (upd H D (.lst [])) [] := by
  refine ⟨[], [], upd_same, .nil, List.nodup_cons.mpr ⟨by simp, List.nodup_nil⟩, fun b hb z => ?_, fun b hb ⟨i, q⟩ => ?_, tk_cons (tk_lst upd_same) fun b hb => (by cases hb), fun b hb => ?_⟩
  · rw [List.mem_singleton.mp hb] at z; exact R.zt D z hD
  · rw [List.mem_singleton.mp hb] at q; exact (R.ft i D q).1 hD
  · rw [List.mem_singleton.mp hb]; exact .inr hD

theorem comp_k {own : Bool} {vs : List Nat} {tg : Tg} {it c e : E} {Q : VK} (hv : ∀ j ∈ tg.vars, j ∈ vs) (h : tE C pv Wx cl (.comp own vs tg it c e) σ H Q) : tLc (tI C pv Wx cl it) (tG C pv tg) (tC C pv Wx0 cl c) (tE C pv Wx0 cl e) vs σ H Q := by
  obtain ⟨σa, Z, fs, R, h⟩ := h
  rw [ev_comp] at h
  refine ⟨σa, Z, fs, R, Spec.bind h fun ts σ0 J Z1 fs1 H1 _ hev R1 e1 _ j1 h1 => ?_⟩
  have h1 := h1.shift e1
  intro D hD
  cases hh : hide vs σ0 with
  | none => rw [hh] at h1; exact h1.elim
  | some σh =>
    rw [hh, onS_some] at h1
    have g0 : Grow Z1 H1 Z1 (upd H1 D (.lst [])) := Grow.new0 R1.zt hD
    refine ⟨fun i m Hc => m = ts.length - i ∧ i ≤ ts.length ∧ ∃ (σc : Sig) (Z' : Zo) (fs' : Fo) (ms : List M), Rel C pv σc (L2.wipe σ vs) Z' fs' Hc ∧ Ext Z1 fs1 H1 Z' fs' Hc ∧ Mk C D fs1 H1 Z' fs' Hc ms ∧
      Spec C pv Wx σ Z1 fs1 H1 (PR C) ((evL (compF cl vs tg c e) (ts.drop i) σc).bind fun ms2 σ => finL own (ms ++ ms2) (PY.back vs σ0 σ)) Q,
      ⟨ts.length, by simp, Nat.zero_le _, σh, Z1, fs1, [], (R1.hide hh).grow g0, g0.ext, mk_new R1 hD, by simpa using h1⟩, ?_⟩
    rintro i m Hc ⟨rfl, hi, σc, Z', fs', ms, Rc, Ec, mk, hs⟩
    by_cases hlt : i < ts.length
    · rw [List.drop_eq_getElem_cons hlt] at hs
      obtain ⟨ms2, σ2, hq, hs⟩ := Spec.evL compF_ex hs
      obtain ⟨a, σd, b, hf, hr, rfl⟩ := evL_cons hq
      obtain ⟨σp, hp, hf⟩ := onS_ok hf
      obtain ⟨bb, σq, hc, hf⟩ := bind_okO (noex_ok hf)
      have hat : ts[i]? = some ts[i] := List.getElem?_eq_getElem hlt
      obtain ⟨go, yl⟩ := (j1 Z' Hc (Ec.later R1) Rc.zt i).1 _ hat
      refine .inr ⟨go, fun H' => ts.length - (i + 1) = ts.length - (i + 1) ∧ i + 1 ≤ ts.length ∧ ∃ (σc : Sig) (Z' : Zo) (fs' : Fo) (ms : List M), Rel C pv σc (L2.wipe σ vs) Z' fs' H' ∧ Ext Z1 fs1 H1 Z' fs' H' ∧ Mk C D fs1 H1 Z' fs' H' ms ∧
        Spec C pv Wx σ Z1 fs1 H1 (PR C) ((evL (compF cl vs tg c e) (ts.drop (i + 1)) σc).bind fun ms2 σ => finL own (ms ++ ms2) (PY.back vs σ0 σ)) Q, fun H' w => ⟨_, by omega, w⟩, fun x H' y => ?_⟩
      obtain ⟨Z2, gr, dx⟩ := yl x H' y
      refine ⟨σc, Z2, fs', ts[i], σp, Rc.grow gr, dx, hp, fun σ3 Rp hl hk => ?_⟩
      have weq := wipe_same hv hl hk
      refine ⟨weq, σp, Z2, fs', Rp, Spec.okd hc fun b' H3 Z3 fs3 F3 R3 e3 s3 p3 => ?_⟩
      subst p3
      have E3 := (Ec.trans gr.ext).trans e3
      have mk3 := (mk.step Rc gr.ext).step Rp e3
      cases b' with
      | true =>
        rw [if_pos rfl]
        unfold keepIf at hf
        rw [if_pos rfl] at hf
        obtain ⟨r, σr, he, hf⟩ := bind_okO hf
        cases hf
        refine ⟨σq, Z3, fs3, R3, Spec.okd he fun v H4 Z4 fs4 F4 R4 e4 s4 p4 => ?_⟩
        obtain ⟨acc, hD4, hlen, R5, _, e5, m5⟩ := Mk.push R3 mk3 E3 R4 e4 s4 p4
        have hlen2 := finL_len hs
        simp only [List.length_append, List.length_cons, List.length_nil] at hlen2
        refine ⟨acc, hD4, by omega, rfl, hlt, wipes vs σr, Z4, fs4, ms ++ [r.m], ?_, e5, m5, ?_⟩
        · have := R5.wipe vs
          rw [weq] at this
          exact this
        · rw [hr, Out.bind_ok, List.append_assoc]
          exact hs
      | false =>
        rw [if_neg (by decide)]
        unfold keepIf at hf
        rw [if_neg (by decide)] at hf
        cases hf
        refine ⟨rfl, hlt, wipes vs σq, Z3, fs3, ms, ?_, E3, mk3, ?_⟩
        · have := R3.wipe vs
          rw [weq] at this
          exact this
        · rw [hr, Out.bind_ok]
          exact hs
    · have he : i = ts.length := by omega
      subst he
      rw [List.drop_length] at hs
      unfold evL at hs
      rw [Out.bind_ok, List.append_nil] at hs
      exact .inl ⟨(j1 Z' Hc (Ec.later R1) Rc.zt ts.length).2 (Nat.le_refl _), Mk.fin hs (R1.back hh Rc Ec) Ec mk⟩
theorem evC_plain {c : E} (h : c ≠ E.none) (σ : Sig) : evC cl c σ = evB cl c σ := by
  cases c <;> first | (exact (h rfl).elim) | (unfold evB; simp only [evC])
theorem sc_nil : PTs X [] (tC C pv Wx cl .none) := ⟨fun pins s σ H Q I ⟨σa, Z, fs, R, h⟩ => pts_nil.run pins s σ H Q I (by
  simp only [evC] at h
  exact h.finB R)⟩
theorem sc_one {c : Expr} {ec : E} (hc : ec ≠ E.none) (h : SE X C pv Wx cl c ec) : PTs X [c] (tC C pv Wx cl ec) := ⟨fun pins s σ H Q I ⟨σa, Z, fs, R, q⟩ => (pts_one h.b).run pins s σ H Q I (by
  rw [evC_plain hc] at q
  exact ⟨σa, Z, fs, R, q⟩)⟩
theorem se_comp {own : Bool} {vs : List (Str × Nat)} {tg : Tg} {it ec e : E} {elt tgx iter : Expr} {ifs : List Expr} {scope : Scope} {pos : Pos} (g : Gd X C n) (hv : ∀ j ∈ tg.vars, j ∈ vs.map (·.2)) (hi : PI X tgx iter (tI C pv Wx cl it)) (ok : BlkOk X.N X.env.scope scope vs)
    (hg : ∀ (s : Shared) (H : Hp) (L : Addr) (cc : List (Str × Addr)) (fp : List Addr), PG (X.blk s H scope (compEnvC scope cc L X.env) fp) tgx (tG C pv tg))
    (ht : ∀ (s : Shared) (H : Hp) (L : Addr) (cc : List (Str × Addr)) (fp : List Addr), PTs (X.blk s H scope (compEnvC scope cc L X.env) fp) ifs (tC C pv Wx0 cl ec))
    (he : ∀ (s : Shared) (H : Hp) (L : Addr) (cc : List (Str × Addr)) (fp : List Addr), SE (X.blk s H scope (compEnvC scope cc L X.env) fp) C pv Wx0 cl elt e) (hs : ∀ x, foldedSetIterable iter X.env x = pure x) :
    SE X C pv Wx cl (.ListComp elt [⟨tgx, iter, ifs, 0⟩] scope pos) (.comp own (vs.map (·.2)) tg it ec e) :=
  .of (pe_imp (pe_lc g.calm g.nd hi ok hg ht (fun s H L cc fp => (he s H L cc fp).v) hs) fun _ _ _ h => comp_k hv h) fun _ => rfl

theorem comp2_k {own : Bool} {vs vs1 : List Nat} {tg tg1 : Tg} {it it1 e : E} {Q : VK} (hv : ∀ j ∈ tg.vars, j ∈ vs) (hv1 : ∀ j ∈ tg1.vars, j ∈ vs1) (hvv : ∀ j ∈ vs1, j ∈ vs) (h : tE C pv Wx cl (.comp2 own vs vs1 tg it tg1 it1 e) σ H Q) :
    tLc2 (tI C pv Wx cl it) (tG C pv tg) tYes (tI C pv Wx0 cl it1) (tG C pv tg1) tYes (tE C pv Wx0 cl e) vs vs1 σ H Q := by
  obtain ⟨σa, Z, fs, R, h⟩ := h
  rw [ev_comp2] at h
  refine ⟨σa, Z, fs, R, Spec.bind h fun ts σ0 J Z1 fs1 H1 _ hev R1 e1 _ j1 h1 => ?_⟩
  have h1 := h1.shift e1
  intro D hD
  cases hh : hide vs σ0 with
  | none => rw [hh] at h1; exact h1.elim
  | some σh =>
    rw [hh, onS_some] at h1
    have g0 : Grow Z1 H1 Z1 (upd H1 D (.lst [])) := Grow.new0 R1.zt hD
    refine ⟨fun i m Hc => m = ts.length - i ∧ i ≤ ts.length ∧ ∃ (σc : Sig) (Z' : Zo) (fs' : Fo) (ms : List M), Rel C pv σc (L2.wipe σ vs) Z' fs' Hc ∧ Ext Z1 fs1 H1 Z' fs' Hc ∧ Mk C D fs1 H1 Z' fs' Hc ms ∧
      Spec C pv Wx σ Z1 fs1 H1 (PR C) ((evL (compF2 cl vs vs1 tg tg1 it1 e) (ts.drop i) σc).bind fun ms2 σ => finL own (ms ++ ms2) (PY.back vs σ0 σ)) Q,
      ⟨ts.length, by simp, Nat.zero_le _, σh, Z1, fs1, [], (R1.hide hh).grow g0, g0.ext, mk_new R1 hD, by simpa using h1⟩, ?_⟩
    rintro i m Hc ⟨rfl, hi, σc, Z', fs', ms, Rc, Ec, mk, hs⟩
    by_cases hlt : i < ts.length
    · rw [List.drop_eq_getElem_cons hlt] at hs
      obtain ⟨ms2, σ2, hq, hs⟩ := Spec.evL compF2_ex hs
      obtain ⟨a, σd, b, hf, hr, rfl⟩ := evL_cons hq
      obtain ⟨σp, hp, hf⟩ := onS_ok hf
      obtain ⟨ts1, σq, hi1, hf⟩ := bind_okO hf
      have hi1 := noex_ok hi1
      obtain ⟨a', σe, hl1, hf⟩ := bind_okO hf
      cases hf
      have hat : ts[i]? = some ts[i] := List.getElem?_eq_getElem hlt
      obtain ⟨go, yl⟩ := (j1 Z' Hc (Ec.later R1) Rc.zt i).1 _ hat
      refine .inr ⟨go, fun H' => ts.length - (i + 1) = ts.length - (i + 1) ∧ i + 1 ≤ ts.length ∧ ∃ (σc : Sig) (Z' : Zo) (fs' : Fo) (ms : List M), Rel C pv σc (L2.wipe σ vs) Z' fs' H' ∧ Ext Z1 fs1 H1 Z' fs' H' ∧ Mk C D fs1 H1 Z' fs' H' ms ∧
        Spec C pv Wx σ Z1 fs1 H1 (PR C) ((evL (compF2 cl vs vs1 tg tg1 it1 e) (ts.drop (i + 1)) σc).bind fun ms2 σ => finL own (ms ++ ms2) (PY.back vs σ0 σ)) Q, fun H' w => ⟨_, by omega, w⟩, fun x H' y => ?_⟩
      obtain ⟨Z2, gr, dx⟩ := yl x H' y
      refine ⟨σc, Z2, fs', ts[i], σp, Rc.grow gr, dx, hp, fun σ3 Rp hl hk => ?_⟩
      have weq := wipe_same hv hl hk
      have E2 := Ec.trans gr.ext
      have mk2 := mk.step Rc gr.ext
      refine ⟨weq, ?_⟩
      show tI C pv Wx0 cl it1 σ3 H' _
      refine ⟨σp, Z2, fs', Rp, Spec.okd hi1 fun J1 H3 Z3 fs3 F3 R3 e3 s3 j3 => ?_⟩
      have E3 := E2.trans e3
      have mk3 := mk2.step Rp e3
      have R3' := R3.wipe vs1
      refine ⟨fun j k Hd => k = ts1.length - j ∧ j ≤ ts1.length ∧ ∃ (σf : Sig) (Z4 : Zo) (fs4 : Fo) (ms4 b4 : List M) (σg : Sig), Rel C pv σf (L2.wipe σ3 vs1) Z4 fs4 Hd ∧ Later Z3 H3 Z4 Hd ∧ Mk C D fs1 H1 Z4 fs4 Hd (ms ++ ms4) ∧ Ext Z1 fs1 H1 Z4 fs4 Hd ∧
        evL (compF1 cl vs1 tg1 e) (ts1.drop j) σf = .ok b4 σg ∧ a = ms4 ++ b4 ∧ σe = σg, ⟨ts1.length, by simp, Nat.zero_le _, wipes vs1 σq, Z3, fs3, [], a, σe, R3', Later.refl, by rw [List.append_nil]; exact mk3, E3, by simpa using hl1, rfl, rfl⟩, ?_⟩
      rintro j k Hd ⟨rfl, hj, σf, Z4, fs4, ms4, b4, σg, R4, E4, mk4, E14, hl4, ha, hg⟩
      subst ha hg
      by_cases hltj : j < ts1.length
      · rw [List.drop_eq_getElem_cons hltj] at hl4
        obtain ⟨c1, σk, c2, hf4, hr4, rfl⟩ := evL_cons hl4
        obtain ⟨σp4, hp4, hf4⟩ := onS_ok hf4
        obtain ⟨r, σr, he4, hf4⟩ := bind_okO (noex_ok hf4)
        cases hf4
        have hat1 : ts1[j]? = some ts1[j] := List.getElem?_eq_getElem hltj
        obtain ⟨go1, yl1⟩ := (j3 Z4 Hd E4 R4.zt j).1 _ hat1
        refine .inr ⟨go1, fun Hd => ts1.length - (j + 1) = ts1.length - (j + 1) ∧ j + 1 ≤ ts1.length ∧ ∃ (σf : Sig) (Z4 : Zo) (fs4 : Fo) (ms4' b4' : List M) (σg : Sig), Rel C pv σf (L2.wipe σ3 vs1) Z4 fs4 Hd ∧ Later Z3 H3 Z4 Hd ∧ Mk C D fs1 H1 Z4 fs4 Hd (ms ++ ms4') ∧ Ext Z1 fs1 H1 Z4 fs4 Hd ∧
          evL (compF1 cl vs1 tg1 e) (ts1.drop (j + 1)) σf = .ok b4' σg ∧ ms4 ++ ([r.m] ++ c2) = ms4' ++ b4' ∧ σe = σg, fun H' w => ⟨_, by omega, w⟩, fun x1 H5 y1 => ?_⟩
        obtain ⟨Z5, gr5, dx5⟩ := yl1 x1 H5 y1
        refine ⟨σf, Z5, fs4, ts1[j], σp4, R4.grow gr5, dx5, hp4, fun σ6 R6 hl6 hk6 => ?_⟩
        have weq6 := wipe_same hv1 hl6 hk6
        refine ⟨weq6, ?_⟩
        show tE C pv Wx0 cl e σ6 H5 _
        have mk5 := mk4.step R4 gr5.ext
        refine ⟨σp4, Z5, fs4, R6, Spec.okd he4 fun v H7 Z7 fs7 F7 R7 e7 s7 p7 => ?_⟩
        obtain ⟨acc, hD7, hlen, R8, l8, e8, m8⟩ := Mk.push R6 mk5 (E14.trans gr5.ext) R7 e7 s7 p7
        have hlen2 := finL_len hs
        simp only [List.length_append, List.length_cons, List.length_nil] at hlen2 hlen
        refine ⟨acc, hD7, by omega, rfl, hltj, wipes vs1 σr, Z7, fs7, ms4 ++ [r.m], c2, σe, ?_, (E4.trans gr5.later).trans l8, by rw [← List.append_assoc]; exact m8, e8, hr4, by simp, rfl⟩
        have := R8.wipe vs1
        rw [weq6] at this
        exact this
      · have hej : j = ts1.length := by omega
        subst hej
        rw [List.drop_length] at hl4
        unfold evL at hl4
        simp only [Out.ok.injEq] at hl4
        obtain ⟨hb4, hσ⟩ := hl4
        subst hb4
        rw [← hσ] at hr
        rw [List.append_nil] at hs
        refine .inl ⟨(j3 Z4 Hd E4 R4.zt ts1.length).2 (Nat.le_refl _), rfl, hlt, wipes vs σf, Z4, fs4, ms ++ ms4, ?_, E14, mk4, ?_⟩
        · have := R4.wipe vs
          rw [wipe_wipe hvv, weq] at this
          exact this
        · rw [hr, Out.bind_ok, List.append_assoc]
          exact hs
    · have he : i = ts.length := by omega
      subst he
      rw [List.drop_length] at hs
      unfold evL at hs
      rw [Out.bind_ok, List.append_nil] at hs
      exact .inl ⟨(j1 Z' Hc (Ec.later R1) Rc.zt ts.length).2 (Nat.le_refl _), Mk.fin hs (R1.back hh Rc Ec) Ec mk⟩
end
end PY
set_option Elab.async false
set_option linter.all false
set_option maxRecDepth 100000
set_option maxHeartbeats 400000
/-! # PySound12: statements -/
namespace PY
open PySem L2

def FlS (C : Pl) (pv : V) (Wx : WX) (Z : Zo) (fs : Fo) (H : Hp) (D : Ends) : Fl → Prop
  | .fail => False
  | .nx σa => ∀ (σ' : St) (H' : Hp) (Z' : Zo) (fs' : Fo), Rel C pv σa σ' Z' fs' H' → Ext Z fs H Z' fs' H' → D.nx σ' H'
  | .bk σa => ∀ (σ' : St) (H' : Hp) (Z' : Zo) (fs' : Fo), Rel C pv σa σ' Z' fs' H' → Ext Z fs H Z' fs' H' → D.bk σ' H'
  | .ct σa => ∀ (σ' : St) (H' : Hp) (Z' : Zo) (fs' : Fo), Rel C pv σa σ' Z' fs' H' → Ext Z fs H Z' fs' H' → D.ct σ' H'
  | .rt r σa => ∀ (v : V) (σ' : St) (H' : Hp) (Z' : Zo) (fs' : Fo) (F : List Addr), Rel C pv σa σ' Z' fs' H' → Ext Z fs H Z' fs' H' → Sep F fs H Z' fs' H' → ROk C Z' H' v F r → D.rt v H'
  | .ex c t σa => ∀ (d : Option Addr) (σ' : St) (H' : Hp) (Z' : Zo) (fs' : Fo), Rel C pv σa σ' Z' fs' H' → Ext Z fs H Z' fs' H' → ExcP C c t d Z' H' → Wx (.ref (C.ca c)) d σ' H'
def tS (C : Pl) (pv : V) (Wx : WX) (cl : Nat → List W → Out R) (b : S) : TS := fun D σ H => ∃ (σa : Sig) (Z : Zo) (fs : Fo), Rel C pv σa σ Z fs H ∧ FlS C pv Wx Z fs H D (evS cl b σa)

theorem ps_imp {X : Cx} {e : Stmt} {t t' : TS} (h : PS X e t) (k : ∀ D σ H, t' D σ H → t D σ H) : PS X e t' := ⟨fun pins s σ H D I q => h.run pins s σ H D I (k D σ H q)⟩
theorem pss_imp {X : Cx} {e : List Stmt} {t t' : TS} (h : PSs X e t) (k : ∀ D σ H, t' D σ H → t D σ H) : PSs X e t' := ⟨fun pins s σ H D I q => h.run pins s σ H D I (k D σ H q)⟩

section
variable {X : Cx} {C : Pl} {pv : V} {Wx : WX} {cl : Nat → List W → Out R} {ex : Expr} {e : E} {σ σ' : St} {Z Z1 Z2 : Zo} {fs fs1 fs2 : Fo} {H H1 H2 : Hp} {σa σb σ1 : Sig} {n : Nat} {D : Ends} {o : Fl}

theorem FlS.shift (x : Ext Z fs H Z1 fs1 H1) (h : FlS C pv Wx Z fs H D o) : FlS C pv Wx Z1 fs1 H1 D o := by
  cases o with
  | fail => exact h
  | nx s => exact fun σ' H' Z' fs' R y => h σ' H' Z' fs' R (x.trans y)
  | bk s => exact fun σ' H' Z' fs' R y => h σ' H' Z' fs' R (x.trans y)
  | ct s => exact fun σ' H' Z' fs' R y => h σ' H' Z' fs' R (x.trans y)
  | rt r s => exact fun v σ' H' Z' fs' F R y s p => h v σ' H' Z' fs' F R (x.trans y) (s.from x) p
  | ex c t s => exact fun d σ' H' Z' fs' R y p => h d σ' H' Z' fs' R (x.trans y) p
theorem FlS.bind {α β : Type} {P : Zo → Hp → β → List Addr → α → Prop} {o : Out α} {f : α → Sig → Fl} {Q' : β → Hp → Prop} (h : FlS C pv Wx Z fs H D (o.fl f))
    (k : ∀ (r : α) (σ1 : Sig) (b : β) (Z1 : Zo) (fs1 : Fo) (H1 : Hp) (F : List Addr), o = .ok r σ1 → Rel C pv σ1 σ Z1 fs1 H1 → Ext Z fs H Z1 fs1 H1 → Sep F fs H Z1 fs1 H1 → P Z1 H1 b F r → FlS C pv Wx Z fs H D (f r σ1) → Q' b H1) : Spec C pv Wx σ Z fs H P o Q' := by
  cases o with
  | fail => exact h
  | ok r σb => exact fun b H' Z' fs' F R x s p => k r σb b Z' fs' H' F rfl R x s p h
  | ex c t σb => exact fun d H' Z' fs' R x p => h d σ H' Z' fs' R x p
theorem FlS.bindT {o : Out R} {f : R → Sig → Fl} {Q' : V → Hp → Prop} (h : FlS C pv Wx Z fs H D (o.fl f))
    (k : ∀ (r : R) (σ1 : Sig) (v : V) (Z1 : Zo) (fs1 : Fo) (H1 : Hp), o = .ok r σ1 → Rel C pv σ1 σ Z1 fs1 H1 → Ext Z fs H Z1 fs1 H1 → Den C Z1 H1 v r.t → FlS C pv Wx Z1 fs1 H1 D (f r σ1) → Q' v H1) : Spec C pv Wx σ Z fs H (PR C) o Q' :=
  h.bind fun r σ1 v Z1 fs1 H1 F e R x s p q => by
    obtain ⟨Z2, R2, x2, _, d⟩ := settle (σ' := σ) R x s p
    exact k r σ1 v Z2 fs1 H1 e R2 x2 d (q.shift x2)
theorem FlS.thn {f : Sig → Fl} {N : St → Hp → Prop} (h : FlS C pv Wx Z fs H D (o.thn f)) (k : ∀ (σ1 : Sig) (σ' : St) (Z' : Zo) (fs' : Fo) (H' : Hp), o = .nx σ1 → Rel C pv σ1 σ' Z' fs' H' → FlS C pv Wx Z' fs' H' D (f σ1) → N σ' H') : FlS C pv Wx Z fs H { D with nx := N } o := by
  cases o with
  | fail => exact h
  | nx s => exact fun σ' H' Z' fs' R y => k s σ' Z' fs' H' rfl R (h.shift y)
  | bk s => exact h
  | ct s => exact h
  | rt r s => exact h
  | ex c t s => exact h
theorem FlS.loop {g : Sig → Fl} {N : St → Hp → Prop} (h : FlS C pv Wx Z fs H D (loopF o g)) (k : ∀ (σ1 : Sig) (σ' : St) (Z' : Zo) (fs' : Fo) (H' : Hp), Rel C pv σ1 σ' Z' fs' H' → Ext Z fs H Z' fs' H' → FlS C pv Wx Z' fs' H' D (g σ1) → N σ' H') : FlS C pv Wx Z fs H { D with nx := N, ct := N, bk := D.nx } o := by
  cases o with
  | fail => exact h
  | nx s => exact fun σ' H' Z' fs' R y => k s σ' Z' fs' H' R y (h.shift y)
  | ct s => exact fun σ' H' Z' fs' R y => k s σ' Z' fs' H' R y (h.shift y)
  | bk s => exact h
  | rt r s => exact h
  | ex c t s => exact h

/-! ### blocks, small statements -/
theorem ss_nil : PSs X [] (tS C pv Wx cl .nil) := pss_imp pss_nil fun D σ H ⟨σa, Z, fs, R, h⟩ => by
  simp only [evS] at h
  exact h σ H Z fs R .refl
theorem ss_cons {st : Stmt} {rest : List Stmt} {a b : S} (h1 : PS X st (tS C pv Wx cl a)) (h2 : PSs X rest (tS C pv Wx cl b)) : PSs X (st :: rest) (tS C pv Wx cl (.seq a b)) := by
  refine pss_imp (pss_cons h1 h2) fun D σ H ⟨σa, Z, fs, R, h⟩ => ⟨σa, Z, fs, R, ?_⟩
  simp only [evS] at h
  exact FlS.thn (N := tS C pv Wx cl b D) h fun σ1 σ' Z' fs' H' _ R' h' => ⟨σ1, Z', fs', R', h'⟩
theorem ps_nilNext {st : Stmt} (h : PS X st tNext) : PS X st (tS C pv Wx cl .pass) := ps_imp h fun D σ H ⟨σa, Z, fs, R, h⟩ => by
  simp only [evS] at h
  exact h σ H Z fs R .refl
theorem ss_pass {pos : Pos} : PS X (.Pass pos) (tS C pv Wx cl .pass) := ps_nilNext ps_pass
theorem ss_doc {x j pos pos'} : PS X (.Expr (.Constant (.str x) j pos) pos') (tS C pv Wx cl .pass) := ps_nilNext ps_doc
theorem ss_brk {pos : Pos} : PS X (.Break pos) (tS C pv Wx cl .brk) := ps_imp ps_break fun D σ H ⟨σa, Z, fs, R, h⟩ => by
  simp only [evS] at h
  exact h σ H Z fs R .refl
theorem ss_cnt {pos : Pos} : PS X (.Continue pos) (tS C pv Wx cl .cnt) := ps_imp ps_continue fun D σ H ⟨σa, Z, fs, R, h⟩ => by
  simp only [evS] at h
  exact h σ H Z fs R .refl
theorem ss_expr {pos : Pos} (he : SE X C pv Wx cl ex e) (hs : swapsWith ex none pos.line X.env = pure false) : PS X (.Expr ex pos) (tS C pv Wx cl (.expr e)) := by
  refine ps_imp (ps_expr he.v hs) fun D σ H ⟨σa, Z, fs, R, h⟩ => ⟨σa, Z, fs, R, ?_⟩
  simp only [evS] at h
  exact h.bind fun r σ1 v Z1 fs1 H1 F _ R1 x _ _ q => q σ H1 Z1 fs1 R1 x
theorem ss_ret {pos : Pos} (he : SE X C pv Wx cl ex e) : PS X (.Return (some ex) pos) (tS C pv Wx cl (.ret e)) := by
  refine ps_imp (ps_ret he.v) fun D σ H ⟨σa, Z, fs, R, h⟩ => ⟨σa, Z, fs, R, ?_⟩
  simp only [evS] at h
  exact h.bind fun r σ1 v Z1 fs1 H1 F _ R1 x s p q => q v σ H1 Z1 fs1 F R1 x s p
theorem ss_retN {pos : Pos} : PS X (.Return none pos) (tS C pv Wx cl .retN) := ps_imp ps_retN fun D σ H ⟨σa, Z, fs, R, h⟩ => by
  simp only [evS] at h
  exact h .non σ H Z fs [] R .refl .nil .non
theorem ss_never {st : Stmt} : PS X st (tS C pv Wx cl .never) := ps_imp ps_never fun D σ H ⟨σa, Z, fs, R, h⟩ => by
  simp only [evS] at h
  exact h
theorem ss_if {c : Expr} {ec : E} {a b : List Stmt} {sa sb : S} {pos : Pos} (hc : SE X C pv Wx cl c ec) (ha : PSs X a (tS C pv Wx cl sa)) (hb : PSs X b (tS C pv Wx cl sb)) : PS X (.If c a b pos) (tS C pv Wx cl (.iff ec sa sb)) := by
  refine ps_imp (ps_if hc.b ha hb) fun D σ H ⟨σa, Z, fs, R, h⟩ => ⟨σa, Z, fs, R, ?_⟩
  simp only [evS] at h
  rw [evB_eq]
  cases hr : ev cl ec σa with
  | fail => rw [hr] at h; exact h
  | ex c v s => rw [hr] at h; exact fun d H' Z' fs' R' x p => h d σ H' Z' fs' R' x p
  | ok r s =>
    rw [hr] at h
    simp only [Out.fl_ok, iffF] at h
    simp only [Out.bind_ok, PY.R.bool]
    cases ht : r.t with
    | bl b =>
      rw [ht] at h
      intro b' H' Z' fs' F R' x _ p
      subst p
      cases b' with
      | true => exact ⟨s, Z', fs', R', h.shift x⟩
      | false => exact ⟨s, Z', fs', R', h.shift x⟩
    | _ => rw [ht] at h; exact h.elim

/-! ### names are given values -/
theorem ROk.ofM {v : V} {m : M} {F : List Addr} (h : Own C Z H v m F) : ROk C Z H v F m.r := by
  cases m with
  | fr t => cases h with | fr d => exact d
  | _ => exact h
theorem put_some {i : Nat} {r : R} (h : put i r σa = some σb) : i < σa.length ∧ (∀ m, σa[i]? ≠ some (some (.io m))) ∧ σb = σa.set i (some r.w) := by
  unfold put at h
  split at h
  · cases h
  · rename_i o ho hn
    refine ⟨(List.getElem?_eq_some_iff.mp ‹σa[i]? = some o›).1, fun m q => ?_, (Option.some.inj h).symm⟩
    rw [q] at hn
    cases hn
    exact ho m rfl
  · cases h
theorem Rel.putR {i : Nat} {v : V} {r : R} {F : List Addr} (R : Rel C pv σa σ Z1 fs1 H1) (x : Ext Z fs H Z1 fs1 H1) (s : Sep F fs H Z1 fs1 H1) (p : ROk C Z1 H1 v F r) (h : put i r σa = some σb) :
    ∃ fs2, Rel C pv σb (σ.set i (some v)) Z1 fs2 H1 ∧ Ext Z fs H Z1 fs2 H1 ∧ ∀ a, InF fs2 a → InF fs1 a ∨ a ∈ F := by
  cases r with
  | val t => exact ⟨fs1, R.putV p h, x, fun a h => .inl h⟩
  | own m =>
    obtain ⟨hi, _, rfl⟩ := put_some h
    have hi' : i < σ.length := by rw [← R.len]; exact hi
    have up : ∀ {j a}, a ∈ upF fs1 i F j → (j = i ∧ a ∈ F) ∨ (j ≠ i ∧ a ∈ fs1 j) := fun {j a} h => by
      by_cases e : j = i
      · rw [e, upF_eq] at h; exact .inl ⟨e, h⟩
      · rw [upF_ne e] at h; exact .inr ⟨e, h⟩
    refine ⟨upF fs1 i F, ⟨by rw [List.length_set, List.length_set]; exact R.len, fun j w hj => ?_, fun j => ?_, fun j k a ha hb => ?_, fun j a ha z => ?_, R.zt, fun j a ha => ?_⟩, ⟨x.keep, x.tup, x.frz, x.zm, x.zn, fun a ha => ?_⟩, fun a ha => (inF_set ha).symm⟩
    · by_cases hji : i = j
      · subst hji
        rw [List.getElem?_set_self hi] at hj
        cases hj
        exact ⟨v, List.getElem?_set_self hi', by rw [upF_eq]; exact p⟩
      · rw [List.getElem?_set_ne hji] at hj
        obtain ⟨u, q1, q2⟩ := R.sl j w hj
        exact ⟨u, by rw [List.getElem?_set_ne hji]; exact q1, by rw [upF_ne (Ne.symm hji)]; exact q2⟩
    · by_cases e : j = i
      · rw [e, upF_eq]; exact s.nd
      · rw [upF_ne e]; exact R.nd j
    · rcases up ha with ⟨e1, a1⟩ | ⟨e1, a1⟩ <;> rcases up hb with ⟨e2, a2⟩ | ⟨e2, a2⟩
      · rw [e1, e2]
      · exact (s.df a a1 ⟨k, a2⟩).elim
      · exact (s.df a a2 ⟨j, a1⟩).elim
      · exact R.dj j k a a1 a2
    · rcases up ha with ⟨_, a1⟩ | ⟨_, a1⟩
      · exact s.dz a a1 z
      · exact R.dz j a a1 z
    · rcases up ha with ⟨_, a1⟩ | ⟨_, a1⟩
      · exact s.tr a a1
      · exact R.ft j a a1
    · rcases inF_set ha with a1 | a1
      · exact s.nw a a1
      · exact x.fn a a1
theorem ss_set {i : Nat} {x : Str} {pos pos' : Pos} (hN : X.N.Nodup) (hi : X.N[i]? = some x) (hx : Loc X.env.scope x) (he : SE X C pv Wx cl ex e) (hs : swapsWith ex (some (.Name x pos')) pos.line X.env = pure false) (hf : X.fn x = true ∨ X.env.scope.names.lookup x = some .local) :
    PS X (.Assign [.Name x pos'] ex pos) (tS C pv Wx cl (.set i e)) := by
  refine ps_imp (ps_set hN hi hx he.v hs hf) fun D σ H ⟨σa, Z, fs, R, h⟩ => ⟨σa, Z, fs, R, ?_⟩
  simp only [evS] at h
  refine h.bind fun r σ1 v Z1 fs1 H1 F _ R1 x s p q => ?_
  cases hp : put i r σ1 with
  | none => rw [hp] at q; exact q.elim
  | some σb =>
    rw [hp] at q
    obtain ⟨fs2, R2, x2, _⟩ := R1.putR x s p hp
    exact q _ H1 Z1 fs2 R2 x2
def borIf : Bool → E → E
  | true, e => .bor e
  | false, e => e
theorem tE_borIf {b : Bool} {Q : VK} (h : tE C pv Wx cl (borIf b e) σ H Q) : tE C pv Wx cl e σ H Q := by
  cases b
  · exact h
  · exact tE_bor h
/-- .. by a comprehension on one line -/
theorem ss_setLc {bo : Bool} {i : Nat} {y : Str} {py : Pos} {own : Bool} {vs : List (Str × Nat)} {tg : Tg} {it ec e : E} {elt tgx iter : Expr} {ifs : List Expr} {scope : Scope} {pos spos : Pos} (g : Gd X C n) (hv : ∀ j ∈ tg.vars, j ∈ vs.map (·.2)) (hy : X.N[i]? = some y) (hyl : X.env.scope.names.lookup y = some .local)
    (hsw : swapsWith (.ListComp elt [⟨tgx, iter, ifs, 0⟩] scope pos) (some (.Name y py)) spos.line X.env = pure true) (hi : PI X tgx iter (tI C pv Wx cl it)) (ok : BlkOk X.N X.env.scope scope vs)
    (hg : ∀ (s : Shared) (H : Hp) (L : Addr) (cc : List (Str × Addr)) (fp : List Addr), PG (X.blk s H scope (compEnvC scope cc L X.env) fp) tgx (tG C pv tg))
    (ht : ∀ (s : Shared) (H : Hp) (L : Addr) (cc : List (Str × Addr)) (fp : List Addr), PTs (X.blk s H scope (compEnvC scope cc L X.env) fp) ifs (tC C pv Wx0 cl ec))
    (he : ∀ (s : Shared) (H : Hp) (L : Addr) (cc : List (Str × Addr)) (fp : List Addr), SE (X.blk s H scope (compEnvC scope cc L X.env) fp) C pv Wx0 cl elt e) (hs : ∀ x, foldedSetIterable iter X.env x = pure x) :
    PS X (.Assign [.Name y py] (.ListComp elt [⟨tgx, iter, ifs, 0⟩] scope pos) spos) (tS C pv Wx cl (.set i (borIf bo (.comp own (vs.map (·.2)) tg it ec e)))) := by
  refine ps_imp (ps_setLc g.calm g.nd hy hyl hsw hi ok hg ht (fun s H L cc fp => (he s H L cc fp).v) hs) fun D σ H ⟨σa, Z, fs, R, h⟩ => ?_
  refine comp_k (own := own) hv (tE_borIf (b := bo) ⟨σa, Z, fs, R, ?_⟩)
  unfold evS at h
  refine h.bind fun r σ1 v Z1 fs1 H1 F _ R1 x s p q => ?_
  cases hp : put i r σ1 with
  | none => rw [hp] at q; exact q.elim
  | some σb =>
    rw [hp] at q
    obtain ⟨fs2, R2, x2, _⟩ := R1.putR x s p hp
    exact q _ H1 Z1 fs2 R2 x2
theorem ss_setLc2 {bo : Bool} {i : Nat} {y : Str} {py : Pos} {own : Bool} {vs : List (Str × Nat)} {vs1 : List Nat} {tg tg1 : Tg} {it it1 e : E} {elt tgx iter tgx1 iter1 : Expr} {scope : Scope} {pos spos : Pos} (g : Gd X C n) (hv : ∀ j ∈ tg.vars, j ∈ vs.map (·.2)) (hv1 : ∀ j ∈ tg1.vars, j ∈ vs1) (hvv : ∀ j ∈ vs1, j ∈ vs.map (·.2)) (hy : X.N[i]? = some y) (hyl : X.env.scope.names.lookup y = some .local)
    (hsw : swapsWith (.ListComp elt [⟨tgx, iter, [], 0⟩, ⟨tgx1, iter1, [], 0⟩] scope pos) (some (.Name y py)) spos.line X.env = pure true) (hi : PI X tgx iter (tI C pv Wx cl it)) (ok : BlkOk X.N X.env.scope scope vs)
    (hg : ∀ (s : Shared) (H : Hp) (L : Addr) (cc : List (Str × Addr)) (fp : List Addr), PG (X.blk s H scope (compEnvC scope cc L X.env) fp) tgx (tG C pv tg))
    (hi1 : ∀ (s : Shared) (H : Hp) (L : Addr) (cc : List (Str × Addr)) (fp : List Addr), PI (X.blk s H scope (compEnvC scope cc L X.env) fp) tgx1 iter1 (tI C pv Wx0 cl it1))
    (hg1 : ∀ (s : Shared) (H : Hp) (L : Addr) (cc : List (Str × Addr)) (fp : List Addr), PG (X.blk s H scope (compEnvC scope cc L X.env) fp) tgx1 (tG C pv tg1))
    (he : ∀ (s : Shared) (H : Hp) (L : Addr) (cc : List (Str × Addr)) (fp : List Addr), SE (X.blk s H scope (compEnvC scope cc L X.env) fp) C pv Wx0 cl elt e) (hs : ∀ x, foldedSetIterable iter X.env x = pure x) (hs1 : ∀ env x, foldedSetIterable iter1 env x = pure x) :
    PS X (.Assign [.Name y py] (.ListComp elt [⟨tgx, iter, [], 0⟩, ⟨tgx1, iter1, [], 0⟩] scope pos) spos) (tS C pv Wx cl (.set i (borIf bo (.comp2 own (vs.map (·.2)) vs1 tg it tg1 it1 e)))) := by
  refine ps_imp (ps_setLc2 g.calm g.nd hy hyl hsw hi ok hvv hg (fun _ _ _ _ _ => pts_nil) hi1 hg1 (fun _ _ _ _ _ => pts_nil) (fun s H L cc fp => (he s H L cc fp).v) hs hs1) fun D σ H ⟨σa, Z, fs, R, h⟩ => ?_
  refine comp2_k (own := own) hv hv1 hvv (tE_borIf (b := bo) ⟨σa, Z, fs, R, ?_⟩)
  unfold evS at h
  refine h.bind fun r σ1 v Z1 fs1 H1 F _ R1 x s p q => ?_
  cases hp : put i r σ1 with
  | none => rw [hp] at q; exact q.elim
  | some σb =>
    rw [hp] at q
    obtain ⟨fs2, R2, x2, _⟩ := R1.putR x s p hp
    exact q _ H1 Z1 fs2 R2 x2
theorem se_comp2 {own : Bool} {vs : List (Str × Nat)} {vs1 : List Nat} {tg tg1 : Tg} {it it1 e : E} {elt tgx iter tgx1 iter1 : Expr} {scope : Scope} {pos : Pos} (g : Gd X C n) (hv : ∀ j ∈ tg.vars, j ∈ vs.map (·.2)) (hv1 : ∀ j ∈ tg1.vars, j ∈ vs1) (hvv : ∀ j ∈ vs1, j ∈ vs.map (·.2))
    (hi : PI X tgx iter (tI C pv Wx cl it)) (ok : BlkOk X.N X.env.scope scope vs)
    (hg : ∀ (s : Shared) (H : Hp) (L : Addr) (cc : List (Str × Addr)) (fp : List Addr), PG (X.blk s H scope (compEnvC scope cc L X.env) fp) tgx (tG C pv tg))
    (hi1 : ∀ (s : Shared) (H : Hp) (L : Addr) (cc : List (Str × Addr)) (fp : List Addr), PI (X.blk s H scope (compEnvC scope cc L X.env) fp) tgx1 iter1 (tI C pv Wx0 cl it1))
    (hg1 : ∀ (s : Shared) (H : Hp) (L : Addr) (cc : List (Str × Addr)) (fp : List Addr), PG (X.blk s H scope (compEnvC scope cc L X.env) fp) tgx1 (tG C pv tg1))
    (he : ∀ (s : Shared) (H : Hp) (L : Addr) (cc : List (Str × Addr)) (fp : List Addr), SE (X.blk s H scope (compEnvC scope cc L X.env) fp) C pv Wx0 cl elt e) (hs : ∀ x, foldedSetIterable iter X.env x = pure x) (hs1 : ∀ env x, foldedSetIterable iter1 env x = pure x) :
    SE X C pv Wx cl (.ListComp elt [⟨tgx, iter, [], 0⟩, ⟨tgx1, iter1, [], 0⟩] scope pos) (.comp2 own (vs.map (·.2)) vs1 tg it tg1 it1 e) :=
  .of (pe_imp (pe_lc2 g.calm g.nd hi ok hvv hg (fun _ _ _ _ _ => pts_nil) hi1 hg1 (fun _ _ _ _ _ => pts_nil) (fun s H L cc fp => (he s H L cc fp).v) hs hs1) fun _ _ _ h => comp2_k hv hv1 hvv h) fun _ => rfl

/-! ### loops -/
theorem ss_for {tg : Tg} {tgx iter : Expr} {it : E} {body : List Stmt} {b : S} {pos : Pos} (g : Gd X C n) (hp : PassesOwn (model X.prog X.w) X.A X.env X.xe) (hi : PI X tgx iter (tI C pv Wx cl it)) (hg : PG X tgx (tG C pv tg)) (hb : PSs X body (tS C pv Wx cl b)) (hs : ∀ x, foldedSetIterable iter X.env x = pure x) :
    PS X (.For tgx iter body [] pos) (tS C pv Wx cl (.for tg it b)) := by
  refine ps_imp (ps_for hp g.calm hi hg hb hs) fun D σ H ⟨σa, Z, fs, R, h⟩ => ⟨σa, Z, fs, R, ?_⟩
  simp only [evS] at h
  refine h.bind fun ts σ0 J Z1 fs1 H1 _ _ R1 x1 _ j1 h1 => ?_
  have h1 := h1.shift x1
  refine ⟨fun i m σc Hc => m = ts.length - i ∧ i ≤ ts.length ∧ ∃ (σd : Sig) (Z' : Zo) (fs' : Fo), Rel C pv σd σc Z' fs' Hc ∧ Later Z1 H1 Z' Hc ∧ FlS C pv Wx Z' fs' Hc D (evF (fun t σ => onF (tg.put t σ) fun σ => evS cl b σ) (ts.drop i) σd), ⟨ts.length, by simp, Nat.zero_le _, σ0, Z1, fs1, R1, .refl, h1⟩, ?_⟩
  rintro i m σc Hc ⟨rfl, hi, σd, Z', fs', Rc, lc, hf⟩
  by_cases hlt : i < ts.length
  · rw [List.drop_eq_getElem_cons hlt] at hf
    unfold evF at hf
    have hat : ts[i]? = some ts[i] := List.getElem?_eq_getElem hlt
    obtain ⟨go, yl⟩ := (j1 Z' Hc lc Rc.zt i).1 _ hat
    refine .inr ⟨go, fun σc Hc => ts.length - (i + 1) = ts.length - (i + 1) ∧ i + 1 ≤ ts.length ∧ ∃ (σd : Sig) (Z' : Zo) (fs' : Fo), Rel C pv σd σc Z' fs' Hc ∧ Later Z1 H1 Z' Hc ∧ FlS C pv Wx Z' fs' Hc D (evF (fun t σ => onF (tg.put t σ) fun σ => evS cl b σ) (ts.drop (i + 1)) σd), fun σ' H' w => ⟨_, by omega, w⟩, fun xv H2 y => ?_⟩
    obtain ⟨Z2, gr, dx⟩ := yl xv H2 y
    cases hput : tg.put ts[i] σd with
    | none => rw [hput] at hf; exact hf.elim
    | some σp =>
      rw [hput, onF_some] at hf
      refine ⟨σd, Z2, fs', ts[i], σp, Rc.grow gr, dx, hput, fun σ3 R3 _ _ => ⟨σp, Z2, fs', R3, ?_⟩⟩
      refine FlS.loop (hf.shift gr.ext) fun σ4 σ' Z4 fs4 H4 R4 x4 h4 => ⟨rfl, hlt, σ4, Z4, fs4, R4, ?_, h4⟩
      exact (lc.trans gr.later).trans (x4.later R3)
  · have he : i = ts.length := by omega
    subst he
    rw [List.drop_length] at hf
    unfold evF at hf
    exact .inl ⟨(j1 Z' Hc lc Rc.zt ts.length).2 (Nat.le_refl _), hf σc Hc Z' fs' Rc .refl⟩
theorem ss_while {c : Expr} {ec : E} {body : List Stmt} {b : S} {pos : Pos} (hp : PassesOwn (model X.prog X.w) X.A X.env X.xe) (hc : SE X C pv Wx cl c ec) (hb : PSs X body (tS C pv Wx cl b)) : PS X (.While c body [] pos) (tS C pv Wx cl (.while ec b)) := by
  refine ps_imp (ps_while hp hc.b hb) fun D σ H ⟨σa, Z, fs, R, h⟩ => ?_
  simp only [evS] at h
  refine ⟨fun m σc Hc => ∃ (σd : Sig) (Z' : Zo) (fs' : Fo), Rel C pv σd σc Z' fs' Hc ∧ FlS C pv Wx Z' fs' Hc D (evW (ev cl ec) (evS cl b) m σd), ⟨fuel, σa, Z, fs, R, h⟩, ?_⟩
  rintro m σc Hc ⟨σd, Z', fs', Rc, hf⟩
  cases m with
  | zero => exact hf.elim
  | succ m =>
    unfold evW at hf
    refine ⟨σd, Z', fs', Rc, ?_⟩
    rw [evB_eq]
    cases hr : ev cl ec σd with
    | fail => rw [hr] at hf; exact hf
    | ex c v s => rw [hr] at hf; exact fun d H' Z' fs' R' x p => hf d σc H' Z' fs' R' x p
    | ok r s =>
      rw [hr] at hf
      simp only [Out.fl_ok, iffF] at hf
      simp only [Out.bind_ok, PY.R.bool]
      cases ht : r.t with
      | bl b =>
        rw [ht] at hf
        intro b' H' Z2 fs2 F R' x _ p
        subst p
        cases b' with
        | true =>
          rw [if_pos rfl]
          refine ⟨fun σ' H' => ∃ (σd : Sig) (Z' : Zo) (fs' : Fo), Rel C pv σd σ' Z' fs' H' ∧ FlS C pv Wx Z' fs' H' D (evW (ev cl ec) (evS cl _) m σd), fun σ' H' w => ⟨m, Nat.lt_succ_self m, w⟩, s, Z2, fs2, R', ?_⟩
          exact FlS.loop (hf.shift x) fun σ4 σ' Z4 fs4 H4 R4 x4 h4 => ⟨σ4, Z4, fs4, R4, h4⟩
        | false =>
          rw [if_neg (by decide)]
          exact hf σc H' Z2 fs2 R' x
      | _ => rw [ht] at hf; exact hf.elim
end
end PY
set_option Elab.async false
set_option linter.all false
set_option maxRecDepth 100000
set_option maxHeartbeats 400000
/-! # PySound13: several targets; writing into a slot's data -/
namespace PY
open PySem L2

def setAll : List Nat → List V → St → St
  | i :: is, v :: vs, σ => setAll is vs (σ.set i (some v))
  | _, _, σ => σ
def tGn (is : List Nat) : TGs := fun vs σ H Q => vs.length = is.length ∧ Q (setAll is vs σ) H

section
variable {X : Cx} {C : Pl} {pv : V} {Wx : WX} {cl : Nat → List W → Out R} {ex : Expr} {e : E} {σ σ' : St} {Z Z1 Z2 : Zo} {fs fs1 fs2 : Fo} {H H1 H2 : Hp} {σa σb σ1 : Sig} {n : Nat} {D : Ends} {o : Fl}

theorem sgn_nil : PGs X [] (tGn []) := pgs_imp pgs_nil fun vs σ H Q ⟨hl, q⟩ => by
  cases vs with
  | nil => exact ⟨rfl, q⟩
  | cons v vs => simp at hl
theorem sgn_cons {i : Nat} {is : List Nat} {x : Str} {p : Pos} {es : List Expr} (hN : X.N.Nodup) (hi : X.N[i]? = some x) (hx : Loc X.env.scope x) (hf : X.fn x = true ∨ X.env.scope.names.lookup x = some .local) (h : PGs X es (tGn is))
    (hs : (assignEach (.Name x p :: es) X.env).map (·.2) = assign (.Name x p) X.env :: (assignEach es X.env).map (·.2)) : PGs X (.Name x p :: es) (tGn (i :: is)) := by
  refine pgs_imp (pgs_cons (pg_name hN hi hx hf) h hs) fun vs σ H Q ⟨hl, q⟩ => ?_
  cases vs with
  | nil => simp at hl
  | cons v vs => exact ⟨v, vs, rfl, by simpa using hl, q⟩
theorem Rel.putsM : ∀ {is : List Nat} {vs : List V} {ms : List M} {F : List Addr} {fs1 : Fo} {σa σb : Sig} {σ : St}, Rel C pv σa σ Z1 fs1 H1 → Ext Z fs H Z1 fs1 H1 → Sep F fs H Z1 fs1 H1 → OwnL C Z1 H1 vs ms F → PY.putsM is ms σa = some σb →
    vs.length = is.length ∧ ∃ fs2, Rel C pv σb (setAll is vs σ) Z1 fs2 H1 ∧ Ext Z fs H Z1 fs2 H1
  | [], _, [], _, fs1, σa, σb, σ, R, x, s, ol, h => by
    cases ol
    simp only [PY.putsM, Option.some.injEq] at h
    subst h
    exact ⟨rfl, fs1, R, x⟩
  | [], _, _ :: _, _, _, _, _, _, _, _, _, _, h => by simp [PY.putsM] at h
  | _ :: _, _, [], _, _, _, _, _, _, _, _, _, h => by simp [PY.putsM] at h
  | i :: is, _, m :: ms, _, fs1, σa, σb, σ, R, x, s, ol, h => by
    cases ol with
    | @cons v vs _ _ F G a b =>
      simp only [PY.putsM, Option.bind_eq_some_iff] at h
      obtain ⟨σc, h1, h2⟩ := h
      have nd := List.nodup_append.mp s.nd
      have sF : Sep F fs H Z1 fs1 H1 := s.sub (fun a ha => List.mem_append_left _ ha) nd.1
      obtain ⟨fs2, R2, x2, hf⟩ := R.putR x sF (ROk.ofM a) h1
      have sG : Sep G fs H Z1 fs2 H1 := ⟨nd.2.1, fun a ha => s.dz a (List.mem_append_right _ ha), fun a ha q => (hf a q).elim (s.df a (List.mem_append_right _ ha)) fun q => nd.2.2 a q a ha rfl, fun a ha => s.tr a (List.mem_append_right _ ha), fun a ha => s.nw a (List.mem_append_right _ ha)⟩
      obtain ⟨hl, fs3, R3, x3⟩ := Rel.putsM R2 x2 sG b h2
      exact ⟨by simp [hl], fs3, R3, x3⟩
theorem denL_frs : ∀ {vs : List V} {ts : List T}, DenL C Z H vs ts → OwnL C Z H vs (ts.map M.fr) []
  | _, _, .nil => .nil
  | _, _, .cons a b => .cons (F := []) (G := []) (.fr a) (denL_frs b)
/-- a tuple's parts -/
theorem parts_ok {K : PySem.W.Frag} (hK : C.K = K) {v : V} {r : R} {F : List Addr} {ms : List M} (p : ROk C Z H v F r) (s : F.Nodup) (h : r.parts = some ms) : ∃ a xs G, v = .ref a ∧ SqT K H a xs ∧ OwnL C Z H xs ms G ∧ (∀ a ∈ G, a ∈ F) ∧ G.Nodup := by
  cases r with
  | val t =>
    cases t with
    | tup ts =>
      simp only [PY.R.parts, Option.some.injEq] at h
      subst h
      cases p with
      | tup hq dl => exact ⟨_, _, [], rfl, by rw [← hK]; exact hq, denL_frs dl, fun a h => (by cases h), List.nodup_nil⟩
    | _ => simp [PY.R.parts] at h
  | own m =>
    cases m with
    | tup ms' =>
      simp only [PY.R.parts, Option.some.injEq] at h
      subst h
      cases p with
      | tup hq dl => exact ⟨_, _, F, rfl, by rw [← hK]; exact hq, dl, fun a h => h, s⟩
    | _ => simp [PY.R.parts] at h
theorem ss_setT {is : List Nat} {es : List Expr} {k : Nat} {pt pos : Pos} (g : Gd X C n) (he : SE X C pv Wx cl ex e) (hg : PGs X es (tGn is)) (hn : (assignEach es X.env).length = is.length) (hst : (assignEach es X.env).findIdx? (·.1) = none)
    (hs : swapsWithSole [.Tuple es k pt] ex pos.line X.env = pure false) (hw : swappedStores [.Tuple es k pt] ex X.env = pure none) (h1 : (assignEach [.Tuple es k pt] X.env).map (·.2) = [assign (.Tuple es k pt) X.env]) :
    PS X (.Assign [.Tuple es k pt] ex pos) (tS C pv Wx cl (.setT is e)) := by
  refine ps_imp (ps_asg he.v (pg_tup g.calm hg hn hst) hs hw h1) fun D σ H ⟨σa, Z, fs, R, h⟩ => ⟨σa, Z, fs, R, ?_⟩
  simp only [evS] at h
  refine h.bind fun r σ1 v Z1 fs1 H1 F _ R1 x s p q => ?_
  cases hp : r.parts with
  | none => rw [hp] at q; exact q.elim
  | some ms =>
    rw [hp, Option.bind_some] at q
    obtain ⟨a, xs, G, rfl, hq, ol, hG, nG⟩ := parts_ok g.hK p s.nd hp
    cases hb : putsM is ms σ1 with
    | none => rw [hb] at q; exact q.elim
    | some σb =>
      rw [hb] at q
      obtain ⟨hl, fs2, R2, x2⟩ := Rel.putsM R1 x (s.sub hG nG) ol hb
      exact ⟨a, xs, rfl, hq, hl, hl, q _ H1 Z1 fs2 R2 x2⟩
theorem ss_par2 {i j : Nat} {x y : Str} {a b : Expr} {es : E} {px py pt : Pos} {kt k2 pt2} {pos : Pos} (g : Gd X C n) (hi : X.N[i]? = some x) (hj : X.N[j]? = some y) (hij : i ≠ j)
    (hx : X.env.scope.names.lookup x = some .local) (hy : X.env.scope.names.lookup y = some .local) (ha : PA X [a, b] (tM C pv Wx cl es))
    (hw : swappedStores [.Tuple [.Name x px, .Name y py] kt pt] (.Tuple [a, b] k2 pt2) X.env = pure (some [x, y])) (hs : swapsWithSole [.Tuple [.Name x px, .Name y py] kt pt] (.Tuple [a, b] k2 pt2) pos.line X.env = pure false) :
    PS X (.Assign [.Tuple [.Name x px, .Name y py] kt pt] (.Tuple [a, b] k2 pt2) pos) (tS C pv Wx cl (.par [i, j] es)) := by
  refine ps_imp (ps_par g.calm g.nd hi hj hij hx hy ha hw hs) fun D σ H ⟨σa, Z, fs, R, h⟩ => ⟨σa, Z, fs, R, ?_⟩
  simp only [evS] at h
  refine h.bind fun ms σ1 vs Z1 fs1 H1 F _ R1 x s p q => ?_
  cases hb : putsM [i, j] ms σ1 with
  | none => rw [hb] at q; exact q.elim
  | some σb =>
    rw [hb] at q
    obtain ⟨hl, fs2, R2, x2⟩ := Rel.putsM R1 x s p hb
    match vs, hl with
    | [v, w], _ => exact ⟨v, w, rfl, q _ H1 Z1 fs2 R2 x2⟩
theorem ss_par3 {i j l : Nat} {x y z : Str} {a b c : Expr} {es : E} {px py pz pt : Pos} {kt k2 pt2} {pos : Pos} (g : Gd X C n) (hi : X.N[i]? = some x) (hj : X.N[j]? = some y) (hl : X.N[l]? = some z) (hij : i ≠ j) (hil : i ≠ l) (hjl : j ≠ l)
    (hx : X.env.scope.names.lookup x = some .local) (hy : X.env.scope.names.lookup y = some .local) (hz : X.env.scope.names.lookup z = some .local) (ha : PA X [a, b, c] (tM C pv Wx cl es))
    (hp : PS X (.Assign [.Tuple [.Name x px, .Name y py, .Name z pz] kt pt] (.Tuple [a, b, c] k2 pt2) pos) (fun D σ H => tM C pv Wx cl es σ H fun vs H1 => ∃ u v w, vs = [u, v, w] ∧ D.nx (((σ.set i (some u)).set j (some v)).set l (some w)) H1)) :
    PS X (.Assign [.Tuple [.Name x px, .Name y py, .Name z pz] kt pt] (.Tuple [a, b, c] k2 pt2) pos) (tS C pv Wx cl (.par [i, j, l] es)) := by
  refine ps_imp hp fun D σ H ⟨σa, Z, fs, R, h⟩ => ⟨σa, Z, fs, R, ?_⟩
  simp only [evS] at h
  refine h.bind fun ms σ1 vs Z1 fs1 H1 F _ R1 x s p q => ?_
  cases hb : putsM [i, j, l] ms σ1 with
  | none => rw [hb] at q; exact q.elim
  | some σb =>
    rw [hb] at q
    obtain ⟨hl, fs2, R2, x2⟩ := Rel.putsM R1 x s p hb
    match vs, hl with
    | [u, v, w], _ => exact ⟨u, v, w, rfl, q _ H1 Z1 fs2 R2 x2⟩

/-! ### writing -/
theorem upS_some {i : Nat} {f : M → Option M} (h : upS i f σa = some σb) : ∃ m m', f m = some m' ∧ ((σa[i]? = some (some (.own m)) ∧ σb = σa.set i (some (.own m'))) ∨ (σa[i]? = some (some (.io m)) ∧ σb = σa.set i (some (.io m')))) := by
  unfold upS at h
  split at h
  · rename_i m hm
    simp only [Option.map_eq_some_iff] at h
    obtain ⟨m', h1, h2⟩ := h
    exact ⟨m, m', h1, .inl ⟨hm, h2.symm⟩⟩
  · rename_i m hm
    simp only [Option.map_eq_some_iff] at h
    obtain ⟨m', h1, h2⟩ := h
    exact ⟨m, m', h1, .inr ⟨hm, h2.symm⟩⟩
  · cases h
theorem Rel.slotM {i : Nat} {m : M} (R : Rel C pv σa σ Z1 fs1 H1) (h : σa[i]? = some (some (.own m)) ∨ σa[i]? = some (some (.io m))) : ∃ v, σ[i]? = some (some v) ∧ Own C Z1 H1 v m (fs1 i) ∧ (σa[i]? = some (some (.io m)) → v = pv) := by
  rcases h with h | h
  · obtain ⟨v, e, q⟩ := R.sl i _ h
    refine ⟨v, e, q, fun h' => ?_⟩
    rw [h] at h'
    cases h'
  · obtain ⟨v, e, q⟩ := R.sl i _ h
    exact ⟨v, e, q.1, fun _ => q.2⟩
/-- the heap changes at p, which is the slot's own: the slot's data is now m' -/
theorem Rel.write {i : Nat} {p : Addr} {o' : HO} {u : V} {m m' : M} {F G : List Addr} (R : Rel C pv σa σ Z1 fs1 H1) (x : Ext Z fs H Z1 fs1 H1) (s : Sep F fs H Z1 fs1 H1) (hp : p ∈ fs1 i) (hu : σ[i]? = some (some u)) (hpv : σa[i]? = some (some (.io m)) → u = pv)
    (h : (σa[i]? = some (some (.own m)) ∧ σb = σa.set i (some (.own m'))) ∨ (σa[i]? = some (some (.io m)) ∧ σb = σa.set i (some (.io m'))))
    (hG : ∀ a ∈ G, a ∈ fs1 i ∨ a ∈ F) (nG : G.Nodup) (ow : Own C Z1 (upd H1 p o') u m' G) (tk : Tk (upd H1 p o') p) :
    Rel C pv σb σ Z1 (upF fs1 i G) (upd H1 p o') ∧ Ext Z fs H Z1 (upF fs1 i G) (upd H1 p o') := by
  have ne : ∀ {b}, b ≠ p → upd H1 p o' b = H1 b := fun hb => upd_ne hb
  have nz : ∀ b, Z1 b → b ≠ p := fun b z q => R.dz i p hp (by rw [← q]; exact z)
  have tp := R.ft i p hp
  have kt : ∀ b xs, H1 b = some (.tup xs) → upd H1 p o' b = some (.tup xs) := fun b xs q => by rw [ne (fun z => by rw [z] at q; exact tp.2.1 _ q)]; exact q
  have kf : ∀ b o u, H1 b = some (.frz o u) → upd H1 p o' b = some (.frz o u) := fun b o u q => by rw [ne (fun z => by rw [z] at q; exact tp.2.2 _ _ q)]; exact q
  have l : Later Z1 H1 Z1 (upd H1 p o') := ⟨fun _ z => z, fun b u z q => by rw [ne (nz b z)]; exact q, kt, kf⟩
  have tkk : ∀ b, Tk H1 b → Tk (upd H1 p o') b := fun b t => by
    by_cases hb : b = p
    · rw [hb]; exact tk
    · unfold Tk; rw [ne hb]; exact t
  have np : ∀ {j b}, j ≠ i → b ∈ fs1 j → b ≠ p := fun {j b} hj hb q => hj (R.dj j i b hb (by rw [q]; exact hp))
  have hi : i < σa.length := by rcases h with ⟨h, _⟩ | ⟨h, _⟩ <;> exact (List.getElem?_eq_some_iff.mp h).1
  have up : ∀ {j a}, a ∈ upF fs1 i G j → (j = i ∧ (a ∈ fs1 i ∨ a ∈ F)) ∨ (j ≠ i ∧ a ∈ fs1 j) := fun {j a} h => by
    by_cases e : j = i
    · rw [e, upF_eq] at h; exact .inl ⟨e, hG a h⟩
    · rw [upF_ne e] at h; exact .inr ⟨e, h⟩
  have len : σb.length = σa.length := by rcases h with ⟨_, h⟩ | ⟨_, h⟩ <;> rw [h, List.length_set]
  refine ⟨⟨by rw [len]; exact R.len, fun j w hj => ?_, fun j => ?_, fun j k a ha hb => ?_, fun j a ha z => ?_, fun a z => by rw [ne (nz a z)]; exact R.zt a z, fun j a ha => tkk a ?_⟩,
    ⟨fun b o q n => ?_, fun b xs q => kt b xs (x.tup b xs q), fun b o u q => kf b o u (x.frz b o u q), x.zm, x.zn, fun a ha => ?_⟩⟩
  · by_cases hji : i = j
    · subst hji
      rcases h with ⟨h1, h2⟩ | ⟨h1, h2⟩
      · rw [h2, List.getElem?_set_self hi] at hj
        cases hj
        exact ⟨u, hu, by rw [upF_eq]; exact ow⟩
      · rw [h2, List.getElem?_set_self hi] at hj
        cases hj
        exact ⟨u, hu, by rw [upF_eq]; exact ⟨ow, hpv h1⟩⟩
    · have hj' : σa[j]? = some (some w) := by
        rcases h with ⟨_, h2⟩ | ⟨_, h2⟩ <;> (rw [h2, List.getElem?_set_ne hji] at hj; exact hj)
      obtain ⟨v, q1, q2⟩ := R.sl j w hj'
      refine ⟨v, q1, ?_⟩
      rw [upF_ne (Ne.symm hji)]
      exact q2.later l fun b hb o q => by rw [ne (np (Ne.symm hji) hb)]; exact q
  · by_cases e : j = i
    · rw [e, upF_eq]; exact nG
    · rw [upF_ne e]; exact R.nd j
  · rcases up ha with ⟨e1, a1⟩ | ⟨e1, a1⟩ <;> rcases up hb with ⟨e2, a2⟩ | ⟨e2, a2⟩
    · rw [e1, e2]
    · rcases a1 with a1 | a1
      · exact (e2 (R.dj k i a a2 a1)).elim
      · exact (s.df a a1 ⟨k, a2⟩).elim
    · rcases a2 with a2 | a2
      · exact (e1 (R.dj j i a a1 a2)).elim
      · exact (s.df a a2 ⟨j, a1⟩).elim
    · exact R.dj j k a a1 a2
  · rcases up ha with ⟨_, a1 | a1⟩ | ⟨_, a1⟩
    · exact R.dz i a a1 z
    · exact s.dz a a1 z
    · exact R.dz j a a1 z
  · rcases up ha with ⟨_, a1 | a1⟩ | ⟨_, a1⟩
    · exact R.ft i a a1
    · exact s.tr a a1
    · exact R.ft j a a1
  · refine (ne fun z => ?_).trans (x.keep b o q n)
    rcases x.fn p ⟨i, hp⟩ with w | w
    · exact n (by rw [z]; exact w)
    · rw [z, w] at q; cases q
  · rcases inF_set ha with a1 | a1
    · rcases hG a a1 with a1 | a1
      · exact x.fn a ⟨i, a1⟩
      · exact s.nw a a1
    · exact x.fn a a1
theorem OwnL.set : ∀ {vs : List V} {ms : List M} {F : List Addr} {j : Nat} {v : V} {m : M} {G : List Addr}, OwnL C Z H vs ms F → j < ms.length → Own C Z H v m G → ∃ A Fj B, F = A ++ (Fj ++ B) ∧ OwnL C Z H (vs.set j v) (ms.set j m) (A ++ (G ++ B))
  | _, _, _, _, _, _, _, .nil, h, _ => by simp at h
  | _, _, _, 0, v, m, G, @OwnL.cons _ _ _ _ _ _ _ F B a b, _, o => ⟨[], F, B, rfl, show OwnL C Z H _ _ (G ++ B) from .cons o b⟩
  | _, _, _, j + 1, v, m, G, @OwnL.cons _ _ _ _ _ _ _ F _ a b, h, o => by
    obtain ⟨A, Fj, B, rfl, q⟩ := b.set (j := j) (by simpa using h) o
    refine ⟨F ++ A, Fj, B, by simp, ?_⟩
    have := OwnL.cons a q
    rw [← List.append_assoc] at this
    exact this
theorem kix_drop : ∀ {ks : List Ky} {k : Ky} {j : Nat}, kix ks k = some j → ks[j]? = some k ∧ ∀ i < j, ks[i]? ≠ some k
  | [], _, _, h => by simp [kix] at h
  | k' :: ks, k, j, h => by
    simp only [kix] at h
    split at h
    · rename_i e
      cases h
      exact ⟨by simp [e], fun i hi => by omega⟩
    · rename_i e
      simp only [Option.map_eq_some_iff] at h
      obtain ⟨j', h1, rfl⟩ := h
      obtain ⟨h2, h3⟩ := kix_drop h1
      refine ⟨by simpa using h2, fun i hi => ?_⟩
      cases i with
      | zero => simpa using e
      | succ i => simpa using h3 i (by omega)
theorem kix_none : ∀ {ks : List Ky} {k : Ky}, kix ks k = none → k ∉ ks
  | [], _, _ => by simp
  | k' :: ks, k, h => by
    simp only [kix] at h
    split at h
    · cases h
    · rename_i e
      rw [Option.map_eq_none_iff] at h
      simp only [List.mem_cons, not_or]
      exact ⟨fun q => e q.symm, kix_none h⟩
theorem putK_same (k : Ky) (v : V) : ∀ {ks : List Ky} {xs : List V}, k ∉ ks → (ks.zip xs).map (fun kv => if kv.1 = k then (kv.1, v) else kv) = ks.zip xs
  | [], _, _ => by simp
  | _ :: _, [], _ => by simp
  | k' :: ks, x :: xs, h => by
    simp only [List.mem_cons, not_or] at h
    rw [List.zip_cons_cons, List.map_cons, putK_same k v h.2, if_neg (fun q => h.1 q.symm)]
theorem putK_old {ks : List Ky} {xs : List V} {k : Ky} {v : V} {j : Nat} (hl : ks.length = xs.length) (h : kix ks k = some j) (hu : kix (ks.drop (j + 1)) k = none) : putK (ks.zip xs) k v = ks.zip (xs.set j v) := by
  have hs : (valV (ks.zip xs) k).isSome = true := by rw [valV_some hl, h]; rfl
  unfold putK
  rw [valV_any, hs, if_pos rfl]
  have go : ∀ {ks : List Ky} {xs : List V} {j : Nat}, ks.length = xs.length → kix ks k = some j → kix (ks.drop (j + 1)) k = none → (ks.zip xs).map (fun kv => if kv.1 = k then (kv.1, v) else kv) = ks.zip (xs.set j v) := by
    intro ks
    induction ks with
    | nil => intro xs j _ h _; simp [kix] at h
    | cons k' ks ih =>
      intro xs j hl h hu
      cases xs with
      | nil => simp at hl
      | cons x xs =>
        simp only [kix] at h
        split at h
        · rename_i e
          cases h
          rw [List.zip_cons_cons, List.map_cons, if_pos e, putK_same k v (kix_none (by simpa using hu))]
          rfl
        · rename_i e
          simp only [Option.map_eq_some_iff] at h
          obtain ⟨j', h1, rfl⟩ := h
          rw [List.zip_cons_cons, List.map_cons, if_neg e, ih (by simpa using hl) h1 (by simpa using hu)]
          rfl
  exact go hl h hu
theorem putK_end {ks : List Ky} {xs : List V} {k : Ky} {v : V} (hl : ks.length = xs.length) (h : kix ks k = none) : putK (ks.zip xs) k v = (ks ++ [k]).zip (xs ++ [v]) := by
  have hs : valV (ks.zip xs) k = none := by rw [valV_kix hl, h]; rfl
  rw [putK_new v hs, List.zip_append hl]
  rfl
theorem nd3 {A Fj B G : List Addr} (h : (A ++ (Fj ++ B)).Nodup) (n : G.Nodup) (d : ∀ a ∈ G, a ∉ A ++ (Fj ++ B)) : (A ++ (G ++ B)).Nodup := by
  obtain ⟨h1, h2, h3⟩ := List.nodup_append.mp h
  obtain ⟨h4, h5, h6⟩ := List.nodup_append.mp h2
  refine List.nodup_append.mpr ⟨h1, List.nodup_append.mpr ⟨n, h5, fun a ha b hb q => ?_⟩, fun a ha b hb q => ?_⟩
  · subst q; exact d a ha (List.mem_append_right _ (List.mem_append_right _ hb))
  · subst q
    rcases List.mem_append.mp hb with hb | hb
    · exact d a hb (List.mem_append_left _ ha)
    · exact h3 a ha a (List.mem_append_right _ hb) rfl
/-- a place in owned data is given a value -/
theorem own_putIx {v : V} {m m' x : M} {k : T} {vk vx : V} {F G : List Addr} (o : Own C Z H v m F) (nF : F.Nodup) (nG : G.Nodup) (dG : ∀ a ∈ G, a ∉ F) (tG : ∀ a ∈ G, H a ≠ none) (dz : ∀ a ∈ F, ¬ Z a) (tF : ∀ a ∈ F, Tk H a) (h : M.putIx k x m = some m') (dk : Den C Z H vk k) (ox : Own C Z H vx x G) :
    ∃ p o' F', v = .ref p ∧ p ∈ F ∧ (rSetL v vk vx H (· = upd H p o') ∨ rSetD v vk vx H (· = upd H p o')) ∧ Own C Z (upd H p o') v m' F' ∧ (∀ a ∈ F', a ∈ F ∨ a ∈ G) ∧ F'.Nodup ∧ Tk (upd H p o') p := by
  have later : ∀ {p : Addr} {o' : HO}, p ∈ F → Later Z H Z (upd H p o') := fun {p o'} hp => ⟨fun _ z => z, fun b u z q => by rw [upd_ne (fun w => dz p hp (by rw [← w]; exact z))]; exact q,
    fun b xs q => by rw [upd_ne (fun w => by rw [w] at q; exact (tF p hp).2.1 _ q)]; exact q, fun b u w q => by rw [upd_ne (fun e => by rw [e] at q; exact (tF p hp).2.2 _ _ q)]; exact q⟩
  cases o with
  | fr d => simp [M.putIx] at h
  | tup hq ol => simp [M.putIx] at h
  | @lst p xs ms F0 hq ol =>
    obtain ⟨np, nF0⟩ := List.nodup_cons.mp nF
    cases k with
    | int i =>
      simp only [M.putIx, Option.map_eq_some_iff] at h
      obtain ⟨j, hj, rfl⟩ := h
      cases dk
      have hj' := hj
      have hjl : j < ms.length := (ixN_seq hj).2.1
      have lt := later (o' := .lst (xs.set j vx)) List.mem_cons_self
      have kp : ∀ b, b ≠ p → ∀ u, H b = some u → upd H p (.lst (xs.set j vx)) b = some u := fun b hb u q => by rw [upd_ne hb]; exact q
      have ol' : OwnL C Z (upd H p (.lst (xs.set j vx))) xs ms F0 := ol.later lt fun a ha => kp a fun q => np (by rw [← q]; exact ha)
      have ox' : Own C Z (upd H p (.lst (xs.set j vx))) vx x G := ox.later lt fun a ha => kp a fun q => dG a ha (by rw [q]; exact List.mem_cons_self)
      obtain ⟨A, Fj, B, rfl, q⟩ := ol'.set hjl ox'
      refine ⟨p, .lst (xs.set j vx), p :: (A ++ (G ++ B)), rfl, List.mem_cons_self, .inl ⟨p, xs, i, j, rfl, rfl, hq, by rw [ol.length]; exact hj, rfl⟩, .lst upd_same q, fun a ha => ?_, List.nodup_cons.mpr ⟨fun hp => ?_, nd3 nF0 nG fun a ha hb => dG a ha (List.mem_cons_of_mem _ hb)⟩, tk_lst upd_same⟩
      · rcases List.mem_cons.mp ha with rfl | ha
        · exact .inl List.mem_cons_self
        · rcases List.mem_append.mp ha with ha | ha
          · exact .inl (List.mem_cons_of_mem _ (List.mem_append_left _ ha))
          · rcases List.mem_append.mp ha with ha | ha
            · exact .inr ha
            · exact .inl (List.mem_cons_of_mem _ (List.mem_append_right _ (List.mem_append_right _ ha)))
      · rcases List.mem_append.mp hp with hp | hp
        · exact np (List.mem_append_left _ hp)
        · rcases List.mem_append.mp hp with hp | hp
          · exact dG p hp List.mem_cons_self
          · exact np (List.mem_append_right _ (List.mem_append_right _ hp))
    | _ => simp [M.putIx] at h
  | @dK p ks xs ms F0 hq hl ol =>
    obtain ⟨np, nF0⟩ := List.nodup_cons.mp nF
    simp only [M.putIx] at h
    cases hk : keyOf k with
    | none => rw [hk] at h; cases h
    | some ky =>
      rw [hk] at h
      simp only at h
      have hkv : vk = kV ky := keyOf_kV hk dk
      have hzl : (ks.zip xs).length = ks.length := by rw [List.length_zip]; omega
      cases hx : kix ks ky with
      | some j =>
        rw [hx] at h
        simp only at h
        split at h
        · rename_i hh
          cases h
          have hjl : j < ms.length := by have := kix_lt hx; rw [← ol.length]; omega
          have lt := later (o' := .dK (ks.zip (xs.set j vx))) List.mem_cons_self
          have kp : ∀ b, b ≠ p → ∀ u, H b = some u → upd H p (.dK (ks.zip (xs.set j vx))) b = some u := fun b hb u q => by rw [upd_ne hb]; exact q
          have ol' : OwnL C Z (upd H p (.dK (ks.zip (xs.set j vx)))) xs ms F0 := ol.later lt fun a ha => kp a fun q => np (by rw [← q]; exact ha)
          have ox' : Own C Z (upd H p (.dK (ks.zip (xs.set j vx)))) vx x G := ox.later lt fun a ha => kp a fun q => dG a ha (by rw [q]; exact List.mem_cons_self)
          obtain ⟨A, Fj, B, rfl, q⟩ := ol'.set hjl ox'
          refine ⟨p, .dK (ks.zip (xs.set j vx)), p :: (A ++ (G ++ B)), rfl, List.mem_cons_self, .inr ⟨p, _, rfl, .inl ⟨_, ky, hq, hkv, by rw [hzl]; exact hh.1, by rw [putK_old hl hx hh.2]⟩, rfl⟩, .dK upd_same (by rw [List.length_set]; exact hl) q, fun a ha => ?_, List.nodup_cons.mpr ⟨fun hp => ?_, nd3 nF0 nG fun a ha hb => dG a ha (List.mem_cons_of_mem _ hb)⟩, tk_dK upd_same⟩
          · rcases List.mem_cons.mp ha with rfl | ha
            · exact .inl List.mem_cons_self
            · rcases List.mem_append.mp ha with ha | ha
              · exact .inl (List.mem_cons_of_mem _ (List.mem_append_left _ ha))
              · rcases List.mem_append.mp ha with ha | ha
                · exact .inr ha
                · exact .inl (List.mem_cons_of_mem _ (List.mem_append_right _ (List.mem_append_right _ ha)))
          · rcases List.mem_append.mp hp with hp | hp
            · exact np (List.mem_append_left _ hp)
            · rcases List.mem_append.mp hp with hp | hp
              · exact dG p hp List.mem_cons_self
              · exact np (List.mem_append_right _ (List.mem_append_right _ hp))
        · cases h
      | none =>
        rw [hx] at h
        simp only at h
        split at h
        · rename_i hh
          cases h
          have lt := later (o' := .dK ((ks ++ [ky]).zip (xs ++ [vx]))) List.mem_cons_self
          have kp : ∀ b, b ≠ p → ∀ u, H b = some u → upd H p (.dK ((ks ++ [ky]).zip (xs ++ [vx]))) b = some u := fun b hb u q => by rw [upd_ne hb]; exact q
          refine ⟨p, .dK ((ks ++ [ky]).zip (xs ++ [vx])), p :: (F0 ++ G), rfl, List.mem_cons_self, .inr ⟨p, _, rfl, .inl ⟨_, ky, hq, hkv, by rw [hzl]; exact hh, by rw [putK_end hl hx]⟩, rfl⟩, .dK upd_same (by simp [hl])
            (OwnL.snoc (ol.later lt fun a ha => kp a fun q => np (by rw [← q]; exact ha)) (ox.later lt fun a ha => kp a fun q => dG a ha (by rw [q]; exact List.mem_cons_self))), fun a ha => ?_, List.nodup_cons.mpr ⟨fun hp => ?_, List.nodup_append.mpr ⟨nF0, nG, fun a ha b hb q => by subst q; exact dG a hb (List.mem_cons_of_mem _ ha)⟩⟩, tk_dK upd_same⟩
          · rcases List.mem_cons.mp ha with rfl | ha
            · exact .inl List.mem_cons_self
            · rcases List.mem_append.mp ha with ha | ha
              · exact .inl (List.mem_cons_of_mem _ ha)
              · exact .inr ha
          · rcases List.mem_append.mp hp with hp | hp
            · exact np hp
            · exact dG p hp List.mem_cons_self
        · cases h
end
end PY
set_option Elab.async false
set_option linter.all false
set_option maxRecDepth 100000
set_option maxHeartbeats 400000
/-! # PySound14: x[k] = e, x.append(e); the body of a def -/
namespace PY
open PySem L2

section
variable {X : Cx} {C : Pl} {pv : V} {Wx : WX} {cl : Nat → List W → Out R} {ex : Expr} {e : E} {σ σ' : St} {Z Z1 Z2 : Zo} {fs fs1 fs2 : Fo} {H H1 H2 : Hp} {σa σb σ1 : Sig} {n : Nat} {D : Ends} {o : Fl}

def rSetA : TSet := fun o i v H Q => rSetL o i v H Q ∨ rSetD o i v H Q
theorem set_A (hu : X.A.units + 1 < cLine) : PSet X rSetA := fun pins s σ H o i v ov iv u Q I ro ri rv h => by
  rcases h with h | h
  · exact set_list pins s σ H o i v ov iv u Q I ro ri rv h
  · exact set_dict hu pins s σ H o i v ov iv u Q I ro ri rv h
theorem setA_mono {o i v : V} {Q Q' : Hp → Prop} (h : rSetL o i v H Q ∨ rSetD o i v H Q) (k : ∀ H', Q H' → Q' H') : rSetA o i v H Q' := by
  rcases h with ⟨p, xs, kk, j, e1, e2, e3, e4, q⟩ | ⟨a, H', e1, e2, q⟩
  · exact .inl ⟨p, xs, kk, j, e1, e2, e3, e4, k _ q⟩
  · exact .inr ⟨a, H', e1, e2, k _ q⟩
theorem slotT_some {i : Nat} (h : (slotT σa[i]?).isSome = true) : ∃ w, σa[i]? = some (some w) := by
  cases hq : σa[i]? with
  | none => rw [hq] at h; cases h
  | some o => cases o with
    | none => rw [hq] at h; cases h
    | some w => exact ⟨w, rfl⟩
theorem ss_setIx {i : Nat} {x : Str} {kx : Expr} {k : E} {px pos pos' : Pos} {n : Nat} (g : Gd X C n) (hN : X.N[i]? = some x) (hv : Vis X.env.scope x) (hd : (x == ("__debug__" : Str)) = false) (hcd : (x == ("__classdict__" : Str)) = false)
    (hk : SE X C pv Wx cl kx k) (he : SE X C pv Wx cl ex e) (ha : ∀ v, assign (.Subscript (.Name x px) kx pos') X.env v = (do
      let ov ← holding [v] (eval (.Name x px) X.env)
      let iv ← holding [v, ov] (eval kx X.env)
      standAt pos'
      holding [v, ov, iv] (setItem ov iv v)
      release [v, ov, iv] [])) (hs : swapsWithSole [.Subscript (.Name x px) kx pos'] ex pos.line X.env = pure false) (hw : swappedStores [.Subscript (.Name x px) kx pos'] ex X.env = pure none) (h1 : (assignEach [.Subscript (.Name x px) kx pos'] X.env).map (·.2) = [assign (.Subscript (.Name x px) kx pos') X.env]) :
    PS X (.Assign [.Subscript (.Name x px) kx pos'] ex pos) (tS C pv Wx cl (.setIx i k e)) := by
  refine ps_imp (ps_asg he.v (pg_sub (pe_var hN hv hd hcd) hk.v (set_A g.h1) ha) hs hw h1) fun D σ H ⟨σa, Z, fs, R, h⟩ => ⟨σa, Z, fs, R, ?_⟩
  simp only [evS] at h
  have h0 := h
  refine h.bind fun r σ1 v Z1 fs1 H1 F hev R1 x1 s1 p1 h1 => ?_
  split at h1
  · rename_i hsl
    obtain ⟨w, hw⟩ := slotT_some hsl
    obtain ⟨u, hu, _⟩ := R1.sl i w hw
    refine ⟨u, hu, σ1, Z1, fs1, R1, (h1.shift x1).bindT fun kr σ2 kv Z2 fs2 H2 hev2 R2 x2 d2 _ => ?_⟩
    rw [hev2, Out.fl_ok] at h1
    cases hup : upS i (M.putIx kr.t r.m) σ2 with
    | none => rw [hup] at h1; exact h1.elim
    | some σb =>
      rw [hup] at h1
      obtain ⟨m, m', hm, hcase⟩ := upS_some hup
      have hor : σ2[i]? = some (some (.own m)) ∨ σ2[i]? = some (some (.io m)) := hcase.imp (·.1) (·.1)
      obtain ⟨u', hu', ow, hpv⟩ := R2.slotM hor
      rw [hu] at hu'
      cases hu'
      obtain ⟨G, og, hG, nG⟩ := ROk.own p1 (.inr trivial)
      have sG := s1.sub hG (nG s1.nd)
      have og2 := own_step R1 sG x2 og
      have sG2 := sG.step x2
      obtain ⟨p, o', F', rfl, hpF, hset, ow', hF', nF', tk'⟩ := own_putIx ow (R2.nd i) sG2.nd (fun a ha q => sG2.df a ha ⟨i, q⟩) (fun a ha => (sG2.tr a ha).1) (R2.dz i) (R2.ft i) hm d2 og2
      refine setA_mono hset fun H' e => ?_
      subst e
      obtain ⟨R3, x3⟩ := R2.write (x1.trans x2) sG2 hpF hu hpv hcase hF' nF' ow' tk'
      exact h1 σ _ Z2 _ R3 x3
  · exact h1.elim
theorem isL_ok {i : Nat} (R : Rel C pv σa σ Z fs H) (h : isL σa[i]? = true) : ∃ p xs ms, σ[i]? = some (some (.ref p)) ∧ H p = some (.lst xs) ∧ (σa[i]? = some (some (.own (.lst ms))) ∨ σa[i]? = some (some (.io (.lst ms)))) := by
  unfold isL at h
  split at h
  · rename_i ms hq
    obtain ⟨v, e, q⟩ := R.sl i _ hq
    have q : Own C Z H v (.lst ms) (fs i) := q
    generalize fs i = F at q
    cases q with
    | lst h1 _ => exact ⟨_, _, ms, e, h1, .inl hq⟩
  · rename_i ms hq
    obtain ⟨v, e, q, _⟩ := R.sl i _ hq
    have q : Own C Z H v (.lst ms) (fs i) := q
    generalize fs i = F at q
    cases q with
    | lst h1 _ => exact ⟨_, _, ms, e, h1, .inr hq⟩
  · cases h
theorem own_app {v : V} {m m' x : M} {vx : V} {F G : List Addr} (o : Own C Z H v m F) (nF : F.Nodup) (nG : G.Nodup) (dG : ∀ a ∈ G, a ∉ F) (dz : ∀ a ∈ F, ¬ Z a) (tF : ∀ a ∈ F, Tk H a) (h : M.app x m = some m') (ox : Own C Z H vx x G) :
    ∃ p xs F', v = .ref p ∧ p ∈ F ∧ H p = some (.lst xs) ∧ xs.length < sizeLine ∧ Own C Z (upd H p (.lst (xs ++ [vx]))) v m' F' ∧ (∀ a ∈ F', a ∈ F ∨ a ∈ G) ∧ F'.Nodup ∧ Tk (upd H p (.lst (xs ++ [vx]))) p := by
  cases o with
  | fr d => simp [M.app] at h
  | tup hq ol => simp [M.app] at h
  | dK hq hl ol => simp [M.app] at h
  | @lst p xs ms F0 hq ol =>
    obtain ⟨np, nF0⟩ := List.nodup_cons.mp nF
    simp only [M.app] at h
    split at h
    · rename_i hh
      cases h
      have hp : p ∈ p :: F0 := List.mem_cons_self
      have lt : Later Z H Z (upd H p (.lst (xs ++ [vx]))) := ⟨fun _ z => z, fun b u z q => by rw [upd_ne (fun w => dz p hp (by rw [← w]; exact z))]; exact q,
        fun b xs q => by rw [upd_ne (fun w => by rw [w] at q; exact (tF p hp).2.1 _ q)]; exact q, fun b u w q => by rw [upd_ne (fun e => by rw [e] at q; exact (tF p hp).2.2 _ _ q)]; exact q⟩
      have kp : ∀ b, b ≠ p → ∀ u, H b = some u → upd H p (.lst (xs ++ [vx])) b = some u := fun b hb u q => by rw [upd_ne hb]; exact q
      refine ⟨p, xs, p :: (F0 ++ G), rfl, hp, hq, by rw [ol.length]; exact hh, .lst upd_same (OwnL.snoc (ol.later lt fun a ha => kp a fun q => np (by rw [← q]; exact ha)) (ox.later lt fun a ha => kp a fun q => dG a ha (by rw [q]; exact hp))), fun a ha => ?_,
        List.nodup_cons.mpr ⟨fun hp' => ?_, List.nodup_append.mpr ⟨nF0, nG, fun a ha b hb q => by subst q; exact dG a hb (List.mem_cons_of_mem _ ha)⟩⟩, tk_lst upd_same⟩
      · rcases List.mem_cons.mp ha with rfl | ha
        · exact .inl hp
        · rcases List.mem_append.mp ha with ha | ha
          · exact .inl (List.mem_cons_of_mem _ ha)
          · exact .inr ha
      · rcases List.mem_append.mp hp' with hp' | hp'
        · exact np hp'
        · exact dG p hp' hp
    · cases h
theorem ss_app {i : Nat} {x : Str} {px apos cpos pos : Pos} (hN : X.N[i]? = some x) (hv : Vis X.env.scope x) (hd : (x == ("__debug__" : Str)) = false) (hcd : (x == ("__classdict__" : Str)) = false)
    (he : SE X C pv Wx cl ex e) (hbase : attributeBase (.Name x px) "append" X.env (eval (.Name x px) X.env) = eval (.Name x px) X.env)
    (hfew : ((backTo cpos (starEach (ex :: []) X.env)).all (fun x => !x.1) && (backToKw cpos (keywordEach [] X.env)).all (fun x => x.1.isSome) && decide ((ex :: []).length + ([] : List Keyword).length + (if ([] : List Keyword).isEmpty then 0 else 1) < 30)) = true)
    (hline : (apos.endLine == cpos.line) = true) (hs : starEach (ex :: []) X.env = (false, eval ex X.env) :: starEach [] X.env) (hplain : (backTo cpos (starEach [] X.env)).any (·.1) = false)
    (hsw : swapsWith (.Call (.Attribute (.Name x px) "append" apos) [ex] [] cpos) none pos.line X.env = pure false) : PS X (.Expr (.Call (.Attribute (.Name x px) "append" apos) [ex] [] cpos) pos) (tS C pv Wx cl (.app i e)) := by
  refine ps_imp (ps_expr (pe_bm PySem.F.plainAttrs_list PySem.F.slot_list_append PySem.F.type_list_append mt_append (pe_var hN hv hd hcd) (pa_cons he.v pa_nil hs) hbase hfew hline hs hplain) hsw) fun D σ H ⟨σa, Z, fs, R, h⟩ => ?_
  simp only [evS] at h
  split at h
  · rename_i hsl
    obtain ⟨p0, xs0, ms0, hu, hp0, _⟩ := isL_ok R hsl
    refine ⟨.ref p0, hu, .inl ⟨rfl, xs0, SqL.of hp0⟩, σa, Z, fs, R, h.bind fun r σ1 v Z1 fs1 H1 F hev R1 x1 s1 p1 h1 => ?_⟩
    cases hup : upS i (M.app r.m) σ1 with
    | none => rw [hup] at h1; exact h1.elim
    | some σb =>
      rw [hup] at h1
      obtain ⟨m, m', hm, hcase⟩ := upS_some hup
      have hor : σ1[i]? = some (some (.own m)) ∨ σ1[i]? = some (some (.io m)) := hcase.imp (·.1) (·.1)
      obtain ⟨u', hu', ow, hpv⟩ := R1.slotM hor
      rw [hu] at hu'
      cases hu'
      obtain ⟨G, og, hG, nG⟩ := ROk.own p1 (.inr trivial)
      have sG := s1.sub hG (nG s1.nd)
      obtain ⟨p, xs, F', hpe, hpF, hq, hz, ow', hF', nF', tk'⟩ := own_app ow (R1.nd i) sG.nd (fun a ha q => sG.df a ha ⟨i, q⟩) (R1.dz i) (R1.ft i) hm og
      cases hpe
      obtain ⟨R3, x3⟩ := R1.write x1 sG hpF hu hpv hcase hF' nF' ow' tk'
      exact ⟨p0, xs, v, rfl, rfl, hq, hz, h1 σ _ Z1 _ R3 x3⟩
  · exact h.elim
end
end PY
set_option Elab.async false
set_option linter.all false
set_option maxRecDepth 100000
set_option maxHeartbeats 400000
/-! # PySound21: x[k] += e -/
namespace PY
open PySem L2

section
variable {X : Cx} {C : Pl} {pv : V} {Wx : WX} {cl : Nat → List W → Out R} {ex : Expr} {e : E} {σ σ' : St} {Z Z1 Z2 : Zo} {fs fs1 fs2 : Fo} {H H1 H2 : Hp} {σa σb σ1 : Sig} {n : Nat} {D : Ends} {o : Fl}
theorem get_list : PGet X fun x y H Q => rIxL X.K x y H Q := by
  intro pins s σ H x y xv yv Q I rx ry h
  obtain ⟨p, xs, i, z, rfl, rfl, hq, he, q⟩ := h
  have hx : xv = Value.ref p := rx
  subst hx
  obtain ⟨t, rfl⟩ := ry
  obtain ⟨its, r, pl, hz⟩ := I.list hq
  obtain ⟨j, h1, h2, h3, h4, h5⟩ := atI_get he
  obtain ⟨u, eu, ru⟩ := r.get h2
  have hl := r.length
  have big := line63
  have fin : EP X pins σ Q u s := ⟨z, H, I, ru, q⟩
  by_cases h0 : 0 ≤ i
  · have hj : i.toNat = j := by
      rw [seqIndex_of h0 h5] at h1
      exact Option.some.inj h1
    exact wpAny_getItem_list pl.isList h0 (by omega) (by rw [hj]; simpa using eu) fin
  · have hj : (i + (its.toArray.size : Int)).toNat = j := by
      rw [seqIndex_neg (by omega) h4] at h1
      rw [List.size_toArray, ← hl]
      exact Option.some.inj h1
    exact wpAny_getItem_list_neg pl.isList (by omega) (by rw [List.size_toArray]; omega) (by omega) (by rw [hj]; simpa using eu) fin
/-- a slot's list, as it is read -/
theorem slot_list {i : Nat} {ts : List T} (R : Rel C pv σa σ Z fs H) (h : slotT σa[i]? = some (.lst ts)) : ∃ p xs, σ[i]? = some (some (.ref p)) ∧ H p = some (.lst xs) ∧ ∀ (j : Int) (a : Int), atI ts j = some (.int a) → atI xs j = some (.int a) := by
  have go : ∀ {m : M} {v : V}, σ[i]? = some (some v) → Own C Z H v m (fs i) → m.er = .lst ts → ∃ p xs, σ[i]? = some (some (.ref p)) ∧ H p = some (.lst xs) ∧ ∀ (j : Int) (a : Int), atI ts j = some (.int a) → atI xs j = some (.int a) := fun {m v} hv o he => by
    have l : Later Z H (fun a => Z a ∨ a ∈ fs i) H := ⟨fun _ h => .inl h, fun _ _ _ h => h, fun _ _ h => h, fun _ _ _ h => h⟩
    have d := Own.freeze l o fun a ha => ⟨.inr ha, fun _ e => e⟩
    rw [he] at d
    cases d with
    | lst z hh dl =>
      refine ⟨_, _, hv, hh, fun j a hj => ?_⟩
      obtain ⟨u, h1, h2⟩ := dl.atI (i := j) hj
      cases h2
      exact h1
  obtain ⟨w, hw⟩ := slotT_some (by rw [h]; rfl)
  rw [hw] at h
  obtain ⟨v, e, q⟩ := R.sl i w hw
  cases w with
  | val t =>
    have ht : t = .lst ts := by simpa [slotT, W.t] using h
    subst ht
    cases q with
    | lst z hh dl =>
      refine ⟨_, _, e, hh, fun j a hj => ?_⟩
      obtain ⟨u, h1, h2⟩ := dl.atI (i := j) hj
      cases h2
      exact h1
  | own m => exact go e q (by simpa [slotT, W.t] using h)
  | io m => exact go e q.1 (by simpa [slotT, W.t] using h)
theorem ss_augIx {i : Nat} {x : Str} {kx : Expr} {k : E} {op : BO} {px pos pos' : Pos} {n : Nat} (g : Gd X C n) (hN : X.N[i]? = some x) (hv : Vis X.env.scope x) (hd : (x == ("__debug__" : Str)) = false) (hcd : (x == ("__classdict__" : Str)) = false) (hk : SE X C pv Wx cl kx k) (he : SE X C pv Wx cl ex e)
    (ha : ∀ ov iv new, augStore kx ov iv new = (do holding [new, ov, iv] (setItem ov iv new); release [new, ov, iv] []; pure .next)) : PS X (.AugAssign (.Subscript (.Name x px) kx pos') .Add ex pos) (tS C pv Wx cl (.augIx i k op e)) := by
  refine ps_imp (ps_augS (pe_var hN hv hd hcd) hk.v get_list he.v ip_add (set_A g.h1) ha) fun D σ H ⟨σa, Z, fs, R, h⟩ => ?_
  simp only [evS] at h
  split at h
  · rename_i hsl
    obtain ⟨p0, xs0, ms0, hu, hp0, _⟩ := isL_ok R hsl
    refine ⟨.ref p0, hu, σa, Z, fs, R, h.bindT fun kr σ1 kv Z1 fs1 H1 _ R1 x1 d1 h1 => ?_⟩
    split at h1
    · rename_i j ts hkt hst
      rw [hkt] at d1
      cases d1
      obtain ⟨p, xs, hu1, hp1, hat⟩ := slot_list R1 hst
      rw [hu] at hu1
      cases hu1
      split at h1
      · rename_i a hat0
        refine ⟨p0, xs, j, .int a, rfl, rfl, SqL.of hp1, hat j a hat0, σ1, Z1, fs1, R1, h1.bindT fun r σ2 y Z2 fs2 H2 _ R2 x2 d2 h2 => ?_⟩
        split at h2
        · rename_i b hrt
          rw [hrt] at d2
          cases d2
          refine ⟨a, b, rfl, rfl, ?_⟩
          cases hup : upS i (M.putIx (.int j) (.fr (.int (a + b)))) σ2 with
          | none => rw [hup] at h2; exact h2.elim
          | some σb =>
            rw [hup] at h2
            obtain ⟨m, m', hm, hcase⟩ := upS_some hup
            obtain ⟨u', hu', ow, hpv⟩ := R2.slotM (hcase.imp (·.1) (·.1))
            rw [hu] at hu'
            cases hu'
            obtain ⟨p, o', F', hpe, hpF, hset, ow', hF', nF', tk'⟩ := own_putIx ow (R2.nd i) List.nodup_nil (fun a ha => (by cases ha)) (fun a ha => (by cases ha)) (R2.dz i) (R2.ft i) hm (.int j) (.fr (.int (a + b)))
            refine setA_mono hset fun H' e => ?_
            subst e
            obtain ⟨R3, x3⟩ := R2.write (F := []) .refl .nil hpF hu hpv hcase hF' nF' ow' tk'
            exact h2 σ _ Z2 _ R3 x3
        · exact h2.elim
      · exact h1.elim
    · exact h1.elim
  · exact h.elim
end
end PY
set_option Elab.async false
set_option linter.all false
set_option maxRecDepth 100000
set_option maxHeartbeats 400000
/-! # PySound22: writing at a place within a slot's data -/
namespace PY
open PySem L2

section
variable {X : Cx} {C : Pl} {pv : V} {Wx : WX} {cl : Nat → List W → Out R} {ex : Expr} {e : E} {σ σ' : St} {Z Z1 Z2 : Zo} {fs fs1 fs2 : Fo} {H H1 H2 : Hp} {σa σb σ1 : Sig} {n : Nat} {D : Ends} {o : Fl}
theorem OwnL.kid : ∀ {vs : List V} {ms : List M} {F : List Addr} {j : Nat} {c : M}, OwnL C Z H vs ms F → ms[j]? = some c → ∃ x A Fj B, vs[j]? = some x ∧ F = A ++ (Fj ++ B) ∧ Own C Z H x c Fj ∧
    ∀ (Z' : Zo) (H' : Hp) (c' : M) (Fj' : List Addr), Later Z H Z' H' → (∀ a ∈ A ++ B, ∀ o, H a = some o → H' a = some o) → Own C Z' H' x c' Fj' → OwnL C Z' H' vs (ms.set j c') (A ++ (Fj' ++ B))
  | _, _, _, _, _, .nil, h => by simp at h
  | _, _, _, 0, c, @OwnL.cons _ _ _ v vs m ms F G a b, h => by
    simp only [List.getElem?_cons_zero, Option.some.injEq] at h
    subst h
    exact ⟨v, [], F, G, rfl, rfl, a, fun Z' H' c' Fj' l k o => show OwnL C Z' H' _ _ (Fj' ++ G) from .cons o (b.later l fun x hx => k x hx)⟩
  | _, _, _, j + 1, c, @OwnL.cons _ _ _ v vs m ms F G a b, h => by
    obtain ⟨x, A, Fj, B, h1, rfl, h2, h3⟩ := b.kid (j := j) (by simpa using h)
    refine ⟨x, F ++ A, Fj, B, by simpa using h1, by simp, h2, fun Z' H' c' Fj' l k o => ?_⟩
    have := OwnL.cons (a.later l fun y hy => k y (List.mem_append_left _ (List.mem_append_left _ hy))) (h3 Z' H' c' Fj' l (fun y hy => k y (by
      rcases List.mem_append.mp hy with hy | hy
      · exact List.mem_append_left _ (List.mem_append_right _ hy)
      · exact List.mem_append_right _ hy)) o)
    rw [← List.append_assoc] at this
    exact this
theorem later_upd {p : Addr} {o' : HO} (hz : ¬ Z p) (tk : Tk H p) : Later Z H Z (upd H p o') :=
  ⟨fun _ z => z, fun b u z q => by rw [upd_ne (fun w => hz (by rw [← w]; exact z))]; exact q, fun b xs q => by rw [upd_ne (fun w => by rw [w] at q; exact tk.2.1 _ q)]; exact q, fun b u w q => by rw [upd_ne (fun e => by rw [e] at q; exact tk.2.2 _ _ q)]; exact q⟩
theorem chg_kids {r p : Addr} {G A Fj B Fj' : List Addr} (nF : (r :: (A ++ (Fj ++ B))).Nodup) (dG : ∀ a ∈ G, a ∉ r :: (A ++ (Fj ++ B))) (hp : p ∈ Fj) (hF : ∀ a ∈ Fj', a ∈ Fj ∨ a ∈ G) (nF' : Fj'.Nodup) :
    p ≠ r ∧ p ∉ A ∧ p ∉ B ∧ (∀ a ∈ r :: (A ++ (Fj' ++ B)), a ∈ r :: (A ++ (Fj ++ B)) ∨ a ∈ G) ∧ (r :: (A ++ (Fj' ++ B))).Nodup := by
  obtain ⟨n1, n2⟩ := List.nodup_cons.mp nF
  obtain ⟨n3, n4, n5⟩ := List.nodup_append.mp n2
  obtain ⟨n6, n7, n8⟩ := List.nodup_append.mp n4
  have inF : ∀ {a}, a ∈ Fj → a ∈ A ++ (Fj ++ B) := fun h => List.mem_append_right _ (List.mem_append_left _ h)
  have sub : ∀ a ∈ Fj', a ≠ r ∧ a ∉ A ∧ a ∉ B := fun a ha => by
    rcases hF a ha with q | q
    · exact ⟨fun z => n1 (by rw [← z]; exact inF q), fun z => n5 a z a (List.mem_append_left _ q) rfl, fun z => n8 a q a z rfl⟩
    · have d := dG a q
      simp only [List.mem_cons, List.mem_append, not_or] at d
      exact ⟨d.1, d.2.1, d.2.2.2⟩
  refine ⟨fun z => n1 (by rw [← z]; exact inF hp), fun z => n5 p z p (List.mem_append_left _ hp) rfl, fun z => n8 p hp p z rfl, fun a ha => ?_, List.nodup_cons.mpr ⟨fun h => ?_, List.nodup_append.mpr ⟨n3, List.nodup_append.mpr ⟨nF', n7, fun a ha b hb q => ?_⟩, fun a ha b hb q => ?_⟩⟩⟩
  · rcases List.mem_cons.mp ha with rfl | ha
    · exact .inl List.mem_cons_self
    · rcases List.mem_append.mp ha with ha | ha
      · exact .inl (List.mem_cons_of_mem _ (List.mem_append_left _ ha))
      · rcases List.mem_append.mp ha with ha | ha
        · rcases hF a ha with q | q
          · exact .inl (List.mem_cons_of_mem _ (inF q))
          · exact .inr q
        · exact .inl (List.mem_cons_of_mem _ (List.mem_append_right _ (List.mem_append_right _ ha)))
  · rcases List.mem_append.mp h with h | h
    · exact n1 (List.mem_append_left _ h)
    · rcases List.mem_append.mp h with h | h
      · exact (sub r h).1 rfl
      · exact n1 (List.mem_append_right _ (List.mem_append_right _ h))
  · subst q; exact (sub a ha).2.2 hb
  · subst q
    rcases List.mem_append.mp hb with hb | hb
    · exact (sub a hb).2.1 ha
    · exact n5 a ha a (List.mem_append_right _ hb) rfl
/-- the part at t of owned data -/
structure Kid (C : Pl) (Z : Zo) (H : Hp) (v vt : V) (m : M) (F : List Addr) (j : Nat) (c : M) (r : Addr) (x : V) (A Fj B : List Addr) : Prop where
  ev : v = .ref r
  eF : F = r :: (A ++ (Fj ++ B))
  ow : Own C Z H x c Fj
  ix : ∀ Q : VK, Q x H → rIxA C.K v vt H Q
  at_ : ∀ kvs : List (Ky × V), H r = some (.dK kvs) → ∃ ky, vt = kV ky ∧ valV kvs ky = some x
  set : ∀ (Z' : Zo) (H' : Hp) (c' : M) (Fj' : List Addr), Later Z H Z' H' → (∀ a ∈ r :: (A ++ B), ∀ o, H a = some o → H' a = some o) → Own C Z' H' x c' Fj' → Own C Z' H' v (M.setKid j c' m) (r :: (A ++ (Fj' ++ B)))
theorem own_kid {v vt : V} {m : M} {F : List Addr} {t : T} {j : Nat} {c : M} (o : Own C Z H v m F) (dt : Den C Z H vt t) (hp : m.pos t = some j) (hc : m.kids[j]? = some c) : ∃ r x A Fj B, Kid C Z H v vt m F j c r x A Fj B := by
  cases o with
  | fr d => simp [M.pos] at hp
  | tup hq ol => simp [M.pos] at hp
  | @lst r xs ms F0 hq ol =>
    cases t with
    | int i =>
      cases dt
      simp only [M.pos] at hp
      obtain ⟨x, A, Fj, B, h1, rfl, h2, h3⟩ := ol.kid (j := j) hc
      refine ⟨r, x, A, Fj, B, rfl, rfl, h2, fun Q q => .inl (.inl (.inl ⟨r, xs, i, x, rfl, rfl, SqL.of hq, ?_, q⟩)), fun kvs hk => (by rw [hq] at hk; cases hk), fun Z' H' c' Fj' l k o => .lst (k r List.mem_cons_self _ hq) (h3 Z' H' c' Fj' l (fun a ha => k a (List.mem_cons_of_mem _ ha)) o)⟩
      unfold atI
      rw [ol.length, hp, Option.bind_some]
      exact h1
    | _ => simp [M.pos] at hp
  | @dK r ks xs ms F0 hq hl ol =>
    simp only [M.pos, Option.bind_eq_some_iff] at hp
    obtain ⟨ky, hk, hx⟩ := hp
    obtain ⟨x, A, Fj, B, h1, rfl, h2, h3⟩ := ol.kid (j := j) hc
    have hval : valV (ks.zip xs) ky = some x := by
      rw [valV_kix hl, hx, Option.bind_some]
      exact h1
    refine ⟨r, x, A, Fj, B, rfl, rfl, h2, fun Q q => .inl (.inr ⟨r, x, rfl, ?_, q⟩), fun kvs hk' => ?_, fun Z' H' c' Fj' l k o => .dK (k r List.mem_cons_self _ hq) hl (h3 Z' H' c' Fj' l (fun a ha => k a (List.mem_cons_of_mem _ ha)) o)⟩
    · rw [keyOf_kV hk dt]
      have g := DGet.k (k := ky) hq
      rw [hval] at g
      exact g
    · rw [hq] at hk'
      cases hk'
      exact ⟨ky, keyOf_kV hk dt, hval⟩
theorem ownM_some {o : Option (Option W)} {m : M} (h : ownM o = some m) : o = some (some (.own m)) ∨ o = some (some (.io m)) := by
  unfold ownM at h
  split at h
  · cases h; exact .inl rfl
  · cases h; exact .inr rfl
  · cases h
theorem isKL_ok {t : T} {o : Option (Option W)} (h : isKL t o = true) : ∃ m j ms, (o = some (some (.own m)) ∨ o = some (some (.io m))) ∧ m.pos t = some j ∧ m.kids[j]? = some (.lst ms) := by
  unfold isKL at h
  split at h
  · rename_i ms hq
    simp only [Option.bind_eq_some_iff] at hq
    obtain ⟨m, h1, j, h2, h3⟩ := hq
    exact ⟨m, j, ms, ownM_some h1, h2, h3⟩
  · cases h
theorem isK_ok {t : T} {o : Option (Option W)} (h : isK t o = true) : ∃ m j c, (o = some (some (.own m)) ∨ o = some (some (.io m))) ∧ m.pos t = some j ∧ m.kids[j]? = some c := by
  unfold isK at h
  split at h
  · rename_i ms hq
    simp only [Option.bind_eq_some_iff] at hq
    obtain ⟨m, h1, j, h2, h3⟩ := hq
    exact ⟨m, j, _, ownM_some h1, h2, h3⟩
  · rename_i ks ms hq
    simp only [Option.bind_eq_some_iff] at hq
    obtain ⟨m, h1, j, h2, h3⟩ := hq
    exact ⟨m, j, _, ownM_some h1, h2, h3⟩
  · cases h
theorem isC_ok {i : Nat} (R : Rel C pv σa σ Z fs H) (h : isC σa[i]? = true) : ∃ u, σ[i]? = some (some u) := by
  have : ∃ w, σa[i]? = some (some w) := by
    unfold isC isL isD at h
    cases hq : σa[i]? with
    | none => rw [hq] at h; simp at h
    | some o => cases o with
      | none => rw [hq] at h; simp at h
      | some w => exact ⟨w, rfl⟩
  obtain ⟨w, hw⟩ := this
  obtain ⟨u, hu, _⟩ := R.sl i w hw
  exact ⟨u, hu⟩

/-! ### a slot out of reach, and back -/
theorem Rel.unhide {i : Nat} {w : W} {F : List Addr} (R : Rel C pv σa σ Z fs H) (hw : σa[i]? = some (some w)) (R1 : Rel C pv σ1 σ Z1 fs1 H1) (x : Ext Z (upF fs i []) H Z1 fs1 H1) (s : Sep F (upF fs i []) H Z1 fs1 H1) :
    Rel C pv (σ1.set i (some w)) σ Z1 (upF fs1 i (fs i)) H1 ∧ Ext Z fs H Z1 (upF fs1 i (fs i)) H1 ∧ (∀ a ∈ fs i, ∀ o, H a = some o → H1 a = some o) ∧ Later Z H Z1 H1 ∧ Sep F fs H Z1 (upF fs1 i (fs i)) H1 := by
  obtain ⟨v, hv, q⟩ := R.sl i w hw
  have noi : ∀ a ∈ fs i, ¬ InF (upF fs i []) a := fun a ha ⟨j, hj⟩ => by
    obtain ⟨e, hj⟩ := mem_up hj
    exact e (R.dj j i a hj ha)
  have some_of : ∀ a ∈ fs i, H a ≠ none := fun a ha => (R.ft i a ha).1
  have keep : ∀ a ∈ fs i, ∀ o, H a = some o → H1 a = some o := fun a ha o h => x.keep a o h (noi a ha)
  have l : Later Z H Z1 H1 := x.later R.drop
  have ndz : ∀ a ∈ fs i, ¬ Z1 a := fun a ha z => by
    rcases x.zn a z with z | z | z
    · exact R.dz i a ha z
    · exact noi a ha z
    · exact some_of a ha z
  have ndf : ∀ a ∈ fs i, ¬ InF fs1 a := fun a ha z => by
    rcases x.fn a z with z | z
    · exact noi a ha z
    · exact some_of a ha z
  have sub : ∀ a, InF (upF fs i []) a → InF fs a := fun a z => (inF_set z).elim (fun q => by cases q) id
  have hi : i < σ1.length := by
    rw [R1.len, ← R.len]
    exact (List.getElem?_eq_some_iff.mp hw).1
  have up : ∀ {j a}, a ∈ upF fs1 i (fs i) j → (j = i ∧ a ∈ fs i) ∨ (j ≠ i ∧ a ∈ fs1 j) := fun {j a} h => by
    by_cases e : j = i
    · rw [e, upF_eq] at h; exact .inl ⟨e, h⟩
    · rw [upF_ne e] at h; exact .inr ⟨e, h⟩
  refine ⟨⟨by rw [List.length_set]; exact R1.len, fun j w' hj => ?_, fun j => ?_, fun j k a ha hb => ?_, fun j a ha z => ?_, R1.zt, fun j a ha => ?_⟩, ⟨fun a o h n => x.keep a o h fun q => n (sub a q), x.tup, x.frz, x.zm, fun a z => (x.zn a z).imp id fun q => q.imp (sub a) id, fun a z => ?_⟩, keep, l, ⟨s.nd, s.dz, fun a ha z => ?_, s.tr, fun a ha => (s.nw a ha).imp (sub a) id⟩⟩
  · by_cases hji : i = j
    · subst hji
      rw [List.getElem?_set_self hi] at hj
      cases hj
      refine ⟨v, hv, ?_⟩
      rw [upF_eq]
      exact q.later l keep
    · rw [List.getElem?_set_ne hji] at hj
      obtain ⟨v', e', q'⟩ := R1.sl j w' hj
      refine ⟨v', e', ?_⟩
      rw [upF_ne (Ne.symm hji)]
      exact q'
  · by_cases e : j = i
    · rw [e, upF_eq]; exact R.nd i
    · rw [upF_ne e]; exact R1.nd j
  · rcases up ha with ⟨e1, a1⟩ | ⟨e1, a1⟩ <;> rcases up hb with ⟨e2, a2⟩ | ⟨e2, a2⟩
    · rw [e1, e2]
    · exact (ndf a a1 ⟨k, a2⟩).elim
    · exact (ndf a a2 ⟨j, a1⟩).elim
    · exact R1.dj j k a a1 a2
  · rcases up ha with ⟨_, a1⟩ | ⟨_, a1⟩
    · exact ndz a a1 z
    · exact R1.dz j a a1 z
  · rcases up ha with ⟨_, a1⟩ | ⟨_, a1⟩
    · exact keeps3 (keep a a1) (R.ft i a a1)
    · exact R1.ft j a a1
  · rcases inF_set z with z | z
    · exact .inl ⟨i, z⟩
    · exact (x.fn a z).imp (sub a) id
  · rcases inF_set z with z | z
    · rcases s.nw a ha with q | q
      · exact noi a z q
      · exact some_of a z q
    · exact s.df a ha z
theorem FlS.hid {i : Nat} {w : W} {f : PY.R → Sig → Fl} {Q' : VK} {m : M} (h : FlS C pv Wx Z fs H D ((evH cl i e σa).fl f)) (R : Rel C pv σa σ Z fs H) (hw : σa[i]? = some (some w)) (hm : w = .own m ∨ w = .io m)
    (k : ∀ (r : PY.R) (σ1 : Sig) (v : V) (Z1 : Zo) (fs1 : Fo) (H1 : Hp) (F : List Addr), σ1[i]? = some (some w) → fs1 i = fs i → Rel C pv σ1 σ Z1 fs1 H1 → Ext Z fs H Z1 fs1 H1 → (∀ a ∈ fs i, ∀ o, H a = some o → H1 a = some o) → Later Z H Z1 H1 → Sep F fs H Z1 fs1 H1 → ROk C Z1 H1 v F r →
      FlS C pv Wx Z fs H D (f r σ1) → Q' v H1) : Spec C pv Wx σ Z (upF fs i []) H (PR C) (ev cl e (σa.set i none)) Q' := by
  have he : evH cl i e σa = (ev cl e (σa.set i none)).bind fun r σ => .ok r (σ.set i (some w)) := by
    unfold evH
    rcases hm with rfl | rfl <;> rw [hw]
  rw [he] at h
  have hi : i < σa.length := (List.getElem?_eq_some_iff.mp hw).1
  cases hev : ev cl e (σa.set i none) with
  | fail => rw [hev] at h; exact h.elim
  | ok r σ1 =>
    rw [hev] at h
    intro v H1 Z1 fs1 F R1 x s p
    obtain ⟨R2, x2, kp, l, s2⟩ := R.unhide hw R1 x s
    exact k r (σ1.set i (some w)) v Z1 _ H1 F (List.getElem?_set_self (by rw [R1.len, ← R.len]; exact hi)) upF_eq R2 x2 kp l s2 p h
  | ex c t σ1 =>
    rw [hev] at h
    exact fun d H' Z' fs' R1 x p => h d σ H' Z' fs' R1 (Ext.drop.trans x) p
/-! ### x[p].append(e) -/
theorem mod_some {f : M → Option M} {t : T} {m m' : M} {j : Nat} {c : M} (hp : m.pos t = some j) (hc : m.kids[j]? = some c) (h : M.mod f t m = some m') : ∃ c', f c = some c' ∧ m' = M.setKid j c' m := by
  unfold M.mod at h
  rw [hp, Option.bind_some, hc, Option.bind_some] at h
  simp only [Option.map_eq_some_iff] at h
  obtain ⟨c', h1, h2⟩ := h
  exact ⟨c', h1, h2.symm⟩
/-- behind the place's value: the end of x[p].append(e) -/
theorem app_tail {i j : Nat} {w : W} {m : M} {ms : List M} {t : T} {u vt x : V} {r : Addr} {A Fj B : List Addr} (hK : C.K = X.K) (R : Rel C pv σa σ Z fs H) (hw : σa[i]? = some (some w)) (hm : w = .own m ∨ w = .io m) (hu : σ[i]? = some (some u)) (hp : m.pos t = some j) (hc : m.kids[j]? = some (.lst ms))
    (K : Kid C Z H u vt m (fs i) j (.lst ms) r x A Fj B) (h : FlS C pv Wx Z fs H D ((evH cl i e σa).fl fun r σ => .of (upS i (M.mod (M.app r.m) t) σ))) :
    tyV X.K "list" x H ∧ tE C pv Wx cl e σ H fun y H2 => rAppend x [y] H2 fun _ H3 => D.nx σ H3 := by
  have hmi : σa[i]? = some (some (.own m)) ∨ σa[i]? = some (some (.io m)) := by rcases hm with rfl | rfl <;> simp [hw]
  have hx := K.ow
  have nF := R.nd i
  rw [K.eF] at nF
  have nFj : Fj.Nodup := (List.nodup_append.mp (List.nodup_append.mp (List.nodup_cons.mp nF).2).2.1).1
  have inF : ∀ a ∈ Fj, a ∈ fs i := fun a ha => by rw [K.eF]; exact List.mem_cons_of_mem _ (List.mem_append_right _ (List.mem_append_left _ ha))
  have out : ∀ a ∈ r :: (A ++ B), a ∈ fs i := fun a ha => by
    rw [K.eF]
    rcases List.mem_cons.mp ha with rfl | ha
    · exact List.mem_cons_self
    · rcases List.mem_append.mp ha with ha | ha
      · exact List.mem_cons_of_mem _ (List.mem_append_left _ ha)
      · exact List.mem_cons_of_mem _ (List.mem_append_right _ (List.mem_append_right _ ha))
  refine ⟨?_, σa.set i none, Z, upF fs i [], R.drop, h.hid R hw hm fun rv σ1 y Z1 fs1 H1 F hw1 hf R1 x1 kp l s1 p1 h1 => ?_⟩
  · cases hx with
    | lst hq _ => exact .inl ⟨rfl, _, SqL.of hq⟩
  · cases hup : upS i (M.mod (M.app rv.m) t) σ1 with
    | none => rw [hup] at h1; exact h1.elim
    | some σb =>
      rw [hup] at h1
      obtain ⟨m1, m', hmod, hcase⟩ := upS_some hup
      have hm1 : m1 = m := by
        rcases hcase with ⟨q, _⟩ | ⟨q, _⟩ <;> rw [hw1] at q <;> rcases hm with rfl | rfl <;> cases q <;> rfl
      subst hm1
      obtain ⟨c', happ, rfl⟩ := mod_some hp hc hmod
      obtain ⟨G, og, hG, nG⟩ := ROk.own p1 (.inr trivial)
      have sG := s1.sub hG (nG s1.nd)
      have hx1 : Own C Z1 H1 x (.lst ms) Fj := hx.later l fun a ha => kp a (inF a ha)
      have hF1 : fs1 i = r :: (A ++ (Fj ++ B)) := hf.trans K.eF
      obtain ⟨q, xs, F', rfl, hqF, hq, hz, ow', hF', nF', tk'⟩ := own_app hx1 nFj sG.nd (fun a ha z => sG.df a ha ⟨i, by rw [hf]; exact inF a z⟩) (fun a ha => R1.dz i a (by rw [hf]; exact inF a ha)) (fun a ha => R1.ft i a (by rw [hf]; exact inF a ha)) happ og
      obtain ⟨e1, e2, e3, e4, e5⟩ := chg_kids nF (fun a ha z => sG.df a ha ⟨i, by rw [hF1]; exact z⟩) hqF hF' nF'
      have hq1 : q ∈ fs1 i := by rw [hf]; exact inF q hqF
      have lq : Later Z1 H1 Z1 (upd H1 q (.lst (xs ++ [y]))) := later_upd (R1.dz i q hq1) (R1.ft i q hq1)
      have kq : ∀ a ∈ r :: (A ++ B), ∀ o, H a = some o → upd H1 q (.lst (xs ++ [y])) a = some o := fun a ha o ho => by
        rw [upd_ne fun z => ?_]
        · exact kp a (out a ha) o ho
        · subst z
          rcases List.mem_cons.mp ha with z | ha
          · exact e1 z
          · exact (List.mem_append.mp ha).elim e2 e3
      have lt : Later Z H Z1 (upd H1 q (.lst (xs ++ [y]))) := ⟨fun a z => lq.z a (l.z a z), fun a o z h => lq.k a o (l.z a z) (l.k a o z h), fun a xs h => lq.tup a xs (l.tup a xs h), fun a o u h => lq.frz a o u (l.frz a o u h)⟩
      have ow := K.set Z1 _ c' F' lt kq ow'
      obtain ⟨R3, x3⟩ := R1.write x1 sG hq1 hu (fun z => (R1.slotM (hcase.imp (·.1) (·.1))).elim fun v q => by
        have := q.2.2 z
        rw [hu] at q
        cases q.1
        exact this) hcase (fun a ha => by rw [hF1]; exact e4 a ha) e5 ow tk'
      exact ⟨q, xs, y, rfl, rfl, hq, hz, h1 σ _ Z1 _ R3 x3⟩
theorem ss_appAt {i : Nat} {x : Str} {kx : Expr} {k : E} {px pos' apos cpos pos : Pos} {n : Nat} (g : Gd X C n) (hN : X.N[i]? = some x) (hv : Vis X.env.scope x) (hd : (x == ("__debug__" : Str)) = false) (hcd : (x == ("__classdict__" : Str)) = false)
    (hk : SE X C pv Wx cl kx k) (hsl : isSl kx = false) (he : SE X C pv Wx cl ex e) (hbase : attributeBase (.Subscript (.Name x px) kx pos') "append" X.env (eval (.Subscript (.Name x px) kx pos') X.env) = eval (.Subscript (.Name x px) kx pos') X.env)
    (hfew : ((backTo cpos (starEach (ex :: []) X.env)).all (fun x => !x.1) && (backToKw cpos (keywordEach [] X.env)).all (fun x => x.1.isSome) && decide ((ex :: []).length + ([] : List Keyword).length + (if ([] : List Keyword).isEmpty then 0 else 1) < 30)) = true)
    (hline : (apos.endLine == cpos.line) = true) (hs : starEach (ex :: []) X.env = (false, eval ex X.env) :: starEach [] X.env) (hplain : (backTo cpos (starEach [] X.env)).any (·.1) = false)
    (hsw : swapsWith (.Call (.Attribute (.Subscript (.Name x px) kx pos') "append" apos) [ex] [] cpos) none pos.line X.env = pure false) :
    PS X (.Expr (.Call (.Attribute (.Subscript (.Name x px) kx pos') "append" apos) [ex] [] cpos) pos) (tS C pv Wx cl (.appAt i k e)) := by
  refine ps_imp (ps_expr (pe_bm PySem.F.plainAttrs_list PySem.F.slot_list_append PySem.F.type_list_append mt_append (pe_ix (ix_all g.h1) (pe_var hN hv hd hcd) hk.v (plainIx_of hsl)) (pa_cons he.v pa_nil hs) hbase hfew hline hs hplain) hsw) fun D σ H ⟨σa, Z, fs, R, h⟩ => ?_
  simp only [evS] at h
  split at h
  · rename_i hc
    obtain ⟨u, hu⟩ := isC_ok R hc
    refine ⟨u, hu, σa, Z, fs, R, h.bindT fun kr σ1 kv Z1 fs1 H1 _ R1 x1 d1 h1 => ?_⟩
    split at h1
    · rename_i hkl
      obtain ⟨m, j, ms, hor, hp, hkd⟩ := isKL_ok hkl
      obtain ⟨u', hu', ow, _⟩ := R1.slotM hor
      rw [hu] at hu'
      cases hu'
      obtain ⟨r, y, A, Fj, B, K⟩ := own_kid ow d1 hp hkd
      have hw : ∃ w, σ1[i]? = some (some w) ∧ (w = .own m ∨ w = .io m) := by
        rcases hor with q | q
        · exact ⟨_, q, .inl rfl⟩
        · exact ⟨_, q, .inr rfl⟩
      obtain ⟨w, hw, hm⟩ := hw
      rw [← g.hK]
      exact K.ix _ (by rw [g.hK]; exact app_tail g.hK R1 hw hm hu hp hkd K h1)
    · exact h1.elim
  · exact h.elim
theorem own_dK {v : V} {ks : List Ky} {ms : List M} {F : List Addr} (h : Own C Z H v (.dK ks ms) F) : ∃ a xs F0, v = .ref a ∧ F = a :: F0 ∧ H a = some (.dK (ks.zip xs)) ∧ ks.length = xs.length ∧ OwnL C Z H xs ms F0 := by
  cases h with
  | dK h1 h2 h3 => exact ⟨_, _, _, rfl, rfl, h1, h2, h3⟩
theorem isD_ok {i : Nat} (R : Rel C pv σa σ Z fs H) (h : isD σa[i]? = true) : ∃ p kvs, σ[i]? = some (some (.ref p)) ∧ H p = some (.dK kvs) := by
  unfold isD at h
  split at h
  · rename_i ks ms hq
    obtain ⟨v, e, q⟩ := R.sl i _ hq
    obtain ⟨a, xs, F0, rfl, _, h1, _⟩ := own_dK (show Own C Z H v (.dK ks ms) (fs i) from q)
    exact ⟨a, _, e, h1⟩
  · rename_i ks ms hq
    obtain ⟨v, e, q⟩ := R.sl i _ hq
    obtain ⟨a, xs, F0, rfl, _, h1, _⟩ := own_dK (show Own C Z H v (.dK ks ms) (fs i) from q.1)
    exact ⟨a, _, e, h1⟩
  · cases h
theorem set_same {α : Type} {xs : List α} {i : Nat} {x : α} (h : xs[i]? = some x) : xs.set i x = xs := by
  refine List.ext_getElem? fun l => ?_
  by_cases hl : i = l
  · subst hl
    rw [List.getElem?_set_self (List.getElem?_eq_some_iff.mp h).1, h]
  · rw [List.getElem?_set_ne hl]
theorem sdDef_some {k : T} {m m' : M} (h : M.sdDef k m = some m') : ∃ ks ms ky, m = .dK ks ms ∧ keyOf k = some ky ∧ ks.length < sizeLine ∧ ((∃ j, kix ks ky = some j ∧ m' = m) ∨ (kix ks ky = none ∧ m' = .dK (ks ++ [ky]) (ms ++ [.lst []]))) := by
  cases m with
  | dK ks ms =>
    simp only [M.sdDef] at h
    cases hk : keyOf k with
    | none => rw [hk] at h; cases h
    | some ky =>
      rw [hk] at h
      simp only at h
      split at h
      · rename_i hl
        cases hx : kix ks ky with
        | some j =>
          rw [hx] at h
          cases h
          exact ⟨ks, ms, ky, rfl, rfl, hl, .inl ⟨j, hx, rfl⟩⟩
        | none =>
          rw [hx] at h
          cases h
          exact ⟨ks, ms, ky, rfl, rfl, hl, .inr ⟨hx, rfl⟩⟩
      · cases h
  | _ => simp [M.sdDef] at h
theorem ss_sdApp {i : Nat} {x : Str} {kx : Expr} {k : E} {px ap1 cp1 lp apos cpos pos : Pos} {n : Nat} (g : Gd X C n) (hN : X.N[i]? = some x) (hv : Vis X.env.scope x) (hd : (x == ("__debug__" : Str)) = false) (hcd : (x == ("__classdict__" : Str)) = false)
    (hk : SE X C pv Wx cl kx k) (he : SE X C pv Wx cl ex e) (m2 : M2 X (.Name x px) "setdefault" ap1 kx (.List [] lp) cp1)
    (hbase : attributeBase (.Call (.Attribute (.Name x px) "setdefault" ap1) [kx, .List [] lp] [] cp1) "append" X.env (eval (.Call (.Attribute (.Name x px) "setdefault" ap1) [kx, .List [] lp] [] cp1) X.env) = eval (.Call (.Attribute (.Name x px) "setdefault" ap1) [kx, .List [] lp] [] cp1) X.env)
    (hfew : ((backTo cpos (starEach (ex :: []) X.env)).all (fun x => !x.1) && (backToKw cpos (keywordEach [] X.env)).all (fun x => x.1.isSome) && decide ((ex :: []).length + ([] : List Keyword).length + (if ([] : List Keyword).isEmpty then 0 else 1) < 30)) = true)
    (hline : (apos.endLine == cpos.line) = true) (hs : starEach (ex :: []) X.env = (false, eval ex X.env) :: starEach [] X.env) (hplain : (backTo cpos (starEach [] X.env)).any (·.1) = false)
    (hsw : swapsWith (.Call (.Attribute (.Call (.Attribute (.Name x px) "setdefault" ap1) [kx, .List [] lp] [] cp1) "append" apos) [ex] [] cpos) none pos.line X.env = pure false) :
    PS X (.Expr (.Call (.Attribute (.Call (.Attribute (.Name x px) "setdefault" ap1) [kx, .List [] lp] [] cp1) "append" apos) [ex] [] cpos) pos) (tS C pv Wx cl (.sdApp i k e)) := by
  refine ps_imp (ps_expr (pe_bm PySem.F.plainAttrs_list PySem.F.slot_list_append PySem.F.type_list_append mt_append (pe_dsetd (pe_var hN hv hd hcd) hk.v (pe_lst pa_nil) m2) (pa_cons he.v pa_nil hs) hbase hfew hline hs hplain) hsw) fun D σ H ⟨σa, Z, fs, R, h⟩ => ?_
  simp only [evS] at h
  split at h
  · rename_i hc
    obtain ⟨a, kvs0, hu, hHa⟩ := isD_ok R hc
    refine ⟨.ref a, hu, a, rfl, .inl ⟨_, Rd.of hHa⟩, σa, Z, fs, R, h.bindT fun kr σ1 kv Z1 fs1 H1 _ R1 x1 d1 h1 => ⟨Nat.zero_le _, fun q nq => ?_⟩⟩
    cases hup : upS i (M.sdDef kr.t) σ1 with
    | none => rw [hup] at h1; exact h1.elim
    | some σ2 =>
      rw [hup, onF_some] at h1
      obtain ⟨m, m', hm, hcase⟩ := upS_some hup
      obtain ⟨ks, ms, ky, rfl, hky, hlt, hor⟩ := sdDef_some hm
      have hor1 := hcase.imp (·.1) (·.1)
      obtain ⟨u', hu', ow, hpv⟩ := R1.slotM hor1
      rw [hu] at hu'
      cases hu'
      obtain ⟨a', xs, F0, hae, hF, hHa1, hl, ol⟩ := own_dK ow
      cases hae
      have gr : Grow Z1 H1 Z1 (upd H1 q (.lst [])) := Grow.new0 R1.zt nq
      have Rg := R1.grow gr
      have aq : a ≠ q := fun z => by rw [z, nq] at hHa1; cases hHa1
      have hHa3 : upd H1 q (.lst []) a = some (.dK (ks.zip xs)) := by rw [upd_ne aq]; exact hHa1
      have hkv : kv = kV ky := keyOf_kV hky d1
      have hzl : (ks.zip xs).length = ks.length := by rw [List.length_zip]; omega
      refine ⟨ks.zip xs, ky, hHa3, hkv, by rw [hzl]; exact hlt, fun v hv => ?_, fun hn => ?_⟩
      · -- the key is there
        rcases hor with ⟨j, hx, rfl⟩ | ⟨hx, _⟩
        · have hi : i < σ1.length := by rcases hor1 with q | q <;> exact (List.getElem?_eq_some_iff.mp q).1
          have hσ : σ2 = σ1 := by
            rcases hcase with ⟨q1, q2⟩ | ⟨q1, q2⟩
            · exact q2.trans (set_same q1)
            · exact q2.trans (set_same q1)
          subst hσ
          split at h1
          · rename_i hkl
            obtain ⟨m, j', ms', hor2, hp, hkd⟩ := isKL_ok hkl
            have hmm : m = .dK ks ms := by rcases hor1 with q | q <;> rcases hor2 with q' | q' <;> rw [q] at q' <;> cases q' <;> rfl
            subst hmm
            obtain ⟨u2, hu2, ow2, _⟩ := Rg.slotM hor2
            rw [hu] at hu2
            cases hu2
            obtain ⟨r, y, A, Fj, B, K⟩ := own_kid ow2 (d1.later gr.later) hp hkd
            have hr : a = r := by have := K.ev; cases this; rfl
            subst hr
            obtain ⟨ky', e1, e2⟩ := K.at_ _ hHa3
            have : ky = ky' := kV_inj (hkv.symm.trans e1)
            subst this
            rw [hv] at e2
            cases e2
            have hw : ∃ w, σ2[i]? = some (some w) ∧ (w = .own (.dK ks ms) ∨ w = .io (.dK ks ms)) := by
              rcases hor2 with q | q
              · exact ⟨_, q, .inl rfl⟩
              · exact ⟨_, q, .inr rfl⟩
            obtain ⟨w, hw, hmw⟩ := hw
            exact app_tail g.hK Rg hw hmw hu hp hkd K (h1.shift gr.ext)
          · exact h1.elim
        · have := valV_some (k := ky) hl
          rw [hv, hx] at this
          cases this
      · -- a new key
        rcases hor with ⟨j, hx, _⟩ | ⟨hx, rfl⟩
        · have := valV_some (k := ky) hl
          rw [hn, hx] at this
          cases this
        · have sq : Sep [q] fs1 H1 Z1 fs1 (upd H1 q (.lst [])) := by
            refine ⟨List.nodup_cons.mpr ⟨fun z => (by cases z), List.nodup_nil⟩, fun b hb z => ?_, fun b hb z => ?_, fun b hb => ?_, fun b hb => ?_⟩ <;> (rw [List.mem_singleton] at hb; subst hb)
            · exact R1.zt _ z nq
            · obtain ⟨l, hl⟩ := z
              exact (R1.ft l _ hl).1 nq
            · exact tk_lst upd_same
            · exact .inr nq
          have haF : a ∈ fs1 i := by rw [hF]; exact List.mem_cons_self
          have nF := R1.nd i
          rw [hF] at nF
          have nq1 : q ∉ fs1 i := fun z => (R1.ft i q z).1 nq
          rw [hF] at nq1
          have l3 : Later Z1 H1 Z1 (upd (upd H1 q (.lst [])) a (.dK (putK (ks.zip xs) ky (.ref q)))) := by
            have l4 := later_upd (o' := .dK (putK (ks.zip xs) ky (.ref q))) (Rg.dz i a haF) (Rg.ft i a haF)
            have l5 := gr.later
            exact ⟨fun a z => l4.z a (l5.z a z), fun a o z h => l4.k a o (l5.z a z) (l5.k a o z h), fun a xs h => l4.tup a xs (l5.tup a xs h), fun a o u h => l4.frz a o u (l5.frz a o u h)⟩
          have keep3 : ∀ b, b ≠ a → ∀ o, H1 b = some o → upd (upd H1 q (.lst [])) a (.dK (putK (ks.zip xs) ky (.ref q))) b = some o := fun b hb o e => by
            rw [upd_ne hb, upd_ne (fun z => by rw [z, nq] at e; cases e)]
            exact e
          obtain ⟨na, nF0⟩ := List.nodup_cons.mp nF
          have owq : Own C Z1 (upd (upd H1 q (.lst [])) a (.dK (putK (ks.zip xs) ky (.ref q)))) (.ref q) (.lst []) [q] := .lst (by rw [upd_ne (Ne.symm aq), upd_same]) .nil
          have ol3 := OwnL.snoc (ol.later l3 fun b hb o e => keep3 b (fun z => na (by rw [← z]; exact hb)) o e) owq
          have ow3 : Own C Z1 (upd (upd H1 q (.lst [])) a (.dK (putK (ks.zip xs) ky (.ref q)))) (.ref a) (.dK (ks ++ [ky]) (ms ++ [.lst []])) (a :: (F0 ++ [q])) := .dK (by rw [upd_same, putK_end hl hx]) (by simp [hl]) ol3
          obtain ⟨R3, x3⟩ := Rg.write gr.ext sq haF hu hpv hcase (G := a :: (F0 ++ [q])) (fun b hb => by
            rw [hF]
            rcases List.mem_cons.mp hb with rfl | hb
            · exact .inl List.mem_cons_self
            · rcases List.mem_append.mp hb with hb | hb
              · exact .inl (List.mem_cons_of_mem _ hb)
              · exact .inr hb) (List.nodup_cons.mpr ⟨fun z => by
                rcases List.mem_append.mp z with z | z
                · exact na z
                · rw [List.mem_singleton] at z; exact aq z, List.nodup_append.mpr ⟨nF0, List.nodup_cons.mpr ⟨fun z => (by cases z), List.nodup_nil⟩, fun b hb c hc z => by
                  rw [List.mem_singleton] at hc
                  subst hc; subst z
                  exact nq1 (List.mem_cons_of_mem _ hb)⟩⟩) ow3 (tk_dK upd_same)
          have hi : i < σ1.length := by rcases hor1 with q | q <;> exact (List.getElem?_eq_some_iff.mp q).1
          split at h1
          · rename_i hkl
            obtain ⟨m, j', ms', hor2, hp, hkd⟩ := isKL_ok hkl
            obtain ⟨u2, hu2, ow2, _⟩ := R3.slotM hor2
            rw [hu] at hu2
            cases hu2
            obtain ⟨r, y, A, Fj, B, K⟩ := own_kid ow2 (d1.later l3) hp hkd
            have hr : a = r := by have := K.ev; cases this; rfl
            subst hr
            obtain ⟨ky', e1, e2⟩ := K.at_ _ upd_same
            have : ky = ky' := kV_inj (hkv.symm.trans e1)
            subst this
            rw [valV_put, if_pos rfl] at e2
            cases e2
            have hw : ∃ w, σ2[i]? = some (some w) ∧ (w = .own m ∨ w = .io m) := by
              rcases hor2 with q | q
              · exact ⟨_, q, .inl rfl⟩
              · exact ⟨_, q, .inr rfl⟩
            obtain ⟨w, hw, hmw⟩ := hw
            exact app_tail g.hK R3 hw hmw hu hp hkd K (h1.shift x3)
          · exact h1.elim
  · exact h.elim
end
end PY
set_option Elab.async false
set_option linter.all false
set_option maxRecDepth 100000
set_option maxHeartbeats 3200000
/-! # PySound23: sorted(set(x)), x.count(y), list(d.values()), list(range(n)) -/
namespace PY
open PySem PySem.Spec PyProof.Rows L2

/-! ### set(x) of a list of ints -/
/-- a set as it is made -/
abbrev freshSet (w : World) : Obj := { cls := .type "set", dict := none, data := .set #[] 0 (.fresh 0 0 (!w.params.followText "set-order")) }
theorem made_set {P : Program} {w : World} {A : Around} {E : Value → Shared → Prop} {s : Shared} {l : Addr} {its : Array Value} (ns : List Int) {Q : Value → Shared → Prop} (free : A.handled = none) (isl : s.heap.IsList l its) (hin : IntsAre its.toList ns) (few : ns.length + 1 < scanBound)
    (k : ∀ (h' : Heap) (tk c : Nat), SetR w h' s.heap.objs.size (fun j => decide (j ∈ ns)) c → (∀ b o, s.heap.get? b = some o → h'.get? b = some o) → Q (.ref s.heap.objs.size) { s with heap := h', toks := tk }) :
    wpAny (model P w) A (call (.type "set") [.ref l]) Q E s := by
  have sz : its.size = ns.length := by rw [← Array.length_toList]; exact hin.length
  obtain ⟨cm, tm, hm⟩ := PySem.F.called_set.mro
  have m1 := PySem.F.called_set.made; have m2 := PySem.F.called_set.sub
  refine wpAny_call (codeAny_of_tree (?_ : wpAny _ _ (callAny (.type "set") _) _ _ _))
  refine wpAny_pure ⟨Code.quiet_builtin _ (by decide +kernel), (codeAny_builtin PySem.F.entry_type_call ?_)⟩
  rw [Around.under_plain (weight_type_call_type "set" [.ref l] []) rfl]
  have m3 := PySem.F.called_set.notType; have m4 := PySem.F.called_set.canCreate
  have m5 := F.typeCall_set_1 (.ref l)
  repeat (any_goals (first | assumption | wp_step))
  refine codeAny_mono (code_set_led1 (.ref l) (E := E) (Q₁ := fun v s1 => v = .ref s.heap.objs.size ∧ s1 = { s with heap := s.heap.push (freshSet w) }) ⟨rfl, rfl⟩) fun r s1 hr => ?_
  cases r with
  | error e => exact hr
  | ok fl => cases fl with
    | ret v =>
      obtain ⟨rfl, rfl⟩ := hr
      have at0 : (s.heap.push (freshSet w)).get? s.heap.objs.size = some (freshSet w) := Heap.get?_push_size _ rfl
      have ty0 : Shared.TypeIs { s with heap := s.heap.push (freshSet w) } (.ref s.heap.objs.size) "set" := ⟨_, at0, rfl⟩
      have i1 := PySem.F.called_set.init.lookup; have i2 := PySem.F.called_set.init.bind (.ref s.heap.objs.size)
      repeat (any_goals (first | assumption | wp_step))
      refine codeAny_mono (codeAny_call_builtin (R := wants (fun r s2 => r = .none ∧ ∃ h' tk c, s2 = { s with heap := h', toks := tk } ∧ SetR w h' s.heap.objs.size (fun j => decide (j ∈ ns)) c ∧ ∀ b o, s.heap.get? b = some o → h'.get? b = some o) E) PySem.F.called_set.init.plain PySem.F.entry_set_init (check_set_init_1 ty0 ?_)) fun r2 s2 hr2 => ?_
      · obtain ⟨⟨oc, od, odt, os⟩, ho, hc, nl, hd⟩ := isl
        simp only at hc hd
        subst hc; subst hd
        have ho' : (s.heap.push (freshSet w)).get? l = some { cls := .type "list", dict := od, data := .seq its nl, slots := os } := Heap.get?_push_of_some _ ho
        have il : (s.heap.push (freshSet w)).IsList l its := ⟨_, ho', rfl, nl, rfl⟩
        have n1 := F.sub_list_set; have n2 := F.sub_list_frozenset
        have n3 : (Value.type "list" == Value.type "dict") = false := by decide
        unfold Builtin.«set.__init__» noKeywords Builtin.Frozenset.updateFrom
        generalize hI : pyIter = I
        wp_walk
        subst hI
        refine wpAny_pyIter_list il (wpAny_bind (wpAny_runValue ?_))
        have ls : l < s.heap.objs.size := Heap.lt_size ho
        have free3 : A.in1.in1.in1.handled = none := by simp [free]
        have z1 : (s.heap.push (freshSet w)).objs.size = s.heap.objs.size + 1 := Heap.size_push _ _
        have ne1 : l ≠ (s.heap.push (freshSet w)).objs.size := by rw [z1]; exact Nat.ne_of_lt (Nat.lt_succ_of_lt ls)
        have ne2 : s.heap.objs.size ∉ [(s.heap.push (freshSet w)).objs.size, l] := by
          rw [z1]
          intro q
          rcases List.mem_cons.mp q with q | q
          · exact absurd q (Nat.ne_of_lt (Nat.lt_succ_self _))
          · exact absurd (List.mem_singleton.mp q) (Nat.ne_of_gt ls)
        refine set_update_ints ((Walks.list free3 _ l ne1 its).toS) s.heap.objs.size ne2 ns sz few (fun i v hv => ?_) (its.size - 0) 0 _ (by omega) (Nat.zero_le _) ⟨⟨_, Heap.get?_push_size _ rfl, rfl, rfl⟩, il.push _⟩ ⟨0, Nat.le_refl 0, setR_new_at (Heap.get?_push_of_some _ at0)⟩ fun s3 c3 mv _ st => ?_
        · have hi : i < ns.length := by rw [← sz]; exact (Array.getElem?_eq_some_iff.mp hv).1
          obtain ⟨t, e⟩ := IntsAre.int_at hin i v (by rw [Array.getElem?_toList]; exact hv)
          exact ⟨ns[i], t, List.getElem?_eq_getElem hi, by rw [e, List.getD_eq_getElem?_getD, List.getElem?_eq_getElem hi]; rfl⟩
        · obtain ⟨h3, g3, d3, t3, o3⟩ := s3
          obtain rfl : g3 = s.gens := mv.gens
          obtain rfl : d3 = s.drawn := mv.drawn
          obtain rfl : o3 = s.os := mv.os
          show wpAny _ _ _ _ _ _
          refine wpAny_pure (?_ : wpAny _ _ (ret Value.none) _ _ _)
          refine wpAny_pure ⟨rfl, h3, t3, c3, rfl, st, fun b o e => ?_⟩
          have hb := Heap.lt_size e
          refine mv.heap b o (fun q => ?_) (Heap.get?_push_of_some _ (Heap.get?_push_of_some _ e))
          rw [z1] at q
          rcases List.mem_cons.mp q with q | q
          · exact absurd q (Nat.ne_of_lt hb)
          · exact absurd (List.mem_singleton.mp q) (Nat.ne_of_lt (Nat.lt_succ_of_lt hb))
      · cases r2 with
        | error e => exact hr2
        | ok f2 => cases f2 with
          | ret r =>
            obtain ⟨rfl, h3, tk, c, rfl, st, kp⟩ := hr2
            repeat (any_goals (first | assumption | wp_step))
            exact k _ _ c st kp
          | _ => exact hr2.elim
    | _ => exact hr.elim

/-! ### rising, each once -/
theorem mem_insD {k j : Int} : ∀ {l : List Int}, j ∈ insD k l ↔ j = k ∨ j ∈ l
  | [] => by simp [insD]
  | a :: r => by
    unfold insD
    split
    · simp
    · split
      · rename_i _ e
        subst e
        simp
      · simp only [List.mem_cons, mem_insD (l := r)]
        constructor
        · rintro (h | h | h)
          · exact .inr (.inl h)
          · exact .inl h
          · exact .inr (.inr h)
        · rintro (h | h | h)
          · exact .inr (.inl h)
          · exact .inl h
          · exact .inr (.inr h)
theorem pw_insD {k : Int} : ∀ {l : List Int}, l.Pairwise (· < ·) → (insD k l).Pairwise (· < ·)
  | [], _ => by simp [insD]
  | a :: r, h => by
    unfold insD
    obtain ⟨h1, h2⟩ := List.pairwise_cons.mp h
    split
    · rename_i q
      refine List.pairwise_cons.mpr ⟨fun b hb => ?_, h⟩
      rcases List.mem_cons.mp hb with rfl | hb
      · exact q
      · exact Int.lt_trans q (h1 b hb)
    · split
      · exact h
      · rename_i q1 q2
        refine List.pairwise_cons.mpr ⟨fun b hb => ?_, pw_insD h2⟩
        rcases mem_insD.mp hb with rfl | hb
        · omega
        · exact h1 b hb
theorem mem_sortD {j : Int} : ∀ {l : List Int}, j ∈ sortD l ↔ j ∈ l
  | [] => by simp [sortD]
  | a :: r => by
    show j ∈ insD a (sortD r) ↔ _
    rw [mem_insD, mem_sortD, List.mem_cons]
theorem pw_sortD : ∀ {l : List Int}, (sortD l).Pairwise (· < ·)
  | [] => List.Pairwise.nil
  | a :: r => pw_insD (pw_sortD (l := r))
theorem pw_same : ∀ {l m : List Int}, l.Pairwise (· < ·) → m.Pairwise (· < ·) → (∀ k, k ∈ l ↔ k ∈ m) → l = m
  | [], [], _, _, _ => rfl
  | [], b :: m, _, _, h => by have := (h b).mpr List.mem_cons_self; cases this
  | a :: l, [], _, _, h => by have := (h a).mp List.mem_cons_self; cases this
  | a :: l, b :: m, h1, h2, h => by
    obtain ⟨p1, p2⟩ := List.pairwise_cons.mp h1
    obtain ⟨q1, q2⟩ := List.pairwise_cons.mp h2
    have e : a = b := by
      rcases List.mem_cons.mp ((h a).mp List.mem_cons_self) with e | e
      · exact e
      · rcases List.mem_cons.mp ((h b).mpr List.mem_cons_self) with e' | e'
        · exact e'.symm
        · have := q1 a e
          have := p1 b e'
          omega
    subst e
    rw [pw_same p2 q2 fun k => ?_]
    constructor
    · intro hk
      rcases List.mem_cons.mp ((h k).mp (List.mem_cons_of_mem _ hk)) with e | e
      · subst e
        have := p1 k hk
        omega
      · exact e
    · intro hk
      rcases List.mem_cons.mp ((h k).mpr (List.mem_cons_of_mem _ hk)) with e | e
      · subst e
        have := q1 k hk
        omega
      · exact e
theorem nd_sortD {l : List Int} : (sortD l).Nodup := pw_sortD.imp fun h => by omega
theorem setR_card {w : World} {h : Heap} {a : Addr} {ns : List Int} {c : Nat} (R : SetR w h a (fun j => decide (j ∈ ns)) c) : c = (sortD ns).length := by
  obtain ⟨o, es, ep, t, _, _, _, _, nd, mem, _, _, hn, _⟩ := R
  have p : (es.toList.map L2.keyOf).Perm (sortD ns) := (List.perm_ext_iff_of_nodup nd nd_sortD).mpr fun k => by
    rw [← mem k, mem_sortD]
    simp
  have := p.length_eq
  rw [List.length_map, Array.length_toList] at this
  omega
section
variable {X : Cx}
def rSetOfI (K : PySem.W.Frag) (w : World) : List V → Hp → VK → Prop := fun vs H Q => ∃ (l : Addr) (ns : List Int), vs = [V.ref l] ∧ SqL K H l (ns.map V.int) ∧ ns.length + 1 < scanBound ∧ ∀ p, H p = none → Q (.ref p) (upd H p (SetO w p (fun j => decide (j ∈ ns)) (sortD ns).length))
theorem cr_setOfI (hc : X.calm = true) : CallR X (.type "set") (rSetOfI X.K X.w) := by
  intro pins s σ H vs us Q I r h
  obtain ⟨l, ns, rfl, hs, hb, q⟩ := h
  rw [Vals.ref1 r]
  obtain ⟨its, rv, pl, hz⟩ := I.list hs
  have hi := ints_of_vals rv
  refine made_set ns (I.ok.hd hc) pl.isList (by simpa using hi) hb fun h' tk c st kp => ?_
  have hc := setR_card st
  subst hc
  exact ⟨.ref _, upd H s.heap.objs.size (SetO X.w s.heap.objs.size _ _), I.laid (t' := tk) kp (Nat.le_refl _) (setO_new st), rfl, q _ (I.hok.fresh (Nat.le_refl _))⟩

/-! ### list(d.values()) -/
def tListVals (te : TE) : TE := fun σ H Q => te σ H fun x H1 => ∃ (d : Addr) (kvs : List (Ky × V)), x = .ref d ∧ H1 d = some (.dK kvs) ∧ ∀ p, H1 p = none → Q (.ref p) (upd H1 p (.lst (kvs.map (·.2))))
theorem vals_at : ∀ {xs : List V} {us : List Value}, xs.length = us.length → (∀ (j : Nat) (x : V) (u : Value), xs[j]? = some x → us[j]? = some u → RelV x u) → Vals xs us
  | [], [], _, _ => .nil
  | [], _ :: _, h, _ => by simp at h
  | _ :: _, [], h, _ => by simp at h
  | x :: xs, u :: us, h, k => .cons (k 0 x u rfl rfl) (vals_at (by simpa using h) fun j a b ha hb => k (j + 1) a b (by simpa using ha) (by simpa using hb))
theorem kv_at : ∀ {kvs : List (Ky × V)} {vs : List (Ky × Value)} {i : Nat} {k : Ky} {v : Value}, KV kvs vs → vs[i]? = some (k, v) → ∃ x, kvs[i]? = some (k, x) ∧ RelV x v
  | [], [], _, _, _, _, e => by simp at e
  | [], _ :: _, _, _, _, h, _ => by cases h
  | _ :: _, [], _, _, _, h, _ => by cases h
  | (k', x) :: _, (k2, v2) :: _, 0, k, v, h, e => by
    cases h with
    | cons r t =>
      simp only [List.getElem?_cons_zero, Option.some.injEq, Prod.mk.injEq] at e
      obtain ⟨rfl, rfl⟩ := e
      have e1 : k' = k2 := r.1
      exact ⟨x, by rw [e1]; rfl, r.2⟩
  | _ :: _, _ :: _, i + 1, k, v, h, e => by
    cases h with
    | cons r t =>
      obtain ⟨x, h1, h2⟩ := kv_at (i := i) t (by simpa using e)
      exact ⟨x, by simpa using h1, h2⟩
variable {o : Expr} {te : TE} {apos mpos p pos : Pos}
theorem pe_listVals (hc : X.calm = true) (ho : PE X o te) (hg : Gl X "list") (hm : X.mg "list" = none) (hbase : attributeBase o "values" X.env (eval o X.env) = eval o X.env) (hline : (apos.endLine == mpos.line) = true)
    (hst : starEach [Expr.Call (.Attribute o "values" apos) [] [] mpos] X.env = (false, eval (Expr.Call (.Attribute o "values" apos) [] [] mpos) X.env) :: starEach [] X.env) :
    PE X (.Call (.Name "list" p) [.Call (.Attribute o "values" apos) [] [] mpos] [] pos) (tListVals te) := by
  constructor
  intro pins s σ H Q I h
  refine wpAny_Call_Name_kw (ld_blt I hg hm boot_list (PyProof.Rows.callWith_type1 ?_ hst rfl))
  rw [hst]
  refine (Calls.spliced_cons ?_ : wpAny _ _ (spliced ((false, eval (.Call (.Attribute o "values" apos) [] [] mpos) X.env) :: backTo pos (starEach [] X.env))) _ _ s)
  refine wpAny_Call_method (T := "dict") (id := "dict.values") hbase rfl hline PySem.F.plainAttrs_dict PySem.F.slot_dict_values PySem.F.type_dict_values (thn (ho.run pins s σ H _ I h) fun u s1 ⟨x, H1, I1, rx, d, kvs, ex, hd, q⟩ => ?_)
  subst ex
  cases rx
  obtain ⟨hz, hs0, vs, kv, dof⟩ := I1.hok d _ hd
  obtain ⟨ep, dat⟩ := dof.dictAt
  have lk : kvs.length = vs.length := KV.length kv
  have I2 : Inv X pins σ H1 { s1 with heap := s1.heap.push { cls := .type "dict_values", data := .fields #[.ref d] } } := I1.kept (t' := s1.toks) fun b ob q => Heap.get?_push_of_some _ q
  refine ⟨dof.typeIs, dof.mapOf.noDict, (?_ : wpAny _ _ (callWith mpos (.builtin "dict.values") [.ref d] [] []) _ X.xe s1)⟩
  refine method_meetsIn PySem.F.slot_dict_values PySem.F.entry_dict_values rfl (PySem.evalArgs_none ⟨rfl, dof.typeIs, PySem.F.args_dict_values_1 _, _, meets_dict_values (mixKind X.prog X.w) d hs0, ⟨vs, dof⟩, Calls.spliced_nil ?_⟩)
  refine PySem.W.kdl_call (PySem.W.kdl_values (knd := mixKind X.prog X.w) (kvs := vs) (ep := ep)) (I1.ok.hd hc) ⟨⟨_, Heap.get?_push_size _ rfl, rfl, rfl⟩, dat.push _⟩ (by omega) fun h' tk acc c kp at' items => ?_
  obtain ⟨i1, i2⟩ := items
  have rv : Vals (kvs.map (·.2)) acc.toList := vals_at (by rw [List.length_map, lk, ← i1]; exact Array.length_toList.symm) fun j x u hx hu => by
    rw [Array.getElem?_toList] at hu
    obtain ⟨k, hk⟩ := i2 j u hu
    obtain ⟨x', h1, h2⟩ := kv_at kv hk
    rw [List.getElem?_map, h1] at hx
    cases hx
    exact h2
  exact ⟨.ref _, upd H1 _ (.lst (kvs.map (·.2))), I2.laid (t' := tk) kp (Nat.le_refl _) (show ObjOk X.prog X.w _ _ _ (.lst (kvs.map (·.2))) from ⟨by rw [List.length_map]; exact hz, acc.toList, c, rv, by rw [Array.toArray_toList]; exact at'⟩), rfl, q _ (I2.hok.fresh (Nat.le_refl _))⟩
end
end PY
set_option Elab.async false
set_option linter.all false
set_option maxRecDepth 100000
set_option maxHeartbeats 400000
/-! # PySound24: a few more calls, as expressions -/
namespace PY
open PySem L2

section
variable {X : Cx} {C : Pl} {pv : V} {Wx : WX} {cl : Nat → List W → Out R} {ex : Expr} {e : E} {σ σ' : St} {Z Z1 Z2 : Zo} {fs fs1 fs2 : Fo} {H H1 H2 : Hp} {σa σb σ1 : Sig} {n : Nat}
theorem denL_map {ns : List Int} : DenL C Z H (ns.map V.int) (ns.map T.int) := by
  induction ns with
  | nil => exact .nil
  | cons n ns ih => exact .cons (.int n) ih
theorem denL_rg : ∀ (n : Nat) (i : Int), DenL C Z H ((List.range n).map fun j : Nat => V.int (i + (j : Int))) (rangeT i n)
  | 0, _ => .nil
  | n + 1, i => by
    rw [List.range_succ_eq_map, List.map_cons, List.map_map, rangeT]
    refine .cons (by rw [show i + ((0 : Nat) : Int) = i by simp]; exact .int i) ?_
    have h : DenL C Z H _ _ := denL_rg n (i + 1)
    have e : ((fun j : Nat => V.int (i + (j : Int))) ∘ Nat.succ) = fun j : Nat => V.int (i + 1 + (j : Int)) := by
      funext j
      show V.int (i + ((j + 1 : Nat) : Int)) = V.int (i + 1 + (j : Int))
      congr 1
      omega
    rw [e]
    exact h
theorem se_sset (g : Gd X C n) {a : Expr} {ea : E} {p p2 p3 pos : Pos} (ha : SE X C pv Wx cl a ea) (hg : Gl X "sorted") (hm : X.mg "sorted" = none) (hg2 : Gl X "set") (hm2 : X.mg "set" = none) (hs : starEach [a] X.env = (false, eval a X.env) :: starEach [] X.env)
    (hs2 : starEach [Expr.Call (.Name "set" p2) [a] [] p3] X.env = (false, eval (.Call (.Name "set" p2) [a] [] p3) X.env) :: starEach [] X.env) :
    SE X C pv Wx cl (.Call (.Name "sorted" p) [.Call (.Name "set" p2) [a] [] p3] [] pos) (.pr1 .sset ea) := by
  refine .of (pe_imp (pe_callB (cr_sortedSet g.calm) hg hm rfl (pa_cons (pe_callTy (cr_setOfI g.calm) hg2 hm2 rfl (pa_cons ha.v pa_nil hs) (by decide) (by decide) hs rfl) pa_nil hs2) (by decide) (by decide) hs2 rfl) fun σ H Q ⟨σa, Z, fs, R, h⟩ => ?_) fun _ => rfl
  simp only [ev] at h
  refine ⟨σa, Z, fs, R, Spec.bindT h fun r σ1 x Z1 fs1 H1 _ R1 e1 d1 h1 => ?_⟩
  cases hp : pf1 .sset r.t with
  | none => rw [hp] at h1; exact h1.elim
  | some t =>
    rw [hp] at h1
    cases ht : r.t with
    | lst ts =>
      rw [ht] at hp d1
      simp only [pf1, Option.bind_eq_some_iff] at hp
      obtain ⟨ns, hns, hp⟩ := hp
      split at hp
      · rename_i hb
        cases hp
        cases d1 with
        | lst z hh dl =>
          rw [dl.ints hns] at hh
          refine ⟨_, ns, rfl, SqL.of hh, by unfold scanBound; omega, fun q nq => ?_⟩
          refine ⟨q, _, _, rfl, upd_same, hb.2, fun ns' q' pw mem len nq' => ?_⟩
          have e : ns' = sortD ns := pw_same pw pw_sortD fun k => by rw [mem, mem_sortD]; simp
          subst e
          have gr : Grow Z1 H1 Z1 (upd H1 q (SetO X.w q (fun j => decide (j ∈ ns)) (sortD ns).length)) := Grow.new0 R1.zt nq
          exact (h1.shift gr.ext).newL (R1.grow gr) denL_map nq'
      · cases hp
    | _ => rw [ht] at hp; simp [pf1] at hp
theorem se_dvals (g : Gd X C n) {a : Expr} {ea : E} {p apos mpos pos : Pos} (ha : SE X C pv Wx cl a ea) (hg : Gl X "list") (hm : X.mg "list" = none) (hbase : attributeBase a "values" X.env (eval a X.env) = eval a X.env) (hline : (apos.endLine == mpos.line) = true)
    (hst : starEach [Expr.Call (.Attribute a "values" apos) [] [] mpos] X.env = (false, eval (Expr.Call (.Attribute a "values" apos) [] [] mpos) X.env) :: starEach [] X.env) :
    SE X C pv Wx cl (.Call (.Name "list" p) [.Call (.Attribute a "values" apos) [] [] mpos] [] pos) (.pr1 .dvals ea) := by
  refine .of (pe_imp (pe_listVals g.calm ha.v hg hm hbase hline hst) fun σ H Q ⟨σa, Z, fs, R, h⟩ => ?_) fun _ => rfl
  simp only [ev] at h
  refine ⟨σa, Z, fs, R, Spec.bindT h fun r σ1 x Z1 fs1 H1 _ R1 e1 d1 h1 => ?_⟩
  cases hp : pf1 .dvals r.t with
  | none => rw [hp] at h1; exact h1.elim
  | some t =>
    rw [hp] at h1
    cases ht : r.t with
    | dK ks ts =>
      rw [ht] at hp d1
      simp only [pf1] at hp
      split at hp
      · cases hp
        cases d1 with
        | @dK a _ xs _ z hh hl dl =>
          refine ⟨a, _, rfl, hh, fun q nq => ?_⟩
          have e : (ks.zip xs).map (·.2) = xs := by
            rw [show (fun x : Ky × V => x.2) = Prod.snd from rfl, List.map_snd_zip (by omega)]
          rw [e]
          exact h1.newL R1 dl nq
      · cases hp
    | _ => rw [ht] at hp; simp [pf1] at hp
theorem se_lrng (g : Gd X C n) {a : Expr} {ea : E} {p p2 p3 pos : Pos} (ha : SE X C pv Wx cl a ea) (hg : Gl X "list") (hm : X.mg "list" = none) (hg2 : Gl X "range") (hm2 : X.mg "range" = none) (hs : starEach [a] X.env = (false, eval a X.env) :: starEach [] X.env)
    (hs2 : starEach [Expr.Call (.Name "range" p2) [a] [] p3] X.env = (false, eval (.Call (.Name "range" p2) [a] [] p3) X.env) :: starEach [] X.env) :
    SE X C pv Wx cl (.Call (.Name "list" p) [.Call (.Name "range" p2) [a] [] p3] [] pos) (.pr1 .lrng ea) := by
  refine .of (pe_imp (pe_listRg g.calm hg hm (prg_1 hg2 hm2 ha.v hs) hs2) fun σ H Q ⟨σa, Z, fs, R, h⟩ => ?_) fun _ => rfl
  simp only [ev] at h
  refine ⟨σa, Z, fs, R, Spec.bindT h fun r σ1 x Z1 fs1 H1 _ R1 e1 d1 h1 => ?_⟩
  cases hp : pf1 .lrng r.t with
  | none => rw [hp] at h1; exact h1.elim
  | some t =>
    rw [hp] at h1
    cases ht : r.t with
    | int i =>
      rw [ht] at hp d1
      simp only [pf1] at hp
      split at hp
      · rename_i hb
        cases hp
        cases d1
        obtain ⟨b1, b2⟩ := big_iff.mp hb.1
        have b3 := hb.2
        rw [sizeLine_eq] at b3
        refine ⟨i, rfl, ⟨by omega, by omega, b1, b2, by omega⟩, fun q nq => ?_⟩
        have e : rgV 0 i = (List.range i.toNat).map fun j : Nat => V.int (0 + (j : Int)) := by
          unfold rgV
          rw [Int.sub_zero]
        rw [e]
        exact h1.newL R1 (denL_rg _ _) nq
      · cases hp
    | _ => rw [ht] at hp; simp [pf1] at hp
theorem se_count (g : Gd X C n) {a b : Expr} {ea eb : E} {apos cpos : Pos} (ha : SE X C pv Wx cl a ea) (hb : SE X C pv Wx cl b eb) (hbase : attributeBase a "count" X.env (eval a X.env) = eval a X.env)
    (hfew : ((backTo cpos (starEach (b :: []) X.env)).all (fun x => !x.1) && (backToKw cpos (keywordEach [] X.env)).all (fun x => x.1.isSome) && decide ((b :: []).length + ([] : List Keyword).length + (if ([] : List Keyword).isEmpty then 0 else 1) < 30)) = true)
    (hline : (apos.endLine == cpos.line) = true) (hs : starEach (b :: []) X.env = (false, eval b X.env) :: starEach [] X.env) (hplain : (backTo cpos (starEach [] X.env)).any (·.1) = false) :
    SE X C pv Wx cl (.Call (.Attribute a "count" apos) [b] [] cpos) (.pr2 .count ea eb) := by
  refine .of (pe_imp (pe_bm PySem.F.plainAttrs_list PySem.F.slot_list_count PySem.F.type_list_count mt_lcount ha.v (pa_cons hb.v pa_nil hs) hbase hfew hline hs hplain) fun σ H Q ⟨σa, Z, fs, R, h⟩ => ?_) fun _ => rfl
  simp only [ev] at h
  refine ⟨σa, Z, fs, R, Spec.bindT h fun r σ1 x Z1 fs1 H1 _ R1 e1 d1 h1 => ?_⟩
  split at h1
  · rename_i hpre
    cases ht : r.t with
    | lst ts =>
      rw [ht] at d1
      cases d1 with
      | lst z hh dl =>
        refine ⟨.inl ⟨rfl, _, SqL.of hh⟩, σ1, Z1, fs1, R1, h1.bindT fun r' σ2 y Z2 fs2 H2 _ R2 e2 d2 h2 => ?_⟩
        rw [ht] at h2
        cases hp : pf2 .count (.lst ts) r'.t with
        | none => rw [hp] at h2; exact h2.elim
        | some t =>
          rw [hp] at h2
          cases ht' : r'.t with
          | int k =>
            rw [ht'] at hp d2
            simp only [pf2, Option.map_eq_some_iff] at hp
            obtain ⟨ns, hns, rfl⟩ := hp
            cases d2
            have l2 := e2.later R1
            have hh2 := l2.k _ _ z hh
            rw [dl.ints hns] at hh2
            exact ⟨_, ns, k, rfl, rfl, SqL.of hh2, h2.fin R2 (.int _)⟩
          | _ => rw [ht'] at hp; simp [pf2] at hp
    | _ => rw [ht] at hpre; simp [pre2] at hpre
  · exact h1.elim
end
end PY
set_option Elab.async false
set_option linter.all false
set_option maxRecDepth 100000
set_option maxHeartbeats 1000000
/-! # PySound25: the own exceptions' __init__ -/
namespace PY
open PySem PySem.Spec PyProof.Rows L2

/-- super().__init__(value); self.value = value -/
def iniBody (p0 p1 p2 p3 p4 p5 p6 p7 p8 p9 : Pos) : List Stmt :=
  [.Expr (.Call (.Attribute (.Call (.Name "super" p0) [] [] p1) "__init__" p2) [.Name "value" p3] [] p4) p5,
    .Assign [.Attribute (.Name "self" p6) "value" p7] (.Name "value" p8) p9]
/-- the class at C has it from the class at D -/
structure IniC (K : PySem.W.Frag) (D C : Addr) : Prop where
  oex : OexC K C
  sup : PySem.W.ks_superIn K C D "__init__" = some (some (.builtin "ValueError.__init__"))
  mro : PySem.W.mroIn K C (.ref D) = some true
  subV : PySem.W.subIn K (.ref C) (.type "ValueError") = some true
  noF : PySem.W.findIn K (.ref C) "value" = some none
structure IniF (P : Program) (K : PySem.W.Frag) (D f : Addr) (fd : FuncData) : Prop where
  ex : ∃ (oc dV kV doc pm ct ccl cl : Value) (od an cdd cld : Option Addr) (osl ccs csl : Array (Option Value)) (params : Arguments) (scope : Scope) (cda cc : Addr) (vs : Array Value) (file : Str) (tf : Tok) (cdD : ClassData) (p0 p1 p2 p3 p4 p5 p6 p7 p8 p9 : Pos) (ar : Arg),
    fd = PySem.W.ksFn "__init__" "PictureError.__init__" params (iniBody p0 p1 p2 p3 p4 p5 p6 p7 p8 p9) scope dV kV doc pm an (.ref cda) ct cc ∧
    K.lookup f = some ⟨oc, od, .func fd, osl⟩ ∧ PySem.W.codeIn K (.ref cda) "PictureError.__init__" = true ∧
    K.lookup cda = some ⟨ccl, cdd, .fields vs, ccs⟩ ∧ vs[2]? = some (.str file tf) ∧ ((P.main.file : Str) == file) = true ∧
    K.lookup cc = some ⟨cl, cld, .cell (some (.ref D)), csl⟩ ∧ PySem.W.clsIn K D = some cdD ∧
    (params.posonlyargs ++ params.args).head? = some ar ∧ ar.arg = "self" ∧ scope.kind = .function ∧ scope.isCoroutine = false ∧ scope.isGenerator = false ∧
    scope.names.lookup ("super" : Str) = some .globalImplicit ∧ scope.names.lookup ("__class__" : Str) = some .free ∧ scope.names.lookup ("self" : Str) = some .local ∧ scope.names.lookup ("value" : Str) = some .local ∧
    (∀ x ∈ scope.names, x.2 ≠ .cell) ∧ (∀ x ∈ scope.names, x.2 = .free → x.1 = "__class__") ∧ (p2.endLine == p4.line) = true
  sup : PySem.W.nsIn K mainGlobals "super" = some none
  st : PySem.W.nsIn K cStatics "thirdparty.any" = some none
  top : (P.main.scope.names.lookup ("super" : Str)).isSome = false
def spIni (K : PySem.W.Frag) (D : Addr) : Sp := fun vs H Q _ => ∃ (a C : Addr) (y : V), vs = [.ref a, y] ∧ IniC K D C ∧ H a = some (exo a C none) ∧ ∀ dx, H dx = none → dx ≠ a → Q .non (upd (upd H dx (exd dx [("value", y)])) a (exo a C (some dx)))
abbrev iniN : List Str := ["self", "value"]

section
variable {P : Program} {w : World} {K : PySem.W.Frag} {mg : Str → Option Value} {base : Heap} {CX : CXT} {D f : Addr} {fd : FuncData}
/-- ValueError.__init__ bound to the exception, called -/
theorem bound_ok {X : Cx} {pins : List (Addr × Obj)} {σ : L2.St} {H : Hp} {s : Shared} {a C u : Addr} {A : Around} {E : Value → Shared → Prop} {us : List Value} {Q : Value → Shared → Prop} (T : OexC X.K C) (I : Inv X pins σ H s) (e : H a = some (exo a C none)) (hu : s.heap.get? u = some (PySem.W.kxs_mw "ValueError.__init__" a)) (hl : us.length ≤ sizeLine)
    (h : ∀ s', Inv X pins σ H s' → Q .none s') : wpAny (model X.prog X.w) A (call (.ref u) us) Q E s := by
  obtain ⟨nm, q, N, bs, bm, sn, sub, ab, col, dd, k0, k1, k2, k3, k5, hC, hbm⟩ := T.cls
  obtain ⟨t1, ho⟩ := exo_at I.hok e
  obtain ⟨hp, g, d, t, os⟩ := s
  have FB := PySem.F.excBase_ValueError
  refine wpAny_call (codeAny_of_tree ?_)
  show wpAny _ A.in1 (callAny (.ref u) ⟨us, []⟩) _ _ _
  simp only [callAny]
  refine wpAny_bind (wpAny_load hu ?_)
  simp only [PySem.W.kxs_mw, show (Value.type "method-wrapper" == Value.type "method" || Value.type "method-wrapper" == Value.type "builtin_function_or_method" || Value.type "method-wrapper" == Value.type "method-wrapper") = true by decide, if_true]
  refine PySem.W.KFB.if_so (by decide) ?_
  refine wpAny_bind (PySem.W.check_bound_init FB.toExcCallFacts (I.kIn _ _ hC) ho rfl ?_)
  refine wpAny_bind (wpAny_pure (wpAny_pure ?_))
  refine ⟨plainId_quiet FB.init.plain _, codeAny_builtin FB.initEntry ?_⟩
  refine PySem.W.exc_init_tree (cls := .ref C) (t0 := t1) (dv := none) (c2 := .none) (c3 := .none) (b4 := .bool false) ho hl fun h' k hx _ => ?_
  have J := I.write (t' := t) (x := a) (e := a) (o := exo a C none) (by rw [e]; exact True.intro) (.inl rfl) k ⟨_, hx⟩ (exo_ok hx)
  have eu : upd H a (exo a C none) = H := by
    funext b
    by_cases hb : b = a
    · rw [hb, upd_same, e]
    · rw [upd_ne hb]
  rw [eu] at J
  exact h _ J
theorem fsts_free {scope : Scope} (h : ∀ x ∈ scope.names, x.2 = .free → x.1 = "__class__") {x : Str} (k : scope.names.lookup x = some .free) : x = "__class__" := h (x, .free) (PySem.mem_of_lookup k) rfl
theorem clo_lookup {x : Str} {c cc : Addr} (h : List.lookup x [("__class__", cc)] = some c) : x = "__class__" ∧ c = cc := by
  rw [List.lookup] at h
  by_cases e : x = "__class__"
  · subst e
    refine ⟨rfl, ?_⟩
    simpa using h.symm
  · have e2 : (x == ("__class__" : Str)) = false := by simpa using e
    rw [e2] at h
    cases h
def iniX (P : Program) (w : World) (K : PySem.W.Frag) (mg : Str → Option Value) (base : Heap) (scope : Scope) (f cda cc : Addr) (A : Around) (outer : List Env) (s : Shared) (H : Hp) : Cx where
  prog := P
  w := w
  K := K
  mg := mg
  base := base
  A := A.deeper (PySem.W.ksEnv "PictureError.__init__" scope s.heap.objs.size f (.ref cda) cc)
  N := iniN
  s_0 := s
  H_0 := H
  env := PySem.W.ksEnv "PictureError.__init__" scope s.heap.objs.size f (.ref cda) cc
  outer := outer
  stack := PySem.W.ksEnv "PictureError.__init__" scope s.heap.objs.size f (.ref cda) cc :: outer
  ex := []
  calm := true
  fn := fun x => x != "__class__"
  pn := []
  xe := fun _ _ => False
theorem iniX_start {scope : Scope} {cda cc : Addr} {A : Around} {outer : List Env} {s : Shared} {H : Hp} {h₀ : Heap} {t : Nat} {a : Addr} {y : V} {u : Value} {cl : Value} {cld : Option Addr} {csl : Array (Option Value)} (hd : A.handled = none) (e0 : Env0 P w K mg base A outer s H) (hk : scope.kind = .function) (hself : scope.names.lookup ("self" : Str) = some .local) (hval : scope.names.lookup ("value" : Str) = some .local)
    (hcell : ∀ x ∈ scope.names, x.2 ≠ .cell) (hfree : ∀ x ∈ scope.names, x.2 = .free → x.1 = "__class__") (hcc : K.lookup cc = some ⟨cl, cld, .cell (some (.ref D)), csl⟩) (r : RelV y u)
    (hns : h₀.Ns s.heap.objs.size fun x => (iniN.zip [Value.ref a, u]).reverse.lookup x) (kk : ∀ b o, s.heap.get? b = some o → h₀.get? b = some o) :
    Inv (iniX P w K mg base scope f cda cc A outer s H) [] [some (.ref a), some y] H { s with heap := h₀, toks := t } := by
  have noA : ∀ b : Addr, b ∉ (iniX P w K mg base scope f cda cc A outer s H).ex := fun b z => absurd (show b ∈ ([] : List Addr) from z) (by simp)
  have hcb := e0.mod.kin _ _ hcc
  have cx : ∀ x c, (iniX P w K mg base scope f cda cc A outer s H).env.cells.lookup x = some c → x = "__class__" ∧ c = cc := fun x c e => clo_lookup e
  refine ⟨⟨e0.mod, hk, rfl, rfl, Nat.le_refl _, fun x z c h1 h2 => (cx x c h1).1.trans (cx z c h2).1.symm, fun x hx => ?_, fun x c h1 h2 => ?_, fun _ => hd, Around.frames_deeper e0.frames, .inr ⟨rfl, rfl⟩, fun b z => absurd z (noA b), e0.bs, e0.bsz, fun b _ _ => noA b, fun b z => absurd z (noA b), e0.funs, e0.frf⟩,
    rfl, e0.bare, Un.kept kk, ⟨_, hns, fun i x v h1 h2 h3 => ?_⟩, fun x c h => ?_, e0.hok.fresh (Nat.le_refl _), fun x c h => ?_, fun p hp => absurd (show p ∈ ([] : List (Addr × Obj)) from hp) (by simp), e0.hok.kept kk, rfl⟩
  · have hx : scope.names.lookup x = some .cell ∨ scope.names.lookup x = some .free := hx
    rcases hx with hx | hx
    · exact absurd rfl (hcell _ (PySem.mem_of_lookup hx))
    · have e := fsts_free hfree hx
      subst e
      exact ⟨cc, by rfl⟩
  · obtain ⟨e, _⟩ := cx x c h2
    subst e
    cases h1
  · match i with
    | 0 =>
      cases h1
      cases h2
      exact ⟨.ref a, rfl, .inl ⟨hself, by rfl⟩⟩
    | 1 =>
      cases h1
      cases h2
      exact ⟨u, r, .inl ⟨hval, by rfl⟩⟩
    | i + 2 => cases h1
  · obtain ⟨_, e⟩ := cx x c h
    subst e
    exact ⟨some (.ref D), _, kk _ _ (e0.bs _ _ hcb).1, rfl⟩
  · obtain ⟨_, e⟩ := cx x c h
    subst e
    exact (e0.bs _ _ hcb).2
theorem ini_eval (env : Env) (p0 p1 p2 p3 p4 : Pos) (hp : (p2.endLine == p4.line) = true) : eval (.Call (.Attribute (.Call (.Name "super" p0) [] [] p1) "__init__" p2) [.Name "value" p3] [] p4) env = (do
      let ov ← attributeBase (.Call (.Name "super" p0) [] [] p1) "__init__" env (eval (.Call (.Name "super" p0) [] [] p1) env)
      standAt p2.atName
      let (f, first) ← holding [ov] (getMethod ov "__init__" (do return (← importBound (.Call (.Name "super" p0) [] [] p1) env).getD true))
      callWith p4 f first (backTo p4 (starEach [.Name "value" p3] env)) []) := by
  have h0 : eval (.Call (.Attribute (.Call (.Name "super" p0) [] [] p1) "__init__" p2) [.Name "value" p3] [] p4) env = (do
      let ov ← attributeBase (.Call (.Name "super" p0) [] [] p1) "__init__" env (eval (.Call (.Name "super" p0) [] [] p1) env)
      standAt p2.atName
      methodCall (.Call (.Name "super" p0) [] [] p1) "__init__" p2 p4 env ov 1 (backTo p4 (starEach [.Name "value" p3] env)) []) := by
    rfl
  rw [h0]
  unfold methodCall methodCallPos calleeOf
  have hf : methodCallForm 1 (backTo p4 (starEach [.Name "value" p3] env)) [] = true := rfl
  simp only [hf, hp, Bool.not_true, Bool.false_or, if_true, pure_bind]
theorem ini_body {X : Cx} {scope : Scope} {L cda cc a C : Addr} {y : V} {s : Shared} {H : Hp} {E : Value → Shared → Prop} {Q : VK} {oc ccl cl : Value} {od cdd cld : Option Addr} {osl ccs csl : Array (Option Value)} {params : Arguments} {vs : Array Value} {file : Str} {tf : Tok} {cdD : ClassData} {p0 p1 p2 p3 p4 p5 p6 p7 p8 p9 : Pos} {ar : Arg} {fd : FuncData} {kk : FuncData → Arguments}
    (he : X.env = PySem.W.ksEnv "PictureError.__init__" scope L f (.ref cda) cc) (hN : X.N = iniN) (hx : X.xe = fun _ _ => False) (I : Inv X [] [some (.ref a), some y] H s) (hfd : fd.params = params) (lk : X.K.lookup f = some ⟨oc, od, .func fd, osl⟩)
    (hcda : X.K.lookup cda = some ⟨ccl, cdd, .fields vs, ccs⟩) (hvs : vs[2]? = some (.str file tf)) (hfile : ((X.prog.main.file : Str) == file) = true) (hcc : X.K.lookup cc = some ⟨cl, cld, .cell (some (.ref D)), csl⟩) (hD : PySem.W.clsIn X.K D = some cdD)
    (har : (params.posonlyargs ++ params.args).head? = some ar) (harg : ar.arg = "self") (hk : scope.kind = .function) (hsup : scope.names.lookup ("super" : Str) = some .globalImplicit) (hcls : scope.names.lookup ("__class__" : Str) = some .free) (hself : scope.names.lookup ("self" : Str) = some .local) (hval : scope.names.lookup ("value" : Str) = some .local)
    (nsup : PySem.W.nsIn X.K mainGlobals "super" = some none) (st : PySem.W.nsIn X.K cStatics "thirdparty.any" = some none) (top : (X.prog.main.scope.names.lookup ("super" : Str)).isSome = false)
    (IC : IniC X.K D C) (ha : H a = some (exo a C none)) (hq : ∀ dx, H dx = none → dx ≠ a → Q .non (upd (upd H dx (exd dx [("value", y)])) a (exo a C (some dx)))) (hp24 : (p2.endLine == p4.line) = true) :
    PySem.wpAt (model X.prog X.w) X.A (.func (iniBody p0 p1 p2 p3 p4 p5 p6 p7 p8 p9) X.env) (execs (iniBody p0 p1 p2 p3 p4 p5 p6 p7 p8 p9) X.env) (fun fl s' => fl = .next ∧ ∃ σ' H', Inv X [] σ' H' s' ∧ Q .non H') E s := by
  have envk : X.env.scope = scope := by rw [he]
  have pV : ∀ {p : Pos}, PE X (.Name "value" p) (tVar 1) := fun {p} => pe_var (by rw [hN]; rfl) (.inl (by rw [envk]; exact hval))
  have pS : ∀ {p : Pos}, PE X (.Name "self" p) (tVar 0) := fun {p} => pe_var (by rw [hN]; rfl) (.inl (by rw [envk]; exact hself))
  refine PySem.ks_wpAt_execs_cons (PySem.ks_wpAt_Expr_any ?_ ?_ ?_)
  · refine' PySem.ks_wpAt_MethodCall ?h ?hcall
    case hcall => exact ini_eval _ _ _ _ _ _ hp24
    refine PySem.ks_wpAt_super_base (f := f) (fd := fd) (ar := ar) (cc := cda) (file := file) (tf := tf) (vs := vs) ?_ ?_ (by decide) (by rw [he]) (I.kIn _ _ lk) rfl (by rw [hfd]; exact har) (by rw [he]) (I.kIn _ _ hcda) rfl hvs hfile top ?_
    · rw [he]; exact hsup
    · rw [he]; exact hcls
    obtain ⟨oD, hD1, hD2⟩ : ∃ oD, s.heap.get? D = some oD ∧ oD.data = .cls cdD := by
      unfold PySem.W.clsIn at hD
      split at hD
      · rename_i c d cd' sl ho
        cases hD
        exact ⟨_, I.kIn _ _ ho, rfl⟩
      · cases hD
    obtain ⟨mb, hmb, hmb2⟩ := I.ok.mod.blt
    obtain ⟨m, hn, hl⟩ := id I.loc
    have hmself : m "self" = some (.ref a) := by
      obtain ⟨u, hu, hlk⟩ := hl 0 "self" (.ref a) (by rw [hN]; rfl) rfl (.inl (by rw [envk]; exact hself))
      obtain rfl : u = Value.ref a := hu
      rcases hlk with ⟨_, h⟩ | ⟨h | h, _⟩
      · exact h
      · have h' : scope.names.lookup ("self" : Str) = some .cell := by rw [← envk]; exact h
        rw [hself] at h'; cases h'
      · have h' : scope.names.lookup ("self" : Str) = some .free := by rw [← envk]; exact h
        rw [hself] at h'; cases h'
    obtain ⟨t1, ho⟩ := exo_at I.hok ha
    have hbt : bootBuiltins "super" = some (.type "super") := by rfl
    refine PySem.W.ks_loadName_global (by rw [envk]; exact hk) (by rw [he]; exact hsup) ?_
    refine PySem.Calls.loadGlobal_builtin (mg := X.mg) (mb := mb) (by rw [I.ok.glob]; exact I.ok.mod.glob.keeps I.bk) (PySem.W.mg_none_of I.ok.mod.kin I.ok.mod.glob nsup) (by rw [I.ok.blt]; exact hmb.keeps I.bk) ((hmb2 _ (by decide)).trans hbt) ⟨rfl, ?_⟩
    refine wpAny_loadName_free (c := cc) (by rw [envk]; exact hk) (by rw [he]; exact hcls) (by rw [he]; rfl) ⟨_, I.kIn _ _ hcc, rfl⟩ ?_
    rw [harg]
    refine wpAny_loadName_local (by rw [envk]; exact hk) (by rw [he]; exact hself) hn hmself ?_
    obtain ⟨hh, g, d, t, os⟩ := s
    refine PySem.ks_wpAny_isType_cls hD1 hD2 ⟨rfl, ?_⟩
    refine PySem.ks_wpAny_call_super hD1 hD2 ho rfl (fun c e => by cases e) (PySem.W.looks_mroIn I.kIn IC.mro) (fun h' hso kp => ?_)
    have I1 : Inv X [] [some (.ref a), some y] H ⟨h', g, d, t, os⟩ := I.kept (t' := t) kp
    obtain ⟨nm, q, N, bs, bm, sn, sub, ab, col, dd, k0, k1, k2, k3, k5, hC, hbm⟩ := IC.oex.cls
    have IA : PySem.W.InstAt h' a { cls := .ref C, dict := none, data := .fields #[.ref t1, .none, .none, .none, .bool false, .none] } C none := ⟨kp _ _ ho, rfl, rfl, trivial⟩
    have hs2 := IC.sup
    unfold PySem.W.ks_superIn at hs2
    cases hcl : PySem.W.clsIn X.K C with
    | none => rw [hcl] at hs2; cases hs2
    | some cd =>
      rw [hcl] at hs2
      refine PySem.W.kxs_getMethod PySem.W.kxs_ValueError hso (PySem.W.looks_opaque I1.kIn st) (l₀ := cd.mro) ?_ rfl I1.kIn hs2 (IA.type.andThen (PySem.W.looks_subIn I1.kIn IC.subV)) (PySem.W.ks_ne I1.kIn IA hcl) (by decide) ?_
      · exact fun A Q E s k q => wpAny_bind ((PySem.W.looks_clsIn I1.kIn hcl) A _ E s k (wpAny_pure q))
      · -- the method-wrapper, called
        have hnu : H h'.objs.size = none := I1.hok.fresh (Nat.le_refl _)
        have I2 : Inv X [] [some (.ref a), some y] H ⟨h'.push (PySem.W.kxs_mw "ValueError.__init__" a), g, d, t + 1, os⟩ := I1.kept (t' := t + 1) fun b o e => Heap.get?_push_of_some _ e
        have hat : (h'.push (PySem.W.kxs_mw "ValueError.__init__" a)).get? h'.objs.size = some (PySem.W.kxs_mw "ValueError.__init__" a) := Heap.get?_push_at rfl rfl
        have I3 : Inv X [(h'.objs.size, PySem.W.kxs_mw "ValueError.__init__" a)] [some (.ref a), some y] H ⟨h'.push (PySem.W.kxs_mw "ValueError.__init__" a), g, d, t + 1, os⟩ := I2.pins_of fun p hp => by
          rw [List.mem_singleton] at hp
          subst hp
          exact ⟨hat, hnu, Nat.ne_of_gt I1.lt, I1.nofs (Nat.le_refl _), fun v z => by cases z⟩
        refine PySem.W.kxs_callWith (i := "ValueError.__init__") (x := a) rfl (PySem.Calls.evalArgs_plain ?_)
        have hA : PA X [.Name "value" p3] _ := pa_cons pV pa_nil
        refine wpAny_mono (hA.run p4 _ _ _ _ (fun vs H1 => vs = [y] ∧ H1 = H) I3 ?_) (fun us s1 hu => ?_) (fun _ _ z => ?_)
        · exact ⟨y, rfl, rfl, rfl⟩
        · obtain ⟨vs1, H1, I4, r1, e1, e2⟩ := hu
          subst e1 e2
          refine ⟨(I4.pin _ (List.mem_append_right _ List.mem_cons_self)).1, ?_⟩
          have hus : us.length ≤ sizeLine := by
            rw [← Paired.length r1, sizeLine_eq]
            simp
          refine bound_ok IC.oex I4 ha (I4.pin _ (List.mem_append_right _ List.mem_cons_self)).1 hus fun s' J => ?_
          -- self.value = value
          refine PySem.wpAt_of_wpAny (PySem.wpAny_execs_cons (plainObj_wpAny_Assign_Attribute (wpAny_mono (pV.run [] s' _ _ (fun v H' => v = y ∧ H' = H1) (J.pins_of fun p hp => by cases hp) ⟨y, rfl, rfl, rfl⟩) (fun u2 s2 hu2 => ?_) fun _ _ z => ?_) ?_))
          · obtain ⟨v2, H2, J2, r2, e3, e4⟩ := hu2
            subst e3 e4
            refine wpAny_mono (pS.run [] s2 _ _ (fun v H' => v = .ref a ∧ H' = H2) J2 ⟨.ref a, rfl, rfl, rfl⟩) (fun u5 s5 hu5 => ?_) fun _ _ z => ?_
            · obtain ⟨v5, H5, J5, r5, e5, e6⟩ := hu5
              subst e5 e6
              obtain rfl : u5 = Value.ref a := r5
              exact ost_new IC.oex J5 ha IC.noF r2 fun dx s6 n ne J6 => wpAny_execs_nil ⟨rfl, _, _, J6, hq dx n ne⟩
            · rw [hx] at z
              exact z.elim
          · rw [hx] at z
            exact z.elim
          · rfl
        · rw [hx] at z
          exact z.elim
  · exact I.quiet
  · rfl
theorem ini_ok {k : Nat} (F : IniF P K D f fd) : FnOk P w K mg base CX (k + 1) f fd iniN (spIni K D) := by
  obtain ⟨oc, dV, kV, doc, pm, ct, ccl, cl, od, an, cdd, cld, osl, ccs, csl, params, scope, cda, cc, vs, file, tf, cdD, p0, p1, p2, p3, p4, p5, p6, p7, p8, p9, ar, hfd, lk, hcd, hcda, hvs, hfile, hcc, hD, har, harg, hk, hco, hgen, hsup, hcls, hself, hval, hcell, hfree, hp24⟩ := F.ex
  refine ⟨fun vs H Q E h => ?_, fun A outer s H args us vs Q E hr e0 hb r hsp => ?_⟩
  · obtain ⟨a, C, y, rfl, _⟩ := h
    rfl
  obtain ⟨a, C, y, rfl, IC, ha, hq⟩ := hsp
  have KX : K.In s.heap := e0.mod.kin.keeps fun b o e => (e0.bs b o e).1
  have lim : s.heap.NoLimit := e0.mod.nolimit.keeps fun b o e => (e0.bs b o e).1
  obtain ⟨u, rfl, ry⟩ : ∃ u, us = [.ref a, u] ∧ RelV y u := by
    cases r with
    | @cons _ u0 _ ur r0 r1 =>
      obtain rfl : u0 = Value.ref a := r0
      cases r1 with
      | cons r1 r2 =>
        cases r2
        exact ⟨_, rfl, r1⟩
  rw [hfd] at lk hb
  refine PySem.ks_codeAny_call_defAt (body := iniBody p0 p1 p2 p3 p4 p5 p6 p7 p8 p9) (binds := iniN.zip [.ref a, u]) hr.depth (KX _ _ lk) rfl lim (PySem.W.codeRec_of KX hcd) rfl hb hcell (fun x hx => ?_) (fun h₀ hns kk => ?_) hco hgen hk
  · rcases List.mem_cons.mp hx with rfl | hx
    · exact hself
    rcases List.mem_cons.mp hx with rfl | hx
    · exact hval
    · cases hx
  have I : Inv (iniX P w K mg base scope f cda cc A outer s H) [] [some (.ref a), some y] H { s with heap := h₀, toks := s.toks + 2 } := iniX_start hr.hd e0 hk hself hval hcell hfree hcc ry hns kk
  refine PySem.ks_wpAt_mono (ini_body (X := iniX P w K mg base scope f cda cc A outer s H) (kk := fun fd => fd.params) rfl rfl rfl I rfl lk hcda hvs hfile hcc hD har harg hk hsup hcls hself hval F.sup F.st F.top IC ha (Q := Q) hq hp24 (E := fun _ _ => False)) (fun fl s' hs => ?_) fun _ _ z => z.elim
  obtain ⟨rfl, σ', H', J, q⟩ := hs
  exact ⟨.non, H', J.os, J.bare, J.base, J.hok, rfl, q⟩
end
end PY
set_option Elab.async false
set_option linter.all false
set_option maxRecDepth 100000
set_option maxHeartbeats 1000000
/-! # PySound26: raise -/
namespace PY
open PySem PySem.Spec PyProof.Rows L2

/-- what the written part says of an own exception class at C under the one at D -/
structure ClsOk (P : Program) (K : PySem.W.Frag) (C : Pl) (c : Nat) (D fI : Addr) (fdI : FuncData) : Prop where
  known : C.cls c = true
  ini : IniC K D (C.ca c)
  f : IniF P K D fI fdI
  find : PySem.W.findIn K (.ref (C.ca c)) "__init__" = some (some (.ref fI))
  ty : PySem.W.typeIn K (.ref fI) = some (.type "function")
  bi : Binds K fdI iniN []
section
variable {X : Cx} {C : Pl} {pv : V} {Wx : WX} {cl : Nat → List W → Out R} {ex : Expr} {e : E} {σ σ' : L2.St} {Z Z1 Z2 : Zo} {fs fs1 fs2 : Fo} {H H1 H2 : Hp} {σa σb σ1 : Sig} {n c : Nat} {D : Addr} {fI : Addr} {fdI : FuncData} {o : Fl}
/-- the exception is made; nothing else has changed but that its dict stands there -/
theorem raise_made {Q : XK} {y : V} {t : T} (T0 : IniC X.K D (C.ca c)) (hk : C.cls c = true) (R : Rel C pv σ1 σ Z1 fs1 H1) (d : Den C Z1 H1 y t)
    (q : ∀ (d : Option Addr) (H' : Hp) (Z' : Zo), Rel C pv σ1 σ Z' fs1 H' → Ext Z1 fs1 H1 Z' fs1 H' → ExcP C c t d Z' H' → Q (.ref (C.ca c)) d H') {a : Addr} (ha : H1 a = none) :
    spIni X.K D (.ref a :: ([y] ++ [])) (upd H1 a (exo a (C.ca c) none)) (fun v H2 => v = .non ∧ ∃ (d : Addr) (fs : List (Str × V)), H2 a = some (exo a (C.ca c) (some d)) ∧ H2 d = some (exd d fs) ∧ H1 d = none ∧ Q (.ref (C.ca c)) (some d) (upd (del H2 a) d (.xd fs))) (fun _ _ _ => False) := by
  refine ⟨a, C.ca c, y, rfl, T0, upd_same, fun dx hdx ne => ⟨rfl, dx, [("value", y)], upd_same, ?_, ?_, ?_⟩⟩
  · rw [upd_ne ne, upd_same]
  · rw [upd_ne ne] at hdx
    exact hdx
  · have hd1 : H1 dx = none := by rw [upd_ne ne] at hdx; exact hdx
    have e : upd (del (upd (upd (upd H1 a (exo a (C.ca c) none)) dx (exd dx [("value", y)])) a (exo a (C.ca c) (some dx))) a) dx (.xd [("value", y)]) = upd H1 dx (.xd [("value", y)]) := by
      funext b
      by_cases hb : b = dx
      · rw [hb, upd_same, upd_same]
      · rw [upd_ne hb, upd_ne hb]
        by_cases hb2 : b = a
        · rw [hb2, del_same, ha]
        · rw [del_ne hb2, upd_ne hb2, upd_ne hb, upd_ne hb2]
    rw [e]
    have g : Grow Z1 H1 (fun a => Z1 a ∨ a = dx) (upd H1 dx (.xd [("value", y)])) := Grow.new R.zt hd1
    exact q (some dx) _ _ (R.grow g) g.ext ⟨hk, dx, y, rfl, .inr rfl, upd_same, d.later g.later⟩
theorem ss_raise {x : Str} {p pos pos' : Pos} (hr : Room 2 X.A) (calm : X.calm = true) (tk : Takes X Wx) (co : ClsOk X.prog X.K C c D fI fdI) (hg : Gl X x) (hm : X.mg x = some (.ref (C.ca c))) (hdb : (x == ("__debug__" : Str)) = false) (he : PE X ex (tE C pv Wx cl e))
    (hst : starEach [ex] X.env = (false, eval ex X.env) :: starEach [] X.env) : PS X (.Raise (some (.Call (.Name x p) [ex] [] pos)) none pos') (tS C pv Wx cl (.raise c e)) := by
  have F1 : FnOk X.prog X.w X.K X.mg X.base CX0 1 fI fdI iniN (spIni X.K D) := ini_ok co.f
  refine ps_imp (ps_raise calm tk (pmk_oex (k := 1) (ds := []) (dvs := []) co.ini.oex co.find co.ty F1 hr co.bi .nil pass0 hg hm (pa_cons he pa_nil hst) hdb hst rfl)) fun D' σ H ⟨σa, Z, fs, R, h⟩ => ?_
  simp only [evS] at h
  refine ⟨σa, Z, fs, R, FlS.bindT h fun r σ1 v Z1 fs1 H1 _ R1 _ d q => ⟨Nat.le_of_lt (by simp), fun a ha => ?_⟩⟩
  exact raise_made (Q := fun cls d H' => Wx cls d σ H') co.ini co.known R1 d (fun d H' Z' R' x' p => q d σ H' Z' fs1 R' x' p) ha
end
end PY
set_option Elab.async false
set_option linter.all false
set_option maxRecDepth 100000
set_option maxHeartbeats 1000000
/-! # PySound27: try: .. except .. as e: x = e -/
namespace PY
open PySem PySem.Spec PyProof.Rows L2

section
variable {X : Cx} {pins : List (Addr × Obj)} {σ : L2.St} {H : Hp} {s : Shared}
theorem exH_ok {P : Program} {w : World} {h : Heap} {cls : Value} {dd a : Addr} {oe : Obj} {vs : Array Value} (e : h.get? a = some oe) (hz : Zc cls (some dd) oe) (hf : oe.data = .fields vs) : ObjOk P w H h a (exH cls dd a) :=
  ⟨⟨oe, vs, e, hz.1, hz.2, hf⟩, ⟨oe, e⟩, fun h1 h2 z k => by
    obtain ⟨o, us, q, z1, z2, z3⟩ := z
    exact ⟨o, us, k _ q, z1, z2, z3⟩⟩
theorem exH_at {cls : Value} {dd a : Addr} (I : Inv X pins σ H s) (e : H a = some (exH cls dd a)) : ∃ (oe : Obj) (vs : Array Value), s.heap.get? a = some oe ∧ oe.cls = cls ∧ oe.dict = some dd ∧ oe.data = .fields vs := by
  have x : ObjOk X.prog X.w H s.heap a (.ext fun h => ∃ (oe : Obj) (vs : Array Value), h.get? a = some oe ∧ oe.cls = cls ∧ oe.dict = some dd ∧ oe.data = .fields vs) := I.hok a _ e
  exact x.1
/-- a pinned exception is looked after from now on -/
theorem track {a dd : Addr} {oe : Obj} {vs : Array Value} {cls : Value} (I : Inv X ((a, oe) :: pins) σ H s) (hz : Zc cls (some dd) oe) (hf : oe.data = .fields vs) (h0 : X.s_0.heap.get? a = none) (hp : ∀ p ∈ X.pn ++ pins, p.1 ≠ a) : Inv X pins σ (upd H a (exH cls dd a)) s := by
  obtain ⟨e, na, nL, nF, _⟩ := I.pin (a, oe) (List.mem_append_right _ List.mem_cons_self)
  have ne : ∀ {b : Addr} {o : HO}, H b = some o → b ≠ a := fun {b o} q z => by rw [z, na] at q; cases q
  have nc : ∀ x c, X.env.cells.lookup x = some c → c ≠ a := fun x c q z => by
    obtain ⟨v, o, q1, q2⟩ := I.cell x c q
    rw [z] at q1
    have e' : s.heap.get? a = some oe := e
    rw [e'] at q1
    cases q1
    rw [hf] at q2
    cases q2
  refine ⟨I.ok, I.os, I.bare, ⟨I.base.keep, I.base.slot, fun b o q n x => ?_, I.base.there, fun b xs q => ?_, fun b o u q => ?_, fun b ps q => ?_⟩, I.loc, I.cell, ?_, fun x c q => ?_, fun p q => ?_, fun b o q => ?_, I.len⟩
  · have hb : b ≠ a := fun z => by rw [z, h0] at q; cases q
    rw [upd_ne hb]
    exact I.base.free b o q n x
  · have := I.base.tups b xs q
    rw [upd_ne (ne this)]
    exact this
  · have := I.base.frzs b o u q
    rw [upd_ne (ne this)]
    exact this
  · obtain ⟨more, this⟩ := I.base.tbls b ps q
    exact ⟨more, by rw [upd_ne (ne this)]; exact this⟩
  · rw [upd_ne (Ne.symm nL)]
    exact I.free
  · rw [upd_ne (nc x c q)]
    exact I.freeC x c q
  · have hpa := hp p q
    have hq : p ∈ X.pn ++ (a, oe) :: pins := by
      rcases List.mem_append.mp q with z | z
      · exact List.mem_append_left _ z
      · exact List.mem_append_right _ (List.mem_cons_of_mem _ z)
    obtain ⟨q1, q2, q3⟩ := I.pin p hq
    exact ⟨q1, by rw [upd_ne hpa]; exact q2, q3⟩
  · by_cases hb : b = a
    · rw [hb, upd_same] at q
      cases q
      rw [hb]
      exact exH_ok e hz hf
    · rw [upd_ne hb] at q
      exact (I.hok b o q).stay (fun _ _ _ r => r) (fun c r => by rw [upd_ne (ne r)]; exact r) fun c xs r => by rw [upd_ne (ne r)]; exact r
end

/-- what the clause wishes of an exception of the body: the slot j keeps it, i is the clause's own name -/
def wKeep (K : PySem.W.Frag) (c : Value) (i j : Nat) (D : Ends) : WX := fun cls d σ H => ∃ dd, d = some dd ∧ PySem.W.exmOne K cls c = some true ∧ ∀ a, H a = none → D.nx ((σ.set j (some (.ref a))).set i none) (upd H a (exH cls dd a))
section
variable {X : Cx} {x n m : Str} {c : Value} {i j : Nat} {body : List Stmt} {np np2 kp ap pos pos' : Pos} {tb : WX → TS}
theorem ps_tryK (hs : X.stack = X.env :: X.outer) (hf : X.env.frame = some X.env.locals) (hex : X.ex = []) (hN : X.N.Nodup) (hi : X.N[i]? = some n) (hj : X.N[j]? = some m) (hij : i ≠ j) (hln : X.env.kindOf n = some .local) (hlm : Loc X.env.scope m) (hfm : X.fn m = true ∨ X.env.scope.names.lookup m = some .local)
    (hc : Names X x c) (hdb : (n == ("__debug__" : Str)) = false) (hdc : (n == ("__classdict__" : Str)) = false)
    (hb : ∀ (W : WX) (pn : List (Addr × Obj)) (xe : Value → Shared → Prop), Takes (X.tr pn xe) W → PassesOwn (model X.prog X.w) X.A X.env xe → PSs (X.tr pn xe) body (tb W)) :
    PS X (.Try body [.ExceptHandler (some (.Name x np)) (some n) [.Assign [.Name m kp] (.Name n np2) ap] pos'] [] [] pos) (fun D σ H => tb (wKeep X.K c i j D) D σ H) := by
  refine ⟨fun pins s σ H D I h => ?_⟩
  have ok := I.ok
  have frames : X.A.frames = some (X.env :: X.outer) := by rw [ok.frames, hs]
  refine wpAny_Try_except (wpAny_mono ((hb (wKeep X.K c i j D) (X.pn ++ pins) _ (fun u s' xx => ?_) PassesOwn.looking).run [] s σ H D (I.toTry _) h) (fun fl s1 done => ?_) (fun e s1 he => he))
  · obtain ⟨a, B, sI, pins', σ', H', cls, d, rfl, Jt, nb, up, sky, na, os, ag, dd, rfl, hm, yes⟩ := xx
    have J : Inv X pins σ' H' sI := Jt.ofTry ok
    have sky' : Sky B (X.env :: X.outer) a (Zc cls (some dd)) X.env.locals s'.heap := by
      rw [← hs]
      exact sky
    refine Sky.land Zc.steady frames hf sky' fun h3 fl3 up3 => ?_
    have J3 : Inv X pins σ' H' { s' with heap := h3 } := J.landed nb fl3.1 (up.trans up3) os ag
    obtain ⟨oe3, vs3, at3, z3, f3⟩ := fl3.there
    have apart : a ∉ frs (X.env :: X.outer) := fun z => by
      obtain ⟨_, o, q, nf⟩ := fl3.2.2.1.mem z
      rw [at3] at q
      cases q
      exact nf _ f3
    have aL : a ≠ X.env.locals := fun z => apart (List.mem_filterMap.mpr ⟨X.env, List.mem_cons_self, by rw [hf, z]⟩)
    have aF : a ∉ X.fs := fun z => by
      obtain ⟨e, he, q⟩ := List.mem_filterMap.mp z
      exact apart (List.mem_filterMap.mpr ⟨e, List.mem_cons_of_mem _ he, q⟩)
    -- the exception is no object of before
    have newI : sI.heap.get? a = none := by
      cases q : sI.heap.get? a with
      | none => rfl
      | some o =>
        have := nb a o q (by rw [hs]; exact apart)
        rw [fl3.2.1] at this
        cases this
    have new0 : X.s_0.heap.get? a = none := by
      cases q : X.s_0.heap.get? a with
      | none => rfl
      | some o =>
        obtain ⟨o', z⟩ := J.base.there a o q (by rw [hex]; simp)
        rw [newI] at z
        cases z
    have pinA : ∀ p ∈ X.pn ++ pins, p.1 ≠ a := fun p hp z => by
      have := (J.pin p hp).1
      rw [z, newI] at this
      cases this
    have S3 := J3.suite at3 f3 na aL aF
    refine wpAny_handleBy_cons (codeAny_handlers_test ?_) (by intro q; cases q)
    have LT : PySem.W.Looks (model X.prog X.w) h3 (typeOf (.ref a)) cls := fun A Q E s k q => wpAny_typeOf_ref (k _ _ at3) (by rw [z3.1]; exact q)
    have test : ∀ {Q : Value → Shared → Prop} {E : Value → Shared → Prop}, Q c { s' with heap := h3 } → wpAny (model X.prog X.w) (X.A.mark (some (.ref a))) (eval (.Name x np) X.env) Q E { s' with heap := h3 } := fun {Q E} q => by
      obtain ⟨g1, g2, g3 | ⟨g3, g4, g5⟩⟩ := hc
      · exact ld_glob (X := X.suite a ((a, oe3) :: (X.pn ++ pins))) S3 g1 g3 q g2
      · exact ld_blt (X := X.suite a ((a, oe3) :: (X.pn ++ pins))) S3 g1 g3 g4 q g5 g2
    refine test ((PySem.W.exm_one (M := model X.prog X.w) J3.kIn LT hm).here ?_)
    refine codeAny_handlers_suite_as (HandSPX.lands_againZ fl3 fun h4 fl4 up4 => ?_)
    have J4 : Inv X pins σ' H' { s' with heap := h4 } := J.landed nb fl4.1 ((up.trans up3).trans up4) os ag
    obtain ⟨oe4, vs4, at4, z4, f4⟩ := fl4.there
    have S4 := J4.suite at4 f4 na aL aF
    refine store_ok (X := X.suite a ((a, oe4) :: (X.pn ++ pins))) (v := .ref a) S4 hN hi (.inl hln) rfl (fun s5 S5 => ?_) (.inr hln)
    have suite : PSs (X.suite a ((a, oe4) :: (X.pn ++ pins))) [.Assign [.Name m kp] (.Name n np2) ap] (tAsg (tVar i) (gName j)) :=
      pss_one (ps_set (X := X.suite a ((a, oe4) :: (X.pn ++ pins))) hN hj hlm (pe_var (X := X.suite a ((a, oe4) :: (X.pn ++ pins))) hi (.inl hln) hdb hdc) rfl hfm)
    refine wpAny_mono (suite.run [] s5 _ H' { nx := fun σ6 H6 => σ6 = (σ'.set i (some (.ref a))).set j (some (.ref a)) ∧ H6 = H', rt := fun _ _ => False } S5 ⟨.ref a, ?_, rfl, rfl⟩) (fun fl s6 hsp => ?_) (fun _ _ z => z.elim)
    · rw [List.getElem?_set_self (by rw [J.len]; exact (List.getElem?_eq_some_iff.mp hi).1)]
    · have fin : ∀ {Q : Shared → Prop}, Inv (X.suite a ((a, oe4) :: (X.pn ++ pins))) [] ((σ'.set i (some (.ref a))).set j (some (.ref a))) H' s6 → (∀ s7, Inv X pins ((σ'.set j (some (.ref a))).set i none) (upd H' a (exH cls dd a)) s7 → Q s7) →
          wpAny (model X.prog X.w) X.A (do bindName X.env n .none; unbindBehindTheSuite X.env n pos') (fun _ s7 => Q s7) X.xe s6 := fun {Q} S6 hq => by
        have S7 : Inv X ((a, oe4) :: pins) ((σ'.set i (some (.ref a))).set j (some (.ref a))) H' s6 := by
          refine (S6.unsuite ok).pins_of fun p hp => ?_
          rcases List.mem_cons.mp hp with e | hp
          · rw [e]
            exact S6.pin (a, oe4) (List.mem_append_left _ List.mem_cons_self)
          · exact S6.pin p (List.mem_append_left _ (List.mem_cons_of_mem _ (List.mem_append_right _ hp)))
        refine gone_ok S7 hN hi hln fun s8 S8 => hq s8 ?_
        have hset : ((σ'.set i (some (.ref a))).set j (some (.ref a))).set i none = (σ'.set j (some (.ref a))).set i none := by
          rw [List.set_comm _ _ hij, List.set_set]
        rw [hset] at S8
        exact track S8 z4 f4 new0 pinA
      cases fl with
      | next =>
        obtain ⟨σ6, H6, S6, rfl, rfl⟩ := hsp
        exact fin S6 fun s7 S7 => ⟨_, _, S7, yes a na⟩
      | brk => exact (let ⟨_, _, _, z⟩ := hsp; z.elim)
      | cont => exact (let ⟨_, _, _, z⟩ := hsp; z.elim)
      | ret u => exact (let ⟨_, _, _, _, _, z⟩ := hsp; z.elim)
  · cases fl with
    | next =>
      obtain ⟨σ1, H1, J1, q⟩ := done
      exact wpAny_execs_nil ⟨σ1, H1, J1.ofTry ok, q⟩
    | brk =>
      obtain ⟨σ1, H1, J1, q⟩ := done
      exact ⟨σ1, H1, J1.ofTry ok, q⟩
    | cont =>
      obtain ⟨σ1, H1, J1, q⟩ := done
      exact ⟨σ1, H1, J1.ofTry ok, q⟩
    | ret u =>
      obtain ⟨v, σ1, H1, J1, r, q⟩ := done
      exact ⟨v, σ1, H1, J1.ofTry ok, r, q⟩
end

section
variable {X : Cx} {C : Pl} {pv : V} {Wx : WX} {cl : Nat → List W → Out R} {σ σ' : L2.St} {Z Z1 Z2 : Zo} {fs fs1 fs2 : Fo} {H H1 H2 : Hp} {σa σb σ1 : Sig} {c : Nat} {x n m : Str} {k : Value} {i j : Nat} {body : List Stmt} {np np2 kp ap pos pos' : Pos} {b : S}
theorem Rel.gone {i : Nat} (R : Rel C pv σa σ Z fs H) (h : ∀ w, σa[i]? ≠ some (some w)) : Rel C pv σa (σ.set i none) Z fs H := by
  refine ⟨by rw [List.length_set]; exact R.len, fun l w q => ?_, R.nd, R.dj, R.dz, R.zt, R.ft⟩
  obtain ⟨v, q1, q2⟩ := R.sl l w q
  refine ⟨v, ?_, q2⟩
  by_cases e : l = i
  · subst e
    exact absurd q (h w)
  · rw [List.getElem?_set_ne (Ne.symm e)]
    exact q1
theorem ss_try (hs : X.stack = X.env :: X.outer) (hf : X.env.frame = some X.env.locals) (hex : X.ex = []) (hN : X.N.Nodup) (hi : X.N[i]? = some n) (hj : X.N[j]? = some m) (hij : i ≠ j) (hln : X.env.kindOf n = some .local) (hlm : Loc X.env.scope m) (hfm : X.fn m = true ∨ X.env.scope.names.lookup m = some .local)
    (hc : Names X x k) (hdb : (n == ("__debug__" : Str)) = false) (hdc : (n == ("__classdict__" : Str)) = false) (hcl : ∀ c, C.cls c = true → PySem.W.exmOne X.K (.ref (C.ca c)) k = some true)
    (hb : ∀ (W : WX) (pn : List (Addr × Obj)) (xe : Value → Shared → Prop), Takes (X.tr pn xe) W → PassesOwn (model X.prog X.w) X.A X.env xe → PSs (X.tr pn xe) body (tS C pv W cl b)) :
    PS X (.Try body [.ExceptHandler (some (.Name x np)) (some n) [.Assign [.Name m kp] (.Name n np2) ap] pos'] [] [] pos) (tS C pv Wx cl (.tryS b i j)) := by
  refine ps_imp (ps_tryK (tb := fun W => tS C pv W cl b) hs hf hex hN hi hj hij hln hlm hfm hc hdb hdc hb) fun D σ H ⟨σa, Z, fs, R, h⟩ => ⟨σa, Z, fs, R, ?_⟩
  simp only [evS] at h
  cases hev : evS cl b σa with
  | ex c t σb =>
    rw [hev] at h
    intro d σ' H' Z' fs' R' x' ⟨hk, dd, v, hd, zd, hdd, den⟩
    refine ⟨dd, hd, hcl c hk, fun a ha => ?_⟩
    change FlS C pv Wx Z fs H D (Fl.of (put j (.val (.exc c t)) (σb.set i none))) at h
    cases hp : put j (.val (.exc c t)) (σb.set i none) with
    | none => rw [hp] at h; exact h.elim
    | some σ2 =>
      rw [hp] at h
      have g : Grow Z' H' (fun b => Z' b ∨ b = a) (upd H' a (exH (.ref (C.ca c)) dd a)) := Grow.new R'.zt ha
      have R1 := (R'.drop (i := i)).grow g
      have ned : dd ≠ a := ne_of_none hdd ha
      have D1 : Den C (fun b => Z' b ∨ b = a) (upd H' a (exH (.ref (C.ca c)) dd a)) (.ref a) (.exc c t) := .exc hk (.inr rfl) upd_same (.inl zd) (by rw [upd_ne ned]; exact hdd) (den.later g.later)
      obtain ⟨q1, q2, q3⟩ := put_some hp
      have x1 : Ext Z fs H (fun b => Z' b ∨ b = a) (upF fs' i []) (upd H' a (exH (.ref (C.ca c)) dd a)) := (x'.trans Ext.drop).trans g.ext
      have R2 := R1.putV (v := .ref a) D1 hp
      have R3 := R2.gone (i := i) fun w z => by
        rw [q3, List.getElem?_set_ne (Ne.symm hij)] at z
        by_cases hl : i < σb.length
        · rw [List.getElem?_set_self hl] at z
          cases z
        · rw [List.getElem?_eq_none (by rw [List.length_set]; omega)] at z
          cases z
      exact h _ _ _ _ R3 x1
  | nx s => rw [hev] at h; exact h
  | bk s => rw [hev] at h; exact h
  | ct s => rw [hev] at h; exact h
  | rt r s => rw [hev] at h; exact h
  | fail => rw [hev] at h; exact h
end
end PY
set_option Elab.async false
set_option linter.all false
set_option maxRecDepth 100000
set_option maxHeartbeats 1000000
/-! # PySound28: a caught exception's class and value -/
namespace PY
open PySem PySem.Spec PyProof.Rows L2
/-- what is asked of the class of a caught exception -/
structure ExK (K : PySem.W.Frag) (C : Addr) : Prop where
  cl : (PySem.W.clsIn K C).isSome = true
  xf : XfC K C
  noV : PySem.W.findIn K (.ref C) "value" = some none
  cls : PySem.W.findIn K (.ref C) "__class__" = some (some (.builtin "object.__class__"))
  get : PySem.W.specialIn K (.builtin "object.__class__") "__get__" = some (some (.builtin "getset_descriptor.__get__"))
  tk : PySem.W.takesIn K (.builtin "object.__class__") = some true
  ob : PySem.W.mroIn K C (.type "object") = some true
  subV : PySem.W.subIn K (.ref C) (.type "ValueError") = some true
def rIsX (K : PySem.W.Frag) : List V → Hp → VK → Prop := fun xs H Q => ∃ (a D dd : Addr) (c : V) (cv : Value) (fs : List (Str × V)) (b : Bool), xs = [.ref a, c] ∧ ExK K D ∧ H a = some (exH (.ref D) dd a) ∧ H dd = some (.xd fs) ∧ (∀ u, RelV c u → u = cv) ∧ PySem.W.kitOne K (.ref D) cv = some b ∧ Q (.bl b) H
section
variable {X : Cx} {pins : List (Addr × Obj)} {σ : L2.St} {H : Hp} {s : Shared}
theorem exH_inst {a D dd : Addr} {fs : List (Str × V)} (I : Inv X pins σ H s) (e : H a = some (exH (.ref D) dd a)) (ed : H dd = some (.xd fs)) : ∃ (oe od : Obj) (mA : Str → Option Value), PySem.W.InstAt s.heap a oe D (some od) ∧ s.heap.Ns1 dd mA ∧ s.heap.get? dd = some od ∧ (∀ f, RelO (fs.lookup f) (mA f)) ∧ ∀ n, PySem.W.lookIn n od = some (mA n) := by
  obtain ⟨oe, vs, q1, q2, q3, q4⟩ := exH_at I e
  have hx : ObjOk X.prog X.w H s.heap dd (.xd fs) := I.hok dd _ ed
  obtain ⟨mA, hns, hr⟩ := hx
  obtain ⟨od, ho, hl⟩ := lookIn_ns hns
  exact ⟨oe, od, mA, ⟨q1, q2, by unfold PySem.W.notCls; rw [q4] <;> rfl, by rw [q3]; exact ho⟩, hns, ho, hr, fun n => hl n⟩
theorem call_isX : CallR X (.builtin "isinstance") (rIsX X.K) := by
  intro pins s σ H xs us Q I r h
  obtain ⟨a, D, dd, c, cv, fs, b, rfl, T, e, ed, hc, hk, q⟩ := h
  cases r with
  | cons ra rr => cases rr with
    | cons rc rr =>
      cases rr
      cases ra
      have ec := hc _ rc
      subst ec
      obtain ⟨oe, od, mA, J, _, _, _⟩ := exH_inst I e ed
      exact PySem.W.kia_one (PySem.W.kitx_exc (x := a) (ox := oe) (od := some od) T.cl T.xf.ga T.xf.gg T.xf.exC T.cls T.get T.tk T.ob) I.kIn J hk (fun z => nomatch z) fun tk => ⟨.bl b, H, I.tok tk, rfl, q⟩
/-- e.value -/
theorem pe_xval {e : Expr} {te : TE} {pos : Pos} (he : PE X e te) (hb : attributeBase e "value" X.env (eval e X.env) = eval e X.env) :
    PE X (.Attribute e "value" pos) (fun σ H Q => te σ H fun x H1 => ∃ (a D dd : Addr) (v : V), x = .ref a ∧ ExK X.K D ∧ H1 a = some (exH (.ref D) dd a) ∧ H1 dd = some (.xd [("value", v)]) ∧ Q v H1) := by
  refine ⟨fun pins s σ H Q I h => attr_of hb (thn (he.run pins s σ H _ I h) fun u s1 hh => ?_)⟩
  obtain ⟨x, H1, I1, rx, a, D, dd, v, rfl, T, e, ed, q⟩ := hh
  obtain rfl : u = Value.ref a := rx
  obtain ⟨oe, od, mA, J, hns, ho, hr, hl⟩ := exH_inst I1 e ed
  obtain ⟨u, hu, ru⟩ := RelO.some_of (v := v) (o := mA "value") (by have := hr "value"; simpa [List.lookup] using this)
  exact HandSPX.exc_get I1.kIn J T.xf.ga T.xf.gg T.xf.exC (PySem.W.findObj_own T.xf.hdC T.noV rfl (by rw [hl, hu])) (handed_of ru) ⟨v, H1, I1.tok _, ru, q⟩
end
section
variable {X : Cx} {C : Pl} {pv : V} {Wx : WX} {cl : Nat → List W → Out R} {ex : Expr} {e : E} {σ σ' : L2.St} {Z Z1 Z2 : Zo} {fs fs1 fs2 : Fo} {H H1 H2 : Hp} {σa σb σ1 : Sig} {n c : Nat}
theorem se_xval {pos : Pos} (hX : ∀ c, C.cls c = true → ExK X.K (C.ca c)) (ha : SE X C pv Wx cl ex e) (hb : attributeBase ex "value" X.env (eval ex X.env) = eval ex X.env) (ht : ∀ whole, isTrue (.Attribute ex "value" pos) X.env whole = (do let v ← whole; standAt (Expr.pos (.Attribute ex "value" pos)); holding [v] (truthy v))) : SE X C pv Wx cl (.Attribute ex "value" pos) (.xval e) := by
  refine .of (pe_imp (pe_xval ha.v hb) fun σ H Q ⟨σa, Z, fs, R, h⟩ => ?_) ht
  simp only [ev] at h
  refine ⟨σa, Z, fs, R, Spec.bindT h fun r σ1 x Z1 fs1 H1 _ R1 e1 d1 h1 => ?_⟩
  generalize r.t = t at d1 h1
  cases d1 with
  | exc hk z ha' z' hd dv =>
    exact ⟨_, _, _, _, rfl, hX _ hk, ha', hd, h1.fin R1 dv⟩
  | _ => exact h1.elim
theorem se_isX {x : Str} {p p2 pos : Pos} {cv : Value} {k : V} {f : Nat → Bool} (hX : ∀ c, C.cls c = true → ExK X.K (C.ca c)) (hk : ∀ c, C.cls c = true → PySem.W.kitOne X.K (.ref (C.ca c)) cv = some (f c)) {ee : E} (hev : ∀ σ, ev cl ee σ = (ev cl e σ).bind fun x σ => Out.of ((match x.t with | .exc c _ => some (f c) | _ => none).map (.val <| .bl ·)) σ) (ha : SE X C pv Wx cl ex e) (hg : Gl X "isinstance") (hm : X.mg "isinstance" = none) (hn : PE X (.Name x p2) (L2.tC k)) (hkv : ∀ u, RelV k u → u = cv)
    (he : starEach [ex, .Name x p2] X.env = (false, eval ex X.env) :: starEach [.Name x p2] X.env) (hs2 : starEach [.Name x p2] X.env = (false, eval (.Name x p2) X.env) :: starEach [] X.env) : SE X C pv Wx cl (.Call (.Name "isinstance" p) [ex, .Name x p2] [] pos) ee := by
  refine .of (pe_imp (pe_callB call_isX hg hm PyProof.Rows.boot_isinstance (pa_cons ha.v (pa_cons hn pa_nil hs2) he) (by decide) (by decide) he) fun σ H Q ⟨σa, Z, fs, R, h⟩ => ?_) fun _ => rfl
  rw [hev] at h
  refine ⟨σa, Z, fs, R, Spec.bindT h fun r σ1 x Z1 fs1 H1 _ R1 e1 d1 h1 => ?_⟩
  generalize r.t = t at d1 h1
  cases d1 with
  | exc hc z ha' z' hd dv =>
    exact ⟨_, _, _, _, _, _, _, rfl, hX _ hc, ha', hd, hkv, hk _ hc, h1.fin R1 (.bl _)⟩
  | _ => exact h1.elim
end
end PY
set_option Elab.async false
set_option linter.all false
set_option maxRecDepth 100000
set_option maxHeartbeats 1000000
/-! # PySound29: a def that a name holds, called -/
namespace PY
open PySem PySem.Spec PyProof.Rows L2
section
variable {X : Cx} {C : Pl} {pv : V} {Wx : WX} {cl : Nat → List W → Out R} {ex : Expr} {e : E} {σ σ' : L2.St} {Z Z1 Z2 : Zo} {fs fs1 fs2 : Fo} {H H1 H2 : Hp} {σa σb σ1 : Sig} {n c k i : Nat} {sp : Sp}
theorem pe_callGv {f : Addr} {fd : FuncData} {ps : List Str} {x : Str} {p pos : Pos} {a : Expr} {as : List Expr} {t : TA} {pins : List (Addr × Obj)} {s : Shared} {Q : VK} (F : FnG X.prog X.w X.K X.mg X.base k f fd ps sp) (hr : Room k X.A) (hgs : X.A.guards = some []) (tk : Takes X Wx)
    (hN : X.N[i]? = some x) (hv : Vis X.env.scope x) (hk : PySem.W.keepIn X.K (.ref f) = true) (hb : Binds X.K fd ps []) (ha : PA X (a :: as) t) (hd : (x == ("__debug__" : Str)) = false) (hcd : (x == ("__classdict__" : Str)) = false)
    (he : starEach (a :: as) X.env = (false, eval a X.env) :: starEach as X.env) (hp : (backTo pos (starEach as X.env)).any (·.1) = false) (I : Inv X pins σ H s) (hs : σ[i]? = some (some (.ref f))) (h : tCallG sp Wx t σ H Q) :
    wpAny (model X.prog X.w) X.A (eval (.Call (.Name x p) (a :: as) [] pos) X.env) (EP X pins σ Q) X.xe s := by
  apply wpAny_Call_Name_kw
  refine thn ((pe_var (pos := p) hN hv hd hcd).run pins s σ H (fun v H1 => v = .ref f ∧ H1 = H) I ⟨.ref f, hs, rfl, rfl⟩) fun u s0 hu => ?_
  obtain ⟨v, H0, I0, r0, rfl, rfl⟩ := hu
  obtain rfl : u = Value.ref f := r0
  apply PySem.W.callWith_K I.ok.mod.kin hk _ he hp
  refine thn (ha.run pos pins s0 σ _ _ I0 h) fun us s1 hs => ?_
  obtain ⟨vs, H1, I1, r, q⟩ := hs
  refine ⟨I1.kIn, wpAny_call (codeAny_mono (run_go (us := us) F hr hgs tk I1 ?_ r q) fun z s' hz => ?_)⟩
  · have hl : us.length = ps.length := by rw [← r.length]; exact F.len _ _ _ _ q
    have := hb s1 us I1.kIn (by simpa using hl)
    simpa using this
  · cases z with
    | error e => exact hz
    | ok fl => cases fl with
      | ret u => exact hz
      | _ => exact hz.elim
theorem se_callv {n : Nat} (g : Gd X C n) (pg : Pg X C n cl) (tk : Takes X Wx) {x : Str} {fl : List Nat} {p pos : Pos} {a : Expr} {as : List Expr} {eas : E} (hf : ∀ f ∈ fl, C.has f = true ∧ eas.alen = (C.ps f).length) (hN : X.N[i]? = some x) (hv : Vis X.env.scope x) (hd : (x == ("__debug__" : Str)) = false) (hcd : (x == ("__classdict__" : Str)) = false)
    (ha : PA X (a :: as) (tAs C pv Wx cl eas)) (he : starEach (a :: as) X.env = (false, eval a X.env) :: starEach as X.env) (hp : (backTo pos (starEach as X.env)).any (·.1) = false) :
    SE X C pv Wx cl (.Call (.Name x p) (a :: as) [] pos) (.callv i fl eas) := by
  refine .of ⟨fun pins s σ H Q I ⟨σa, Z, fs, R, h⟩ => ?_⟩ fun _ => rfl
  simp only [ev, rd] at h
  have fin : ∀ (f : Nat) (Z : Zo) (fs : Fo) (σ1 : Sig), σ[i]? = some (some (.ref (C.fa f))) → Rel C pv σ1 σ Z fs H → fl.contains f = true → Spec C pv Wx σ Z fs H (PR C) ((evA cl eas σ1).bind fun as σ => callA cl f as σ) Q → wpAny (model X.prog X.w) X.A (eval (.Call (.Name x p) (a :: as) [] pos) X.env) (EP X pins σ Q) X.xe s := fun f Z fs σ1 hs R hfl q => by
    obtain ⟨h1, h2⟩ := hf f (by simpa using hfl)
    obtain ⟨F, hm, hk, hb⟩ := pg.fn f h1
    exact pe_callGv F g.room g.gs tk hN hv hk hb ha hd hcd he hp I hs (call_k h2 ⟨σ1, Z, fs, R, by simp only [ev]; exact q⟩)
  cases hi : σa[i]? with
  | none => rw [hi] at h; exact h.elim
  | some o => cases o with
    | none => rw [hi] at h; exact h.elim
    | some w =>
      rw [hi] at h
      obtain ⟨v, hs, hw⟩ := R.sl i w hi
      cases w with
      | val t =>
        simp only [Out.bind_ok, PY.R.t] at h
        cases t with
        | fn f =>
          cases hw with
          | fn _ =>
            simp only at h
            split at h
            · rename_i hfl
              exact fin f Z fs σa hs R hfl h
            · exact h.elim
        | _ => exact h.elim
      | own m => cases m with
        | fr t =>
          simp only [Out.bind_ok, PY.R.t, M.er] at h
          cases t with
          | fn f =>
            have hw' : Own C Z H v (.fr (.fn f)) (fs i) := hw
            generalize fs i = G at hw'
            cases hw' with
            | fr d =>
              cases d
              simp only at h
              split at h
              · rename_i hfl
                obtain ⟨_, Z2, fs2, _, R2, x2, _⟩ := R.freezeSlot hi (.inl rfl)
                exact fin f Z2 _ _ hs R2 hfl (h.shift x2)
              · exact h.elim
          | _ => exact h.elim
        | _ => simp only [Out.bind_ok, PY.R.t, M.er] at h; exact h.elim
      | io m => cases m with
        | fr t =>
          simp only [Out.bind_ok, PY.R.t, M.er] at h
          cases t with
          | fn f =>
            have hw' : Own C Z H v (.fr (.fn f)) (fs i) := hw.1
            generalize fs i = G at hw'
            cases hw' with
            | fr d =>
              cases d
              simp only at h
              split at h
              · rename_i hfl
                obtain ⟨_, Z2, fs2, _, R2, x2, _⟩ := R.freezeSlot hi (.inr rfl)
                exact fin f Z2 _ _ hs R2 hfl (h.shift x2)
              · exact h.elim
          | _ => exact h.elim
        | _ => simp only [Out.bind_ok, PY.R.t, M.er] at h; exact h.elim
end
end PY
set_option Elab.async false
set_option linter.all false
set_option maxRecDepth 100000
set_option maxHeartbeats 1000000
/-! # PySound30: x.pop() -/
namespace PY
open PySem L2
section
variable {X : Cx} {C : Pl} {pv : V} {Wx : WX} {cl : Nat → List W → Out R} {ex : Expr} {e : E} {σ σ' : St} {Z Z1 Z2 : Zo} {fs fs1 fs2 : Fo} {H H1 H2 : Hp} {σa σb σ1 : Sig} {n c k i : Nat}
theorem OwnL.unsnoc : ∀ {xs : List V} {ms : List M} {F : List Addr}, OwnL C Z H xs ms F → ms ≠ [] → ∃ (y : V) (m : M) (F0 P : List Addr), xs[xs.length - 1]? = some y ∧ ms[ms.length - 1]? = some m ∧ OwnL C Z H xs.dropLast ms.dropLast F0 ∧ Own C Z H y m P ∧ F = F0 ++ P
  | _, _, _, .nil, h => absurd rfl h
  | _, _, _, .cons (v := v) (vs := vs) (m := m) (ms := ms) (F := F) (G := G) a b, _ => by
    cases b with
    | nil => exact ⟨v, m, [], F, rfl, rfl, .nil, a, by simp⟩
    | cons a2 b2 =>
      obtain ⟨y, m', F0, P, h1, h2, h3, h4, h5⟩ := OwnL.unsnoc (.cons a2 b2) (by simp)
      refine ⟨y, m', F ++ F0, P, ?_, ?_, ?_, h4, by rw [h5, List.append_assoc]⟩
      · simpa using h1
      · simpa using h2
      · exact .cons a h3
theorem se_pop {x : Str} {px ap cp : Pos} (hN : X.N[i]? = some x) (hv : Vis X.env.scope x) (hd : (x == ("__debug__" : Str)) = false) (hcd : (x == ("__classdict__" : Str)) = false)
    (hbase : attributeBase (.Name x px) "pop" X.env (eval (.Name x px) X.env) = eval (.Name x px) X.env) (hline : (ap.endLine == cp.line) = true) :
    SE X C pv Wx cl (.Call (.Attribute (.Name x px) "pop" ap) [] [] cp) (.pop i) := by
  refine .of (pe_imp (pe_bm0 PySem.F.plainAttrs_list PySem.F.slot_list_pop PySem.F.type_list_pop mt_pop (pe_var hN hv hd hcd) hbase hline) fun σ H Q ⟨σa, Z, fs, R, h⟩ => ?_) fun _ => rfl
  simp only [ev, popd, popM] at h
  split at h
  · rename_i ms hi
    obtain ⟨v, hs, ow⟩ := R.sl i _ hi
    have ow : Own C Z H v (.lst ms) (fs i) := ow
    cases hm : ms[ms.length - 1]? with
    | none => simp only [hm, Option.map_none] at h; exact h.elim
    | some m0 =>
      simp only [hm, Option.map_some] at h
      have hne : ms ≠ [] := fun q => by rw [q] at hm; cases hm
      generalize hF : fs i = F at ow
      cases ow with
      | @lst a xs _ F1 ha ol =>
        obtain ⟨y, m, F0, P, h1, h2, h3, h4, h5⟩ := ol.unsnoc hne
        rw [hm] at h2
        cases h2
        have nd := R.nd i
        rw [hF, h5] at nd
        obtain ⟨n1, n2⟩ := List.nodup_cons.mp nd
        obtain ⟨n3, n4, n5⟩ := List.nodup_append.mp n2
        have hin : ∀ b, b = a ∨ b ∈ F0 ∨ b ∈ P → b ∈ fs i := fun b hb => by
          rw [hF, h5]
          rcases hb with rfl | hb | hb
          · exact List.mem_cons_self
          · exact List.mem_cons_of_mem _ (List.mem_append_left _ hb)
          · exact List.mem_cons_of_mem _ (List.mem_append_right _ hb)
        have dz := R.dz i
        have tF := R.ft i
        have kp : ∀ b, b ≠ a → ∀ u, H b = some u → upd H a (.lst xs.dropLast) b = some u := fun b hb u q => by rw [upd_ne hb]; exact q
        have ain : a ∈ fs i := hin a (.inl rfl)
        have lt : Later Z H Z (upd H a (.lst xs.dropLast)) := ⟨fun _ z => z, fun b u z q => kp b (fun w => dz a ain (by rw [← w]; exact z)) u q,
          fun b us q => kp b (fun w => by rw [w] at q; exact (tF a ain).2.1 _ q) _ q, fun b u w q => kp b (fun e => by rw [e] at q; exact (tF a ain).2.2 _ _ q) _ q⟩
        have na0 : ∀ b ∈ F0, b ≠ a := fun b hb q => n1 (by rw [← q]; exact List.mem_append_left _ hb)
        have naP : ∀ b ∈ P, b ≠ a := fun b hb q => n1 (by rw [← q]; exact List.mem_append_right _ hb)
        have ow' : Own C Z (upd H a (.lst xs.dropLast)) (.ref a) (.lst ms.dropLast) (a :: F0) := .lst upd_same (h3.later lt fun b hb => kp b (na0 b hb))
        obtain ⟨R2, x2⟩ := R.write (F := []) (G := a :: F0) .refl .nil ain hs (fun q => by rw [hi] at q; cases q) (.inl ⟨hi, rfl⟩) (fun b hb => .inl (hin b ((List.mem_cons.mp hb).imp id .inl))) (List.nodup_cons.mpr ⟨fun q => n1 (List.mem_append_left _ q), n3⟩) ow' (tk_lst upd_same)
        refine ⟨.ref a, hs, .inl ⟨rfl, xs, SqL.of ha⟩, a, xs, y, rfl, rfl, ha, h1, ?_⟩
        have sP : Sep P fs H Z (upF fs i (a :: F0)) (upd H a (.lst xs.dropLast)) := ⟨n4, fun b hb => dz b (hin b (.inr (.inr hb))), fun b hb ⟨j, q⟩ => by
          by_cases e : j = i
          · rw [e, upF_eq] at q
            rcases List.mem_cons.mp q with q | q
            · exact naP b hb q
            · exact n5 b q b hb rfl
          · rw [upF_ne e] at q
            exact e (R.dj j i b q (hin b (.inr (.inr hb)))), fun b hb => keeps3 (fun o q => kp b (naP b hb) o q) (tF b (hin b (.inr (.inr hb)))), fun b hb => .inl ⟨i, hin b (.inr (.inr hb))⟩⟩
        have oP : Own C Z (upd H a (.lst xs.dropLast)) y m0 P := h4.later lt fun b hb => kp b (naP b hb)
        refine h y _ Z _ P R2 x2 sP ?_
        cases m0 with
        | fr t => cases oP with | fr d => exact d
        | _ => exact oP
  · exact h.elim
end
end PY
set_option Elab.async false
set_option linter.all false
set_option maxRecDepth 100000
set_option maxHeartbeats 1000000
/-! # PySound31: a dict's display -/
namespace PY
open PySem L2
section
variable {X : Cx} {C : Pl} {pv : V} {Wx : WX} {cl : Nat → List W → Out R} {ex : Expr} {e : E} {σ σ' : St} {Z Z1 Z2 : Zo} {fs fs1 fs2 : Fo} {H H1 H2 : Hp} {σa σb σ1 : Sig}
def trsOf (C : Pl) (pv : V) (Wx : WX) (cl : Nat → List W → Out R) : List Ky → E → List (TE × TE)
  | k :: ks, .cons e es => (L2.tC (kV k), tE C pv Wx cl e) :: trsOf C pv Wx cl ks es
  | _, _ => []
theorem pairs_ok : ∀ (ks : List Ky) (es : E) {σa : Sig} {Z : Zo} {fs : Fo} {H : Hp} {Q : List (V × V) → Hp → Prop}, es.alen = ks.length → Rel C pv σa σ Z fs H → Spec C pv Wx σ Z fs H (PM C) (evM cl es σa) (fun vs H' => Q ((ks.zip vs).map fun kv => (kV kv.1, kv.2)) H') → tPairs (trsOf C pv Wx cl ks es) σ H Q
  | [], es, σa, Z, fs, H, Q, hl, R, h => by
    cases es <;> first | (simp [E.alen] at hl; done) | skip
    all_goals simp only [evM] at h
    all_goals first | (exact h [] H Z fs [] R .refl .nil .nil) | exact h.elim
  | k :: ks, .cons e es, σa, Z, fs, H, Q, hl, R, h => by
    simp only [evM] at h
    refine ⟨σa, Z, fs, R, Spec.bind h fun r σ1 v Z1 fs1 H1 F1 _ R1 e1 s1 p1 h1 => ?_⟩
    refine pairs_ok ks es (by simpa [E.alen] using hl) R1 (Spec.bind (h1.shift e1) fun ms σ2 vs Z2 fs2 H2 F2 hev R2 e2 s2 p2 h2 => ?_)
    rw [hev, Out.bind_ok] at h1
    obtain ⟨G, ow, hG, nG⟩ := ROk.own p1 (.inr trivial)
    have sG := s1.sub hG (nG s1.nd)
    exact h1 (v :: vs) H2 Z2 fs2 (G ++ F2) R2 (e1.trans e2) (Sep.app sG e1 e2 s2) (.cons (own_step R1 sG e2 ow) p2)
theorem putK_new {k : Ky} {v : V} {kvs : List (Ky × V)} (h : ∀ p ∈ kvs, p.1 ≠ k) : putK kvs k v = kvs ++ [(k, v)] := by
  unfold putK
  refine if_neg fun q => ?_
  obtain ⟨p, hp, e⟩ := List.any_eq_true.mp q
  exact h p hp (by simpa using e)
theorem mergeK_new : ∀ {more kvs : List (Ky × V)}, (kvs.map (·.1) ++ more.map (·.1)).Nodup → mergeK kvs more = kvs ++ more
  | [], kvs, _ => by simp [mergeK]
  | (k, v) :: r, kvs, h => by
    have hn : ∀ p ∈ kvs, p.1 ≠ k := fun p hp q => by
      have := (List.nodup_append.mp h).2.2 p.1 (List.mem_map_of_mem hp) k (by simp)
      exact this q
    show mergeK (putK kvs k v) r = _
    rw [putK_new hn, mergeK_new (by simpa using h), List.append_assoc]
    rfl
theorem se_dlit {pos : Pos} {keys : List (Option Expr)} {values : List Expr} {ks : List Ky} {es : E} (hp : PPs X pos keys values (trsOf C pv Wx cl ks es)) (hl : es.alen = ks.length) (hall : keys.all (·.isSome) = true) (hlen : keys.length = values.length) (h0 : keys ≠ []) (h15 : keys.length ≤ 15) :
    SE X C pv Wx cl (.Dict keys values pos) (.dlit true ks es) := by
  refine .of (pe_imp (pe_disp hp hall hlen h0 h15) fun σ H Q ⟨σa, Z, fs, R, h⟩ p hn => ?_) fun _ => rfl
  simp only [ev] at h
  have g : Grow Z H Z (upd H p (.dK [])) := Grow.new0 R.zt hn
  have nfs : ¬ InF fs p := fun ⟨i, q⟩ => (R.ft i p q).1 hn
  refine pairs_ok ks es hl (R.grow g) (Spec.bind (h.shift g.ext) fun ms σ1 vs Z1 fs1 H1 F hev R1 e1 s1 p1 h1 => ?_)
  have hp1 : H1 p = some (.dK []) := e1.keep p _ upd_same nfs
  rw [hev, Out.bind_ok] at h
  unfold dlitF at h
  split at h
  · rename_i hc
    obtain ⟨c1, c2, c3⟩ := hc
    have hvl : vs.length = ks.length := by rw [p1.length]; exact c1.symm
    have hm : mergeK [] (ks.zip vs) = ks.zip vs := by
      rw [mergeK_new]
      · rfl
      · simp only [List.map_nil, List.nil_append]
        rw [List.map_fst_zip (by omega)]
        exact c3
    refine ⟨hp1, ks.zip vs, rfl, by rw [List.length_zip]; omega, ?_⟩
    rw [hm]
    have nZ : ¬ Z1 p := fun z => by
      rcases e1.zn p z with q | q | q
      · exact R.zt p q hn
      · exact nfs q
      · rw [upd_same] at q; cases q
    have nF1 : ¬ InF fs1 p := fun z => by
      rcases e1.fn p z with q | q
      · exact nfs q
      · rw [upd_same] at q; cases q
    have nF : p ∉ F := fun z => by
      rcases s1.nw p z with q | q
      · exact nfs q
      · rw [upd_same] at q; cases q
    have kp : ∀ b, b ≠ p → ∀ o, H1 b = some o → upd H1 p (.dK (ks.zip vs)) b = some o := fun b hb o q => by rw [upd_ne hb]; exact q
    have lt : Later Z1 H1 Z1 (upd H1 p (.dK (ks.zip vs))) := ⟨fun _ z => z, fun b o z q => kp b (fun w => nZ (by rw [← w]; exact z)) o q,
      fun b xs q => kp b (fun w => by rw [w, hp1] at q; cases q) _ q, fun b o u q => kp b (fun w => by rw [w, hp1] at q; cases q) _ q⟩
    have R2 : Rel C pv σ1 σ Z1 fs1 (upd H1 p (.dK (ks.zip vs))) := by
      refine ⟨R1.len, fun i w q => ?_, R1.nd, R1.dj, R1.dz, fun b z => ?_, fun i b hb => keeps3 (fun o q => kp b (fun w => nF1 ⟨i, by rw [← w]; exact hb⟩) o q) (R1.ft i b hb)⟩
      · obtain ⟨v, q1, q2⟩ := R1.sl i w q
        exact ⟨v, q1, q2.later lt fun b hb o q => kp b (fun w => nF1 ⟨i, by rw [← w]; exact hb⟩) o q⟩
      · rw [upd_ne (fun w => nZ (by rw [← w]; exact z))]
        exact R1.zt b z
    have hb : ∀ {b : Addr} {o : HO}, H b = some o → b ≠ p := fun {b o} q w => by rw [w, hn] at q; cases q
    have e0 := g.ext (fs := fs) |>.trans e1
    have e2 : Ext Z fs H Z1 fs1 (upd H1 p (.dK (ks.zip vs))) := ⟨fun b o q n => kp b (hb q) o (e0.keep b o q n), fun b xs q => kp b (hb q) _ (e0.tup b xs q), fun b o u q => kp b (hb q) _ (e0.frz b o u q), e0.zm, e0.zn, e0.fn⟩
    refine h (.ref p) _ Z1 fs1 (p :: F) R2 e2 ⟨List.nodup_cons.mpr ⟨nF, s1.nd⟩, fun b hb => ?_, fun b hb => ?_, tk_cons (tk_dK upd_same) fun b hb => keeps3 (fun o q => kp b (fun w => nF (by rw [← w]; exact hb)) o q) (s1.tr b hb), fun b hbF => ?_⟩ (.dK upd_same hvl.symm (p1.later lt fun b hb o q => kp b (fun w => nF (by rw [← w]; exact hb)) o q))
    · rcases List.mem_cons.mp hb with rfl | hb
      · exact nZ
      · exact s1.dz b hb
    · rcases List.mem_cons.mp hb with rfl | hb
      · exact nF1
      · exact s1.df b hb
    · rcases List.mem_cons.mp hbF with rfl | hbF
      · exact .inr hn
      · rcases s1.nw b hbF with q | q
        · exact .inl q
        · rw [upd_ne (fun w => nF (by rw [← w]; exact hbF))] at q
          exact .inr q
  · exact h.elim
end
end PY
set_option Elab.async false
set_option linter.all false
set_option maxRecDepth 100000
set_option maxHeartbeats 1000000
/-! # PySound32: x[p][k] = a constant -/
namespace PY
open PySem L2
section
variable {X : Cx} {C : Pl} {pv : V} {Wx : WX} {cl : Nat → List W → Out R} {ex : Expr} {e k : E} {σ σ' : St} {Z Z1 Z2 : Zo} {fs fs1 fs2 : Fo} {H H1 H2 : Hp} {σa σb σ1 : Sig} {D : Ends}
theorem set_tail {i j : Nat} {w : W} {m c : M} {t t0 : T} {u vt x y0 : V} {r : Addr} {A Fj B : List Addr} (R : Rel C pv σa σ Z fs H) (hw : σa[i]? = some (some w)) (hm : w = .own m ∨ w = .io m) (hu : σ[i]? = some (some u)) (hp : m.pos t = some j) (hc : m.kids[j]? = some c)
    (K : Kid C Z H u vt m (fs i) j c r x A Fj B) (d0 : ∀ Z' H', Later Z H Z' H' → Den C Z' H' y0 t0) (h : FlS C pv Wx Z fs H D ((evH cl i k σa).fl fun kr σ => .of (upS i (M.mod (M.putIx kr.t (.fr t0)) t) σ))) :
    tE C pv Wx cl k σ H fun kv H2 => rSetA x kv y0 H2 fun H3 => D.nx σ H3 := by
  have hx := K.ow
  have nF := R.nd i
  rw [K.eF] at nF
  have nFj : Fj.Nodup := (List.nodup_append.mp (List.nodup_append.mp (List.nodup_cons.mp nF).2).2.1).1
  have inF : ∀ a ∈ Fj, a ∈ fs i := fun a ha => by rw [K.eF]; exact List.mem_cons_of_mem _ (List.mem_append_right _ (List.mem_append_left _ ha))
  have out : ∀ a ∈ r :: (A ++ B), a ∈ fs i := fun a ha => by
    rw [K.eF]
    rcases List.mem_cons.mp ha with rfl | ha
    · exact List.mem_cons_self
    · rcases List.mem_append.mp ha with ha | ha
      · exact List.mem_cons_of_mem _ (List.mem_append_left _ ha)
      · exact List.mem_cons_of_mem _ (List.mem_append_right _ (List.mem_append_right _ ha))
  refine ⟨σa.set i none, Z, upF fs i [], R.drop, h.hid R hw hm fun rv σ1 y Z1 fs1 H1 F hw1 hf R1 x1 kp l s1 p1 h1 => ?_⟩
  cases hup : upS i (M.mod (M.putIx rv.t (.fr t0)) t) σ1 with
  | none => rw [hup] at h1; exact h1.elim
  | some σb =>
    rw [hup] at h1
    obtain ⟨m1, m', hmod, hcase⟩ := upS_some hup
    have hm1 : m1 = m := by
      rcases hcase with ⟨q, _⟩ | ⟨q, _⟩ <;> rw [hw1] at q <;> rcases hm with rfl | rfl <;> cases q <;> rfl
    subst hm1
    obtain ⟨c', hput, rfl⟩ := mod_some hp hc hmod
    obtain ⟨Z2, R2, x2, l2, d2⟩ := settle (σ' := σ) R1 x1 s1 p1
    have ll : Later Z H Z2 H1 := ⟨fun a z => l2.z a (l.z a z), fun a o z h => l2.k a o (l.z a z) (l.k a o z h), fun a xs h => l2.tup a xs (l.tup a xs h), fun a o u h => l2.frz a o u (l.frz a o u h)⟩
    have hx1 : Own C Z2 H1 x c Fj := hx.later ll fun a ha => kp a (inF a ha)
    have hF1 : fs1 i = r :: (A ++ (Fj ++ B)) := hf.trans K.eF
    obtain ⟨q, o', F', rfl, hqF, hset, ow', hF', nF', tk'⟩ := own_putIx (G := []) hx1 nFj List.nodup_nil (fun a ha => by cases ha) (fun a ha => by cases ha) (fun a ha => R2.dz i a (by rw [hf]; exact inF a ha)) (fun a ha => R2.ft i a (by rw [hf]; exact inF a ha)) hput d2 (.fr (d0 Z2 H1 ll))
    obtain ⟨e1, e2, e3, e4, e5⟩ := chg_kids (G := []) nF (fun a ha z => by cases ha) hqF hF' nF'
    have hq1 : q ∈ fs1 i := by rw [hf]; exact inF q hqF
    have lq : Later Z2 H1 Z2 (upd H1 q o') := later_upd (R2.dz i q hq1) (R2.ft i q hq1)
    have kq : ∀ a ∈ r :: (A ++ B), ∀ o, H a = some o → upd H1 q o' a = some o := fun a ha o ho => by
      rw [upd_ne fun z => ?_]
      · exact kp a (out a ha) o ho
      · subst z
        rcases List.mem_cons.mp ha with z | ha
        · exact e1 z
        · exact (List.mem_append.mp ha).elim e2 e3
    have lt : Later Z H Z2 (upd H1 q o') := ⟨fun a z => lq.z a (ll.z a z), fun a o z h => lq.k a o (ll.z a z) (ll.k a o z h), fun a xs h => lq.tup a xs (ll.tup a xs h), fun a o u h => lq.frz a o u (ll.frz a o u h)⟩
    have ow := K.set Z2 _ c' F' lt kq ow'
    refine setA_mono hset fun H' e => ?_
    subst e
    obtain ⟨R3, x3⟩ := R2.write (F := []) x2 .nil hq1 hu (fun z => (R2.slotM (hcase.imp (·.1) (·.1))).elim fun v q => by
      have := q.2.2 z
      rw [hu] at q
      cases q.1
      exact this) hcase (fun a ha => by rw [hF1]; exact (e4 a ha)) e5 ow tk'
    exact h1 σ _ Z2 _ R3 x3
theorem ss_setAt {p0 : E} {i : Nat} {x : Str} {kx ix : Expr} {px p1 pos pos' : Pos} {n : Nat} (g : Gd X C n) (hN : X.N[i]? = some x) (hv : Vis X.env.scope x) (hd : (x == ("__debug__" : Str)) = false) (hcd : (x == ("__classdict__" : Str)) = false)
    (hp : SE X C pv Wx cl kx p0) (hsl : isSl kx = false) (hk : SE X C pv Wx cl ix k) (he : SE X C pv Wx cl ex e) (hval : ∀ {σ r σ1}, ev cl e σ = .ok r σ1 → ∃ t, r = .val t) (ha : ∀ v, assign (.Subscript (.Subscript (.Name x px) kx p1) ix pos') X.env v = (do
      let ov ← holding [v] (eval (.Subscript (.Name x px) kx p1) X.env)
      let iv ← holding [v, ov] (eval ix X.env)
      standAt pos'
      holding [v, ov, iv] (setItem ov iv v)
      release [v, ov, iv] [])) (hs : swapsWithSole [.Subscript (.Subscript (.Name x px) kx p1) ix pos'] ex pos.line X.env = pure false) (hw : swappedStores [.Subscript (.Subscript (.Name x px) kx p1) ix pos'] ex X.env = pure none) (h1 : (assignEach [.Subscript (.Subscript (.Name x px) kx p1) ix pos'] X.env).map (·.2) = [assign (.Subscript (.Subscript (.Name x px) kx p1) ix pos') X.env]) :
    PS X (.Assign [.Subscript (.Subscript (.Name x px) kx p1) ix pos'] ex pos) (tS C pv Wx cl (.setAt i p0 k e)) := by
  refine ps_imp (ps_asg he.v (pg_sub (pe_ix (ix_all g.h1) (pe_var hN hv hd hcd) hp.v (plainIx_of hsl)) hk.v (set_A g.h1) ha) hs hw h1) fun D σ H ⟨σa, Z, fs, R, h⟩ => ⟨σa, Z, fs, R, ?_⟩
  simp only [evS] at h
  refine h.bind fun r σ1 v Z1 fs1 H1 F hev R1 x1 s1 p1 h1 => ?_
  obtain ⟨t0, rfl⟩ := hval hev
  have dv : Den C Z1 H1 v t0 := p1
  split at h1
  · rename_i hc
    obtain ⟨u, hu⟩ := isC_ok R1 hc
    refine ⟨u, hu, σ1, Z1, fs1, R1, (h1.shift x1).bindT fun kr σ2 kv Z2 fs2 H2 _ R2 x2 d2 h2 => ?_⟩
    split at h2
    · rename_i hkk
      obtain ⟨m, j, c, hor, hp, hkd⟩ := isK_ok hkk
      obtain ⟨u', hu', ow, _⟩ := R2.slotM hor
      rw [hu] at hu'
      cases hu'
      obtain ⟨r, y, A, Fj, B, K⟩ := own_kid ow d2 hp hkd
      have hw : ∃ w, σ2[i]? = some (some w) ∧ (w = .own m ∨ w = .io m) := by
        rcases hor with q | q
        · exact ⟨_, q, .inl rfl⟩
        · exact ⟨_, q, .inr rfl⟩
      obtain ⟨w, hw, hm⟩ := hw
      rw [← g.hK]
      exact K.ix _ (set_tail R2 hw hm hu hp hkd K (fun Z' H' l => (dv.later (x2.later R1)).later l) h2)
    · exact h2.elim
  · exact h1.elim
end
end PY
set_option Elab.async false
set_option linter.all false
set_option maxRecDepth 100000
set_option maxHeartbeats 1000000
/-! # PySound33: list(x), to be written -/
namespace PY
open PySem L2
section
variable {X : Cx} {C : Pl} {pv : V} {Wx : WX} {cl : Nat → List W → Out R} {ex : Expr} {e : E} {σ σ' : St} {Z Z1 Z2 : Zo} {fs fs1 fs2 : Fo} {H H1 H2 : Hp} {σa σb σ1 : Sig}
theorem ownL_fr {xs : List V} {ts : List T} (d : DenL C Z H xs ts) : OwnL C Z H xs (ts.map .fr) [] := by
  induction xs generalizing ts with
  | nil => cases d; exact .nil
  | cons x xs ih => cases d with | cons a b => exact OwnL.cons (F := []) (G := []) (.fr a) (ih b)
theorem lcp_new {ts : List T} {xs : List V} {Q : VK} (h : Spec C pv Wx σ Z fs H (PR C) (.ok (.own (.lst (ts.map .fr))) σ1) Q) (R : Rel C pv σ1 σ Z fs H) (d : DenL C Z H xs ts) {p : Addr} (hp : H p = none) : Q (.ref p) (upd H p (.lst xs)) := by
  have g : Grow Z H Z (upd H p (.lst xs)) := Grow.new0 R.zt hp
  refine h (.ref p) _ Z fs [p] (R.grow g) g.ext ⟨List.nodup_cons.mpr ⟨by simp, List.nodup_nil⟩, fun b hb z => ?_, fun b hb ⟨i, q⟩ => ?_, tk_cons (tk_lst upd_same) fun b hb => (by cases hb), fun b hb => ?_⟩ (.lst upd_same (ownL_fr (d.later g.later)))
  · rw [List.mem_singleton.mp hb] at z; exact R.zt p z hp
  · rw [List.mem_singleton.mp hb] at q; exact (R.ft i p q).1 hp
  · rw [List.mem_singleton.mp hb]; exact .inr hp
theorem se_lcp {n : Nat} (g : Gd X C n) {p pos : Pos} (ha : SE X C pv Wx cl ex e) (hg : Gl X "list") (hm : X.mg "list" = none) (he : starEach [ex] X.env = (false, eval ex X.env) :: starEach [] X.env) : SE X C pv Wx cl (.Call (.Name "list" p) [ex] [] pos) (.lcp e) := by
  have hc := bi_call (X := X) g.hK g.calm g.sm g.gs g.hu .list
  have hx : bootBuiltins "list" = some (.type "list") := by decide +kernel
  refine .of (pe_imp (pe_callTy hc hg hm hx (pa_cons ha.v pa_nil he) (by decide) (by decide) he rfl) fun σ H Q ⟨σa, Z, fs, R, h⟩ => ?_) fun _ => rfl
  simp only [ev] at h
  refine ⟨σa, Z, fs, R, Spec.bindT h fun r σ1 x Z1 fs1 H1 _ R1 e1 d1 h1 => ?_⟩
  generalize r.t = t at d1 h1
  cases d1 with
  | lst z hh dl => exact ⟨_, _, rfl, .inl (SqL.of hh), fun l hl => lcp_new h1 R1 dl hl⟩
  | tup hh dl => exact ⟨_, _, rfl, .inr hh, fun l hl => lcp_new h1 R1 dl hl⟩
  | _ => exact h1.elim
end
end PY
set_option Elab.async false
set_option linter.all false
set_option maxRecDepth 100000
set_option maxHeartbeats 400000
/-! # PySound15: a def keeps its promise -/
namespace PY
open PySem PySem.Spec PyProof.Rows L2

section
variable {P : Program} {w : World} {K : PySem.W.Frag} {mg : Str → Option Value} {base : Heap} {k : Nat} {f : Addr} {nm ql : Str} {prm : Arguments} {body : List Stmt} {sc : Scope} {u1 u2 u3 u4 cd u5 u6 : Value} {x1 x2 : Option Addr} {sl : Array (Option Value)} {N ps : List Str} {sp : Sp}
/-- the body's context -/
abbrev bx (P : Program) (w : World) (K : PySem.W.Frag) (mg : Str → Option Value) (base : Heap) (N : List Str) (ql : Str) (sc : Scope) (f : Addr) (cd : Value) (A : Around) (l : List Env) (s : Shared) (H : Hp) (E : XK) : Cx := cxOf (L2.CX P w) P w K mg base N ql sc f cd A l s H E
theorem fnG_of (hf : K.lookup f = some ⟨u6, x2, .func (PySem.W.fnOf nm ql prm body sc u1 u2 u3 u4 x1 cd u5), sl⟩) (hcode : PySem.W.codeIn K cd ql = true) (S : FnScope N ps sc) (len : ∀ vs H Q E, sp vs H Q E → vs.length = ps.length)
    (hb : ∀ (A : Around) (l : List Env) (s : Shared) (H : Hp) (vs : List V) (Q : VK) (E : XK), Room k (A.deeper (envOfC ql sc s.heap.objs.size f cd)) → A.guards = some [] → sp vs H Q E →
      ∃ t, PSs (bx P w K mg base N ql sc f cd A l s H E) body t ∧ t { nx := fun _ H' => Q .non H', rt := Q } (start N vs) H) :
    FnG P w K mg base (k + 1) f (PySem.W.fnOf nm ql prm body sc u1 u2 u3 u4 x1 cd u5) ps sp := by
  refine ⟨len, fun A l s H a us vs Q E room gd env0 bound rel promise => ?_⟩
  have hlen := len vs H Q E promise
  have kin : K.In s.heap := env0.mod.kin.keeps fun b o z => (env0.bs b o z).1
  have nolim : s.heap.NoLimit := env0.mod.nolimit.keeps fun b o z => (env0.bs b o z).1
  have kinds : ∀ y ∈ ps.zip us, sc.names.lookup y.1 = some .local ∨ (sc.names.lookup y.1 = some .cell ∧ ((cellsFrom (s.heap.objs.size + 1) sc.names []).lookup y.1).isSome = true) := by
    rintro ⟨x, v⟩ hy
    exact (S.par x (List.of_mem_zip hy).1).imp id fun q => ⟨q, PySem.W.cellsFrom_some _ _ _ (.inl q)⟩
  obtain ⟨t, ht, start_t⟩ := hb A l s H vs Q E (room.deeper _) gd promise
  refine codeAny_call_function room.depth (kin _ _ hf) rfl S.co S.gen rfl (PySem.W.codeRec_of kin hcode) (bound _ _ _ _ (wpAny_newFunctionEnv_cells S.kind kinds ?_))
  rintro _ rfl s1 inC
  refine ⟨nolim.keeps inC.toInCall.keep, codeAny_func ?_⟩
  have inv := inv_start (CX := L2.CX P w) (P := P) (w := w) (K := K) (mg := mg) (base := base) (E := E) S room.hd env0 hlen rel inC
  refine wpAny_mono (ht.run [] s1 (start N vs) H _ inv start_t) (fun fl s2 done => ?_) fun _ _ z => z
  cases fl with
  | brk => exact (let ⟨_, _, _, z⟩ := done; z.elim)
  | cont => exact (let ⟨_, _, _, z⟩ := done; z.elim)
  | next =>
    obtain ⟨_, H2, J, z⟩ := done
    exact ⟨.non, H2, J.os, J.bare, J.base, J.hok, rfl, z⟩
  | ret u =>
    obtain ⟨v, _, H2, J, rv, z⟩ := done
    exact ⟨v, H2, J.os, J.bare, J.base, J.hok, rv, z⟩
theorem bx_takes {A : Around} {l : List Env} {s : Shared} {H : Hp} {E : XK} {ql : Str} {cd : Value} : Takes (bx P w K mg base N ql sc f cd A l s H E) (fun cls d _ H' => E cls d H') :=
  takes_of rfl rfl rfl rfl
theorem bx_passes {A : Around} {l : List Env} {s : Shared} {H : Hp} {E : XK} {ql : Str} {cd : Value} : PassesOwn (model P w) (bx P w K mg base N ql sc f cd A l s H E).A (bx P w K mg base N ql sc f cd A l s H E).env (bx P w K mg base N ql sc f cd A l s H E).xe :=
  passes_of (X := bx P w K mg base N ql sc f cd A l s H E) rfl
end

section
variable {X : Cx} {C : Pl} {pv : V} {Wx : WX} {cl : Nat → List W → Out R} {ex : Expr} {e : E} {σ σ' : L2.St} {Z Z1 Z2 : Zo} {fs fs1 fs2 : Fo} {H H1 H2 : Hp} {σa σb σ1 : Sig} {n : Nat} {D : Ends} {o : Fl}
theorem Rel.startR {N : List Str} {ws : List W} {vs : List V} {ns : Nat} (R : Rel C pv (ws.map some) (vs.map some) Z fs H) (hN : N.length = ns) (hl : ws.length ≤ ns) : Rel C pv (ws.map some ++ List.replicate (ns - ws.length) none) (L2.start N vs) Z fs H := by
  have hwv : ws.length = vs.length := by simpa using R.len
  refine ⟨?_, fun i w h => ?_, R.nd, R.dj, R.dz, R.zt, R.ft⟩
  · unfold L2.start
    simp only [List.length_append, List.length_map, List.length_replicate]
    omega
  · have hi : i < ws.length := by
      by_cases hi : i < ws.length
      · exact hi
      · rw [List.getElem?_append_right (by simpa using hi), List.getElem?_replicate] at h
        split at h <;> cases h
    rw [List.getElem?_append_left (by simpa using hi)] at h
    obtain ⟨v, q1, q2⟩ := R.sl i w h
    refine ⟨v, ?_, q2⟩
    unfold L2.start
    rw [List.getElem?_append_left (by simp; omega)]
    exact q1
theorem repl_none {np i : Nat} {w : W} : (List.replicate np (none : Option W))[i]? ≠ some (some w) := by
  rw [List.getElem?_replicate]
  split <;> exact fun e => by cases e
theorem ioOf_some {o : Option (Option W)} {w : W} (h : ioOf o = some w) : ∃ m, w = .io m ∧ o = some (some (.io m)) := by
  unfold ioOf at h
  split at h
  · exact ⟨_, (Option.some.inj h).symm, rfl⟩
  · cases h
theorem Rel.endsR {np : Nat} {vs : List V} (R : Rel C pv σa σ Z fs H) (hv : vs.headD .non = pv) (hl : vs.length = np) : ∃ fs2, Rel C pv (ends np σa) (vs.map some) Z fs2 H ∧ ∀ a, InF fs2 a → InF fs a := by
  have nof : ends np σa = List.replicate np none → ∃ fs2, Rel C pv (ends np σa) (vs.map some) Z fs2 H ∧ ∀ a, InF fs2 a → InF fs a := fun he => by
    refine ⟨fun _ => [], ⟨by rw [he]; simp [hl], fun i w h => ?_, fun _ => List.nodup_nil, fun i j a h => (by cases h), fun i a h => (by cases h), R.zt, fun i a h => (by cases h)⟩, fun a h => (noF h).elim⟩
    rw [he] at h
    exact (repl_none h).elim
  cases np with
  | zero => exact nof rfl
  | succ np =>
    cases hq : ioOf σa[(0 : Nat)]? with
    | none => exact nof (by show ioOf σa[(0 : Nat)]? :: List.replicate np none = _; rw [hq]; rfl)
    | some w0 =>
      obtain ⟨m, rfl, hm⟩ := ioOf_some hq
      obtain ⟨v, q1, q2, q3⟩ := R.sl 0 _ hm
      have he : ends (np + 1) σa = some (.io m) :: List.replicate np none := by show ioOf σa[(0 : Nat)]? :: List.replicate np none = _; rw [hq]
      cases vs with
      | nil => simp at hl
      | cons v0 vs =>
        have hv0 : v0 = v := by rw [q3]; exact hv
        subst hv0
        have m0 : ∀ {i a}, a ∈ fs1of (fs 0) i → i = 0 ∧ a ∈ fs 0 := fun {i a} h => by
          unfold fs1of at h
          split at h
          · exact ⟨by assumption, h⟩
          · cases h
        refine ⟨fs1of (fs 0), ⟨?_, fun i w h => ?_, fun i => ?_, fun i j a h h' => (m0 h).1.trans (m0 h').1.symm, fun i a h => R.dz 0 a (m0 h).2, R.zt, fun i a h => R.ft 0 a (m0 h).2⟩, fun a h => ⟨0, inF1.mp h⟩⟩
        · rw [he]; simp at hl ⊢; omega
        · rw [he] at h
          cases i with
          | zero =>
            simp only [List.getElem?_cons_zero, Option.some.injEq] at h
            subst h
            exact ⟨v0, rfl, by unfold fs1of; rw [if_pos rfl]; exact ⟨q2, q3⟩⟩
          | succ i =>
            rw [List.getElem?_cons_succ] at h
            exact (repl_none h).elim
        · unfold fs1of
          split
          · exact R.nd 0
          · exact List.nodup_nil
theorem Ext.less (x : Ext Z fs H Z1 fs1 H1) (h : ∀ a, InF fs2 a → InF fs1 a) : Ext Z fs H Z1 fs2 H1 := ⟨x.keep, x.tup, x.frz, x.zm, x.zn, fun a z => x.fn a (h a z)⟩
theorem Sep.less {F : List Addr} (s : Sep F fs H Z1 fs1 H1) (h : ∀ a, InF fs2 a → InF fs1 a) : Sep F fs H Z1 fs2 H1 := ⟨s.nd, s.dz, fun a ha q => s.df a ha (h a q), s.tr, s.nw⟩
/-- the body's end, as the def's promise has it -/
theorem body_ends {E : XK} {np : Nat} {vs : List V} {Q : VK} (hl : vs.length = np)
    (h : Spec C (vs.headD .non) (fun cls d _ H' => E cls d H') (vs.map some) Z fs H (PR C) (match o with
        | .rt r σ => .ok r (ends np σ)
        | .nx σ => .ok (.val .non) (ends np σ)
        | .ex c v σ => .ex c v (ends np σ)
        | _ => .fail) Q) : FlS C (vs.headD .non) (fun cls d _ H' => E cls d H') Z fs H { nx := fun _ H' => Q .non H', rt := Q } o := by
  cases o with
  | fail => exact h
  | bk s => exact h.elim
  | ct s => exact h.elim
  | nx s =>
    intro σ' H' Z' fs' R x
    obtain ⟨fs2, R2, hf⟩ := R.endsR rfl hl
    exact h .non H' Z' fs2 [] R2 (x.less hf) .nil .non
  | rt r s =>
    intro v σ' H' Z' fs' F R x sp p
    obtain ⟨fs2, R2, hf⟩ := R.endsR rfl hl
    exact h v H' Z' fs2 F R2 (x.less hf) (sp.less hf) p
  | ex c t s =>
    intro d σ' H' Z' fs' R x p
    obtain ⟨fs2, R2, hf⟩ := R.endsR rfl hl
    exact h d H' Z' fs2 R2 (x.less hf) p
end
end PY
set_option Elab.async false
set_option linter.all false
set_option maxRecDepth 100000
set_option maxHeartbeats 400000
/-! # PySound16: the check that a text is a def's -/
namespace PY
open PySem L2

/-- what is known where a text stands -/
structure Ck where
  N : List Str
  sc : Scope
  fs : Option Scope
  blt : List Str
  gis : List (Str × Int)
  fns : List (Str × Nat)
  defs : List (Nat × Str × Nat)
  kws : List (Nat × List Str × List Nat)
  cls : List (Str × Nat) := []
  cns : List (Nat × List Nat) := []
  base : List Str := []
/-- the scope of a comprehension's block, by its outer scope -/
def relS (o s : Scope) : Scope := { s with names := s.names.map fun (n, k) => if (k == .free && o.kind == .function && o.names.lookup n == some .cell) then (n, .cell) else (n, k) }
def Ck.blk (k : Ck) (s : Scope) : Ck := { k with sc := relS k.sc s, fs := some s }
def isStar : Expr → Bool
  | .Starred .. => true
  | _ => false
def isSet : Expr → Bool
  | .Set .. => true
  | _ => false
def isLc : Expr → Bool
  | .ListComp .. => true
  | .SetComp .. => true
  | .DictComp .. => true
  | _ => false
def nmOk (k : Ck) (i : Nat) (x : Str) : Bool := decide (k.N[i]? = some x) && (decide (k.sc.names.lookup x = some .local) || decide (k.sc.names.lookup x = some .cell) || decide (k.sc.names.lookup x = some .free)) && !(x == ("__debug__" : Str)) && !(x == ("__classdict__" : Str))
/-- a captured name that is this block's own -/
def cellOk (k : Ck) (x : Str) : Bool := decide (k.sc.names.lookup x = some .cell) && (match k.fs with
  | none => true
  | some s => decide (s.names.lookup x = some .cell))
def locOk (k : Ck) (x : Str) : Bool := decide (k.sc.names.lookup x = some .local)
def stOk (k : Ck) (i : Nat) (x : Str) : Bool := decide (k.N[i]? = some x) && (locOk k x || cellOk k x)
def glOk (k : Ck) (x : Str) : Bool := decide (k.sc.names.lookup x = some .globalImplicit) && !(x == ("__debug__" : Str))
def bltOk (k : Ck) (x : Str) : Bool := glOk k x && decide (x ∈ k.blt) && !(decide (x = "__name__"))
/-- the name of an own exception class -/
def keyIs : Ky → Expr → Bool
  | .inr x, .Constant (.str y) _ _ => decide (x = y)
  | .inl i, .Constant (.int j) _ _ => decide (i = j)
  | _, _ => false
def clOk (k : Ck) (x : Str) (c : Nat) : Bool := glOk k x && decide ((x, c) ∈ k.cls)
def boI : Operator → Option BO
  | .Add => some .add | .Sub => some .sub | .Mult => some .mul | .Mod => some .mod | .Pow => some .pow | .FloorDiv => some .fdiv
  | _ => none
def coI : CmpOp → CO
  | .Eq => .eq | .NotEq => .ne | .Lt => .lt | .LtE => .le | .Gt => .gt | .GtE => .ge | .Is => .is | .IsNot => .isnot | .In => .mem | .NotIn => .nmem
theorem boI_eq {o : Operator} {op : BO} (h : boI o = some op) : o = boO op := by
  cases o <;> simp [boI] at h <;> subst h <;> rfl
theorem coI_eq (o : CmpOp) : o = coO (coI o) := by cases o <;> rfl
def E.isBo : E → Bool
  | .and _ _ => true
  | .or _ _ => true
  | _ => false
def kwNames : List Keyword → Option (List Str)
  | [] => some []
  | ⟨some x, _, _⟩ :: r => (kwNames r).map (x :: ·)
  | ⟨none, _, _⟩ :: _ => none
def ownOf (k : Ck) (vs : List Nat) : List (Str × Nat) := vs.filterMap fun i => (k.N[i]?).map fun x => (x, i)
def namesAre (k : Ck) : List Nat → List Expr → Bool
  | [], [] => true
  | i :: is, .Name x _ :: es => stOk k i x && namesAre k is es
  | _, _ => false
def chkT (k : Ck) : Tg → Expr → Bool
  | .nm i, .Name x _ => stOk k i x
  | .tp is, .Tuple es _ _ => namesAre k is es
  | _, _ => false

def isNm (k : Ck) (i : Nat) : Expr → Bool
  | .Name x _ => nmOk k i x
  | _ => false
def E.isNone : E → Bool
  | .none => true
  | _ => false
/-- what is walked over asks for a tuple as its target -/
def E.pairs : E → Bool
  | .enum _ => true
  | .zip _ _ _ => true
  | _ => false
def isTup : Expr → Bool
  | .Tuple _ _ _ => true
  | _ => false
def optB (n : Bool) (f : Expr → Bool) : Option Expr → Bool
  | none => n
  | some x => !n && f x
def ifsB (n : Bool) (f : Expr → Bool) : List Expr → Bool
  | [] => n
  | [x] => !n && f x
  | _ => false
def baseOk : Expr → Bool
  | .Call (.Name _ _) [] [] _ => false
  | _ => true
theorem base_ok {z : Expr} {a : Str} {env : Env} {w : Sem Value} (h : baseOk z = true) : attributeBase z a env w = w := by
  unfold attributeBase
  split
  · simp [baseOk] at h
  · rfl
mutual
def chkE (k : Ck) : E → Expr → Bool
  | .sl i, ex => match ex with | .Name x _ => nmOk k i x | _ => false
  | .mv i, ex => match ex with | .Name x _ => nmOk k i x | _ => false
  | .non, ex => match ex with | .Constant .none _ _ => true | _ => false
  | .bl b, ex => match ex with | .Constant (.bool c) _ _ => decide (b = c) | _ => false
  | .int i, ex => match ex with | .Constant (.int j) _ _ => decide (i = j) | _ => false
  | .str x, ex => match ex with | .Constant (.str y) _ _ => decide (x = y) | _ => false
  | .gi x i, ex => match ex with | .Name y _ => decide (x = y) && glOk k y && decide ((x, i) ∈ k.gis) | _ => false
  | .fnv f, ex => match ex with | .Name y _ => glOk k y && decide ((y, f) ∈ k.fns) | _ => false
  | .lst _ es, ex => match ex with | .List xs _ => chkM k es xs | _ => false
  | .tup _ es, ex => match ex with | .Tuple xs _ _ => chkM k es xs | _ => false
  | .dnew _, ex => match ex with | .Dict [] [] _ => true | _ => false
  | .bin op a b, ex => match ex with | .BinOp x o y _ => decide (boI o = some op) && chkE k a x && chkE k b y | _ => false
  | .neg a, ex => match ex with | .UnaryOp .USub x _ => chkE k a x | _ => false
  | .not a, ex => match ex with | .UnaryOp .Not x _ => chkE k a x | _ => false
  | .and a b, ex => match ex with
    | .BoolOp .And [x, y] _ => chkE k a x && chkE k b y
    | .BoolOp .And (x :: y :: z :: r) p => chkE k a x && b.isBo && chkE k b (.BoolOp .And (y :: z :: r) p)
    | _ => false
  | .or a b, ex => match ex with
    | .BoolOp .Or [x, y] _ => chkE k a x && chkE k b y
    | .BoolOp .Or (x :: y :: z :: r) p => chkE k a x && b.isBo && chkE k b (.BoolOp .Or (y :: z :: r) p)
    | _ => false
  | .cmp op a b, ex => match ex with | .Compare x [o] [y] _ => decide (coI o = op) && chkE k a x && chkE k b y && !behindInMarks o y | _ => false
  | .chain op op' a b c, ex => match ex with | .Compare x [o, o'] [y, z] _ => decide (coI o = op) && decide (coI o' = op') && chkE k a x && chkE k b y && chkE k c z && !lastMarks [o, o'] [y, z] | _ => false
  | .ite c a b, ex => match ex with | .IfExp x y z _ => chkE k c x && chkE k a y && chkE k b z | _ => false
  | .call f as, ex => match ex with
    | .Call (.Name x _) [] [] _ => glOk k x && decide ((f, x, 0) ∈ k.defs) && (match as with | .nil => true | _ => false)
    | .Call (.Name x _) (y :: ys) [] _ => glOk k x && decide ((f, x, as.alen) ∈ k.defs) && chkA k as (y :: ys)
    | _ => false
  | .callk f ix as, ex => match ex with
    | .Call (.Name x _) [] kws _ => match kwNames kws with
      | some ks => glOk k x && decide ((f, ks, ix) ∈ k.kws) && (k.defs.any fun d => decide (d.1 = f) && decide (d.2.1 = x)) && decide (as.alen = ks.length) && chkK k as kws
      | none => false
    | _ => false
  | .bi b as, ex => match ex with
    | .Call (.Name x _) (y :: ys) [] _ => bltOk k x && decide (x = (b.n : Str)) && decide (bootBuiltins x = some b.v) && chkA k as (y :: ys)
    | _ => false
  | .isi a ty, ex => match ex with
    | .Call (.Name x _) [y, .Name t _] [] _ => decide (x = "isinstance") && bltOk k x && decide (t = (ty.n : Str)) && bltOk k t && !isStar y && chkE k a y
    | _ => false
  | .isi2 a ty ty', ex => match ex with
    | .Call (.Name x _) [y, .Tuple [.Name t _, .Name t' _] _ _] [] _ => decide (x = "isinstance") && bltOk k x && decide (t = (ty.n : Str)) && bltOk k t && decide (t' = (ty'.n : Str)) && bltOk k t' && !isStar y && chkE k a y
    | _ => false
  | .ix a b, ex => match ex with | .Subscript x y _ => chkE k a x && chkE k b y && !isSl y | _ => false
  | .slice a lo hi, ex => match ex with | .Subscript x (.Slice l h none _) _ => chkE k a x && optB lo.isNone (chkE k lo) l && optB hi.isNone (chkE k hi) h | _ => false
  | .comp _ vs tg it c e, ex => match ex with
    | .ListComp elt [⟨t, iter, ifs, 0⟩] s _ => (!it.pairs || isTup t) && chkE k it iter && decide ((ownOf k vs).map (·.2) = vs) && blkC k.N k.sc s (ownOf k vs) && (tg.vars.all fun j => decide (j ∈ vs)) && chkT (k.blk s) tg t && ifsB c.isNone (chkE (k.blk s) c) ifs && chkE (k.blk s) e elt && !isSet iter
    | _ => false
  | .comp2 _ vs vs1 tg it tg1 it1 e, ex => match ex with
    | .ListComp elt [⟨t, iter, [], 0⟩, ⟨t1, iter1, [], 0⟩] s _ => (!it.pairs || isTup t) && chkE k it iter && decide ((ownOf k vs).map (·.2) = vs) && blkC k.N k.sc s (ownOf k vs) && (tg.vars.all fun j => decide (j ∈ vs)) && (tg1.vars.all fun j => decide (j ∈ vs1)) && (vs1.all fun j => decide (j ∈ vs)) && chkT (k.blk s) tg t && (!it1.pairs || isTup t1) && chkE (k.blk s) it1 iter1 && chkT (k.blk s) tg1 t1 && chkE (k.blk s) e elt && !isSet iter && !isSet iter1
    | _ => false
  | .bor e, ex => chkE k e ex
  | .io i, ex => isNm k i ex
  | .give e, ex => chkE k e ex
  | .rng1 a, ex => match ex with | .Call (.Name x _) [y] [] _ => decide (x = "range") && bltOk k x && !isStar y && chkE k a y | _ => false
  | .rng2 a b, ex => match ex with | .Call (.Name x _) [y, z] [] _ => decide (x = "range") && bltOk k x && !isStar y && !isStar z && chkE k a y && chkE k b z | _ => false
  | .enum a, ex => match ex with | .Call (.Name x _) [y] [] _ => decide (x = "enumerate") && bltOk k x && !isStar y && chkE k a y | _ => false
  | .zip s a b, ex => match ex with | .Call (.Name x _) [y, z] [] _ => !s && decide (x = "zip") && bltOk k x && !isStar y && !isStar z && chkE k a y && chkE k b z | _ => false
  | .pr1 q a, ex => match q, ex with
    | .sset, .Call (.Name x _) [.Call (.Name y _) [z] [] _] [] _ => decide (x = "sorted") && bltOk k x && decide (y = "set") && bltOk k y && !isStar z && chkE k a z
    | .lrng, .Call (.Name x _) [.Call (.Name y _) [z] [] _] [] _ => decide (x = "list") && bltOk k x && decide (y = "range") && bltOk k y && !isStar z && chkE k a z
    | .dvals, .Call (.Name x _) [.Call (.Attribute z m ap) [] [] cp] [] _ => decide (x = "list") && bltOk k x && decide (m = "values") && (ap.endLine == cp.line) && baseOk z && chkE k a z
    | _, _ => false
  | .dlit own ks es, ex => match ex with | .Dict keys vals _ => own && !keys.isEmpty && decide (keys.length ≤ 15) && chkD k es ks keys vals | _ => false
  | .pop i, ex => match ex with | .Call (.Attribute (.Name x _) m ap) [] [] cp => nmOk k i x && decide (m = "pop") && (ap.endLine == cp.line) | _ => false
  | .lcp a, ex => match ex with | .Call (.Name x _) [y] [] _ => decide (x = "list") && bltOk k x && !isStar y && chkE k a y | _ => false
  | .isc a c cs, ex => match ex with
    | .Call (.Name x _) [y, .Name z _] [] _ => decide (x = "isinstance") && bltOk k x && clOk k z c && decide ((c, cs) ∈ k.cns) && !isStar y && chkE k a y
    | _ => false
  | .isv a, ex => match ex with
    | .Call (.Name x _) [y, .Name z _] [] _ => decide (x = "isinstance") && bltOk k x && decide (z = "ValueError") && bltOk k z && !isStar y && chkE k a y
    | _ => false
  | .xval a, ex => match ex with | .Attribute z m _ => decide (m = "value") && baseOk z && chkE k a z | _ => false
  | .callv i fl as, ex => match ex with
    | .Call (.Name x _) (y :: ys) [] _ => nmOk k i x && (fl.all fun f => k.defs.any fun d => decide (d.1 = f) && decide (d.2.2 = as.alen)) && chkA k as (y :: ys)
    | _ => false
  | .pr2 q a b, ex => match q, ex with
    | .count, .Call (.Attribute z m ap) [y] [] cp => decide (m = "count") && (ap.endLine == cp.line) && baseOk z && !isStar y && chkE k a z && chkE k b y
    | _, _ => false
  | _, _ => false
def chkD (k : Ck) : E → List Ky → List (Option Expr) → List Expr → Bool
  | .nil, ks, keys, vals => match ks, keys, vals with | [], [], [] => true | _, _, _ => false
  | .cons e es, ks, keys, vals => match ks, keys, vals with | kk :: ks, some kx :: keys, v :: vals => keyIs kk kx && chkE k e v && chkD k es ks keys vals | _, _, _ => false
  | _, _, _, _ => false
def chkM (k : Ck) : E → List Expr → Bool
  | .nil, xs => match xs with | [] => true | _ => false
  | .cons e es, xs => match xs with | x :: xs => chkE k e x && !isStar x && chkM k es xs | _ => false
  | _, _ => false
def chkA (k : Ck) : E → List Expr → Bool
  | .nil, xs => match xs with | [] => true | _ => false
  | .cons e es, xs => match xs with
    | x :: xs => chkE k e x && !isStar x && chkA k es xs
    | _ => false
  | _, _ => false
def chkK (k : Ck) : E → List Keyword → Bool
  | .nil, xs => match xs with | [] => true | _ => false
  | .cons e es, xs => match xs with | ⟨some _, x, _⟩ :: xs => e.plainArg && chkE k e x && chkK k es xs | _ => false
  | _, _ => false
end
end PY
set_option Elab.async false
set_option linter.all false
set_option maxRecDepth 100000
set_option maxHeartbeats 4000000
/-! # PySound17: what is checked is sound: expressions -/
namespace PY
open PySem L2

structure Okc (X : Cx) (C : Pl) (n : Nat) (k : Ck) : Prop where
  g : Gd X C n
  N : X.N = k.N
  sc : X.env.scope = k.sc
  fn : ∀ x, cellOk k x = true → X.fn x = true
  blt : ∀ x ∈ k.blt, X.mg x = none
  gis : ∀ p ∈ k.gis, ∃ u, X.mg p.1 = some u ∧ RelV (.int p.2) u
  fns : ∀ p ∈ k.fns, X.mg p.1 = some (.ref (C.fa p.2))
  defs : ∀ d ∈ k.defs, C.has d.1 = true ∧ C.nm d.1 = d.2.1 ∧ (C.ps d.1).length = d.2.2
  kws : ∀ d ∈ k.kws, C.kws d.1 d.2.1 d.2.2 = true
  cls : ∀ q ∈ k.cls, X.mg q.1 = some (.ref (C.ca q.2)) ∧ ∃ D fI fdI, ClsOk X.prog X.K C q.2 D fI fdI
  exk : ∀ c, C.cls c = true → ExK X.K (C.ca c)
  cns : ∀ q ∈ k.cns, ∀ c, C.cls c = true → PySem.W.kitOne X.K (.ref (C.ca c)) (.ref (C.ca q.1)) = some (q.2.contains c)
  base : ∀ x ∈ k.base, ∃ v, X.mg x = some v ∧ ∀ c, C.cls c = true → PySem.W.exmOne X.K (.ref (C.ca c)) v = some true
  two : 2 ≤ n
structure SEk (X : Cx) (C : Pl) (pv : V) (Wx : WX) (cl : Nat → List W → Out R) (ex : Expr) (e : E) : Prop where
  se : SE X C pv Wx cl ex e
  w : e.isBo = true → PW X ex (tBo C pv Wx cl e)
  it : ∀ tgx, (e.pairs = true → isTup tgx = true) → PI X tgx ex (tI C pv Wx cl e)

section
variable {X : Cx} {C : Pl} {pv : V} {Wx : WX} {cl : Nat → List W → Out R} {ex : Expr} {e : E} {n : Nat} {k : Ck}
theorem Okc.blk (o : Okc X C n k) (s : Shared) (H : Hp) (scope : Scope) (cc : List (Str × Addr)) (L : Addr) (fp : List Addr) : Okc (X.blk s H scope (compEnvC scope cc L X.env) fp) C n (k.blk scope) :=
  ⟨⟨o.g.hK, o.g.calm, o.g.nd, o.g.sm, o.g.gs, o.g.room⟩, o.N, by
    show relabel scope X.env = relS k.sc scope
    unfold relabel relS Env.kindOf
    rw [o.sc], fun x h => by
    unfold cellOk at h
    simp only [Ck.blk, Bool.and_eq_true, decide_eq_true_eq] at h
    show (scope.names.lookup x == some .cell) = true
    rw [h.2]
    rfl, o.blt, o.gis, o.fns, o.defs, o.kws, o.cls, o.exk, o.cns, o.base, o.two⟩
theorem Pg.blk (p : Pg X C n cl) (s : Shared) (H : Hp) (scope : Scope) (cc : List (Str × Addr)) (L : Addr) (fp : List Addr) : Pg (X.blk s H scope (compEnvC scope cc L X.env) fp) C n cl := ⟨p.fn, p.kw⟩
theorem SEk.of (g : Gd X C n) (h : SE X C pv Wx cl ex e) (hb : e.isBo = false) (hp : e.plainIt = true) : SEk X C pv Wx cl ex e := ⟨h, fun q => (by rw [hb] at q; cases q), fun tgx _ => si_plain g hp h⟩
theorem SEk.bo (g : Gd X C n) (h : PE X ex (tE C pv Wx cl e) ∧ PW X ex (tBo C pv Wx cl e)) (hp : e.plainIt = true) : SEk X C pv Wx cl ex e := ⟨.ofW h, fun _ => h.2, fun tgx _ => si_plain g hp (.ofW h)⟩
/-- what is only walked over has no value -/
theorem SEk.walk (hev : ∀ σ, ev cl e σ = .fail) (hb : e.isBo = false) (h : ∀ tgx, (e.pairs = true → isTup tgx = true) → PI X tgx ex (tI C pv Wx cl e)) : SEk X C pv Wx cl ex e :=
  ⟨⟨⟨fun pins s σ H Q I ⟨σa, Z, fs, R, q⟩ => by rw [hev] at q; exact q.elim⟩, ⟨fun pins s σ H Q I ⟨σa, Z, fs, R, q⟩ => by rw [evB_eq, hev] at q; exact q.elim⟩⟩, fun q => (by rw [hb] at q; cases q), h⟩
theorem nm_ok {i : Nat} {x : Str} (o : Okc X C n k) (h : nmOk k i x = true) : X.N[i]? = some x ∧ Vis X.env.scope x ∧ (x == ("__debug__" : Str)) = false ∧ (x == ("__classdict__" : Str)) = false := by
  unfold nmOk at h
  simp only [Bool.and_eq_true, Bool.or_eq_true, decide_eq_true_eq, Bool.not_eq_true'] at h
  obtain ⟨⟨⟨h1, h2⟩, h3⟩, h4⟩ := h
  refine ⟨by rw [o.N]; exact h1, ?_, h3, h4⟩
  unfold Vis
  rw [o.sc]
  rcases h2 with (h2 | h2) | h2
  · exact .inl h2
  · exact .inr (.inl h2)
  · exact .inr (.inr h2)
theorem gl_ok {x : Str} (o : Okc X C n k) (h : glOk k x = true) : Gl X x ∧ (x == ("__debug__" : Str)) = false := by
  unfold glOk at h
  simp only [Bool.and_eq_true, decide_eq_true_eq, Bool.not_eq_true'] at h
  refine ⟨?_, h.2⟩
  show X.env.scope.names.lookup x = _
  rw [o.sc]
  exact h.1
theorem blt_ok {x : Str} (o : Okc X C n k) (h : bltOk k x = true) : Gl X x ∧ X.mg x = none ∧ (x == ("__debug__" : Str)) = false ∧ x ≠ "__name__" := by
  unfold bltOk at h
  simp only [Bool.and_eq_true, decide_eq_true_eq, Bool.not_eq_true', decide_eq_false_iff_not] at h
  obtain ⟨⟨h1, h2⟩, h3⟩ := h
  obtain ⟨g1, g2⟩ := gl_ok o h1
  exact ⟨g1, o.blt x h2, g2, h3⟩
theorem star_cons {x : Expr} {xs : List Expr} {env : Env} (h : isStar x = false) : starEach (x :: xs) env = (false, eval x env) :: starEach xs env := by
  cases x <;> first | rfl | (simp [isStar] at h; done)
theorem star_any {pos : Pos} {env : Env} : ∀ {xs : List Expr}, (∀ x ∈ xs, isStar x = false) → (backTo pos (starEach xs env)).any (·.1) = false
  | [], _ => rfl
  | x :: xs, h => by
    rw [star_cons (h x List.mem_cons_self)]
    show (false || (backTo pos (starEach xs env)).any (·.1)) = false
    rw [star_any fun y hy => h y (List.mem_cons_of_mem _ hy)]
    rfl
theorem chkM_star : ∀ {e : E} {xs : List Expr}, chkM k e xs = true → ∀ x ∈ xs, isStar x = false
  | .nil, [], _ => fun x hx => by cases hx
  | .cons e es, x :: xs, h => by
    simp only [chkM, Bool.and_eq_true, Bool.not_eq_true'] at h
    intro y hy
    rcases List.mem_cons.mp hy with rfl | hy
    · exact h.1.2
    · exact chkM_star h.2 y hy
theorem chkA_star : ∀ {e : E} {xs : List Expr}, chkA k e xs = true → ∀ x ∈ xs, isStar x = false
  | .nil, [], _ => fun x hx => by cases hx
  | .cons e es, x :: xs, h => by
    simp only [chkA, Bool.and_eq_true, Bool.not_eq_true'] at h
    intro y hy
    rcases List.mem_cons.mp hy with rfl | hy
    · exact h.1.2
    · exact chkA_star h.2 y hy
theorem set_no {x : Expr} {env : Env} (h : isSet x = false) : ∀ v, foldedSetIterable x env v = pure v := fun v => by
  cases x <;> first | rfl | (simp [isSet] at h; done)
theorem ifE {c a b : Expr} {pos : Pos} {ta tb tc : TT} (hc : PT X c tc) (ha : PT X a ta) (hb : PT X b tb) : PT X (.IfExp c a b pos) (fun σ H Q => tc σ H fun k H1 => if k = true then ta σ H1 Q else tb σ H1 Q) := by
  refine ⟨fun pins s σ H Q I h => PyProof.Rows.isTrue_IfExp (thn (hc.run pins s σ H _ I h) fun d s1 ⟨H1, I1, q1⟩ => ?_)⟩
  cases d with
  | true => exact ha.run pins s1 σ H1 Q I1 q1
  | false => exact hb.run pins s1 σ H1 Q I1 q1
theorem st_ok {i : Nat} {x : Str} (o : Okc X C n k) (h : stOk k i x = true) : X.N[i]? = some x ∧ Loc X.env.scope x ∧ (X.fn x = true ∨ X.env.scope.names.lookup x = some .local) := by
  unfold stOk at h
  simp only [Bool.and_eq_true, Bool.or_eq_true, decide_eq_true_eq] at h
  refine ⟨by rw [o.N]; exact h.1, ?_⟩
  rcases h.2 with h | h
  · have h : X.env.scope.names.lookup x = some .local := by rw [o.sc]; simpa [locOk] using h
    exact ⟨.inl h, .inr h⟩
  · have f := o.fn x h
    unfold cellOk at h
    simp only [Bool.and_eq_true, decide_eq_true_eq] at h
    exact ⟨.inr (by rw [o.sc]; exact h.1), .inl f⟩
theorem loc_ok {x : Str} (o : Okc X C n k) (h : locOk k x = true) : X.env.scope.names.lookup x = some .local := by
  rw [o.sc]
  simpa [locOk] using h
theorem assign_cons {x : Str} {p : Pos} {es : List Expr} {env : Env} : (assignEach (.Name x p :: es) env).map (·.2) = assign (.Name x p) env :: (assignEach es env).map (·.2) := rfl
theorem names_tgs (o : Okc X C n k) : ∀ {is : List Nat} {es : List Expr}, namesAre k is es = true → PGs X es (tGs C pv is) ∧ (assignEach es X.env).length = is.length ∧ (assignEach es X.env).findIdx? (·.1) = none
  | [], [], _ => ⟨sgs_nil, rfl, rfl⟩
  | i :: is, .Name x p :: es, h => by
    simp only [namesAre, Bool.and_eq_true] at h
    obtain ⟨h1, h2, h3⟩ := st_ok o h.1
    obtain ⟨q1, q2, q3⟩ := names_tgs o h.2
    refine ⟨sgs_cons (sg_nm o.g.nd h1 h2 h3) q1 assign_cons, ?_, ?_⟩
    · show (assignEach es X.env).length + 1 = is.length + 1
      rw [q2]
    · show List.findIdx? (·.1) ((false, assign (.Name x p) X.env) :: assignEach es X.env) = none
      rw [List.findIdx?_cons, q3]
      rfl
theorem chkT_ok (o : Okc X C n k) {tg : Tg} {t : Expr} (h : chkT k tg t = true) : PG X t (tG C pv tg) := by
  cases tg with
  | nm i =>
    cases t with
    | Name x p =>
      obtain ⟨h1, h2, h3⟩ := st_ok o h
      exact sg_nm o.g.nd h1 h2 h3
    | _ => simp [chkT] at h
  | tp is =>
    cases t with
    | Tuple es kk p =>
      obtain ⟨q1, q2, q3⟩ := names_tgs o (show namesAre k is es = true from h)
      exact sg_tp o.g q1 q2 q3
    | _ => simp [chkT] at h
theorem kw_all : ∀ {kws : List Keyword} {ks : List Str} {pos : Pos} {env : Env}, kwNames kws = some ks → (backToKw pos (keywordEach kws env)).all (·.1.isSome) = true ∧ (backToKw pos (keywordEach kws env)).filterMap (·.1) = ks ∧ (backToKw pos (keywordEach kws env)).any (·.1.isNone) = false
  | [], ks, _, _, h => by
    simp only [kwNames, Option.some.injEq] at h
    subst h
    exact ⟨rfl, rfl, rfl⟩
  | ⟨some x, v, p⟩ :: r, ks, pos, env, h => by
    simp only [kwNames, Option.map_eq_some_iff] at h
    obtain ⟨ks', h1, rfl⟩ := h
    obtain ⟨a1, a2, a3⟩ := kw_all (pos := pos) (env := env) h1
    refine ⟨?_, ?_, ?_⟩
    · show (true && (backToKw pos (keywordEach r env)).all (·.1.isSome)) = true
      rw [a1]; rfl
    · show x :: (backToKw pos (keywordEach r env)).filterMap (·.1) = x :: ks'
      rw [a2]
    · show (false || (backToKw pos (keywordEach r env)).any (·.1.isNone)) = false
      rw [a3]; rfl
  | ⟨none, _, _⟩ :: r, _, _, _, h => by simp [kwNames] at h
theorem opt_ok {lo : E} {l : Option Expr} (h : optB lo.isNone (chkE k lo) l = true) (ih : ∀ x, chkE k lo x = true → SE X C pv Wx cl x lo) : PO X l (tO C pv Wx cl lo) := by
  cases l with
  | none =>
    cases lo <;> first | exact so_none | (simp [optB, E.isNone] at h; done)
  | some x =>
    simp only [optB, Bool.and_eq_true, Bool.not_eq_true'] at h
    exact so_some (ih x h.2) fun q => by rw [q] at h; simp [E.isNone] at h
theorem ifs_ok {c : E} {xs : List Expr} (h : ifsB c.isNone (chkE k c) xs = true) (ih : ∀ x, chkE k c x = true → SE X C pv Wx cl x c) : PTs X xs (tC C pv Wx cl c) := by
  match xs, h with
  | [], h => cases c <;> first | exact sc_nil | (simp [ifsB, E.isNone] at h; done)
  | [x], h =>
    simp only [ifsB, Bool.and_eq_true, Bool.not_eq_true'] at h
    exact sc_one (fun q => by rw [q] at h; simp [E.isNone] at h) (ih x h.2)
  | _ :: _ :: _, h => simp [ifsB] at h
theorem SEk.void (g : Gd X C n) (hev : ∀ σ, ev cl e σ = .fail) (hb : e.isBo = false) (hp : e.plainIt = true) : SEk X C pv Wx cl ex e :=
  .of g ⟨⟨fun pins s σ H Q I ⟨σa, Z, fs, R, q⟩ => by rw [hev] at q; exact q.elim⟩, ⟨fun pins s σ H Q I ⟨σa, Z, fs, R, q⟩ => by rw [evB_eq, hev] at q; exact q.elim⟩⟩ hb hp
theorem cl_ok {x : Str} {c : Nat} (o : Okc X C n k) (h : clOk k x c = true) : Gl X x ∧ (x == ("__debug__" : Str)) = false ∧ X.mg x = some (.ref (C.ca c)) ∧ ∃ D fI fdI, ClsOk X.prog X.K C c D fI fdI := by
  unfold clOk at h
  rw [Bool.and_eq_true, decide_eq_true_eq] at h
  obtain ⟨g1, g2⟩ := gl_ok o h.1
  exact ⟨g1, g2, (o.cls _ h.2).1, (o.cls _ h.2).2⟩
theorem boot_VE : bootBuiltins "ValueError" = some (.type "ValueError") := by decide +kernel
theorem isV_kit {K : PySem.W.Frag} {D : Addr} (T : ExK K D) : PySem.W.kitOne K (.ref D) (.type "ValueError") = some true := by
  unfold PySem.W.kitOne
  rw [if_neg (by simp)]
  show (if PySem.W.kitMeta "ValueError" = true then PySem.W.subIn K (.ref D) (.type "ValueError") else none) = _
  rw [if_pos (by decide +kernel)]
  exact T.subV
theorem key_ok {kk : Ky} {kx : Expr} (h : keyIs kk kx = true) : PE X kx (L2.tC (kV kk)) := by
  unfold keyIs at h
  split at h
  · rw [decide_eq_true_eq] at h
    subst h
    exact pe_str
  · rw [decide_eq_true_eq] at h
    subst h
    exact pe_int
  · cases h
mutual
theorem chkE_ok : ∀ (e : E) {k : Ck} {ex : Expr} {X : Cx} {pv : V} {Wx : WX}, chkE k e ex = true → Okc X C n k → Pg X C n cl → Takes X Wx → SEk X C pv Wx cl ex e
  | .sl i, k, ex, X, pv, Wx, h, o, p, t => by
    simp only [chkE] at h
    split at h
    · obtain ⟨h1, h2, h3, h4⟩ := nm_ok o h
      exact .of o.g (se_sl h1 h2 h3 h4) rfl rfl
    · cases h
  | .mv i, k, ex, X, pv, Wx, h, o, p, t => by
    simp only [chkE] at h
    split at h
    · obtain ⟨h1, h2, h3, h4⟩ := nm_ok o h
      exact .of o.g (se_mv h1 h2 h3 h4) rfl rfl
    · cases h
  | .non, k, ex, X, pv, Wx, h, o, p, t => by
    simp only [chkE] at h
    split at h
    · exact .of o.g se_non rfl rfl
    · cases h
  | .bl b, k, ex, X, pv, Wx, h, o, p, t => by
    simp only [chkE] at h
    split at h
    · simp only [decide_eq_true_eq] at h
      subst h
      exact .of o.g se_bl rfl rfl
    · cases h
  | .int b, k, ex, X, pv, Wx, h, o, p, t => by
    simp only [chkE] at h
    split at h
    · simp only [decide_eq_true_eq] at h
      subst h
      exact .of o.g se_int rfl rfl
    · cases h
  | .str b, k, ex, X, pv, Wx, h, o, p, t => by
    simp only [chkE] at h
    split at h
    · simp only [decide_eq_true_eq] at h
      subst h
      exact .of o.g se_str rfl rfl
    · cases h
  | .gi x i, k, ex, X, pv, Wx, h, o, p, t => by
    simp only [chkE] at h
    split at h
    · simp only [Bool.and_eq_true, decide_eq_true_eq] at h
      obtain ⟨⟨rfl, h1⟩, h2⟩ := h
      obtain ⟨g1, g2⟩ := gl_ok o h1
      obtain ⟨u, m1, m2⟩ := o.gis _ h2
      exact .of o.g (se_gi g1 m1 m2 g2) rfl rfl
    · cases h
  | .fnv f, k, ex, X, pv, Wx, h, o, p, t => by
    simp only [chkE] at h
    split at h
    · simp only [Bool.and_eq_true, decide_eq_true_eq] at h
      obtain ⟨h1, h2⟩ := h
      obtain ⟨g1, g2⟩ := gl_ok o h1
      exact .of o.g (se_fnv g1 (o.fns _ h2) g2) rfl rfl
    · cases h
  | .lst own es, k, ex, X, pv, Wx, h, o, p, t => by
    simp only [chkE] at h
    split at h
    · exact .of o.g (se_lst (chkM_ok es h o p t)) rfl rfl
    · cases h
  | .tup own es, k, ex, X, pv, Wx, h, o, p, t => by
    simp only [chkE] at h
    split at h
    · exact .of o.g (se_tup (chkM_ok es h o p t)) rfl rfl
    · cases h
  | .dnew own, k, ex, X, pv, Wx, h, o, p, t => by
    simp only [chkE] at h
    split at h
    · exact .of o.g se_dnew rfl rfl
    · cases h
  | .bin op a b, k, ex, X, pv, Wx, h, o, p, t => by
    simp only [chkE] at h
    split at h
    · simp only [Bool.and_eq_true, decide_eq_true_eq] at h
      obtain ⟨⟨h1, h2⟩, h3⟩ := h
      rw [boI_eq h1]
      exact .of o.g (se_bin (chkE_ok a h2 o p t).se (chkE_ok b h3 o p t).se) rfl rfl
    · cases h
  | .neg a, k, ex, X, pv, Wx, h, o, p, t => by
    simp only [chkE] at h
    split at h
    · exact .of o.g (se_neg (chkE_ok a h o p t).se) rfl rfl
    · cases h
  | .not a, k, ex, X, pv, Wx, h, o, p, t => by
    simp only [chkE] at h
    split at h
    · exact .of o.g (se_not (chkE_ok a h o p t).se) rfl rfl
    · cases h
  | .and a b, k, ex, X, pv, Wx, h, o, p, t => by
    simp only [chkE] at h
    split at h
    · simp only [Bool.and_eq_true] at h
      have q := (chkE_ok b h.2 o p t (pv := pv)).se
      exact .bo o.g (se_and (chkE_ok a h.1 o p t).se (se_one q).1 (se_one q).2) rfl
    · simp only [Bool.and_eq_true] at h
      have q := chkE_ok b h.2 o p t (pv := pv)
      exact .bo o.g (se_and (chkE_ok a h.1.1 o p t).se q.se.v (q.w h.1.2)) rfl
    · cases h
  | .or a b, k, ex, X, pv, Wx, h, o, p, t => by
    simp only [chkE] at h
    split at h
    · simp only [Bool.and_eq_true] at h
      have q := (chkE_ok b h.2 o p t (pv := pv)).se
      exact .bo o.g (se_or (chkE_ok a h.1 o p t).se (se_one q).1 (se_one q).2) rfl
    · simp only [Bool.and_eq_true] at h
      have q := chkE_ok b h.2 o p t (pv := pv)
      exact .bo o.g (se_or (chkE_ok a h.1.1 o p t).se q.se.v (q.w h.1.2)) rfl
    · cases h
  | .cmp op a b, k, ex, X, pv, Wx, h, o, p, t => by
    simp only [chkE] at h
    split at h
    · rename_i x op' y pos
      simp only [Bool.and_eq_true, decide_eq_true_eq, Bool.not_eq_true'] at h
      obtain ⟨⟨⟨rfl, h2⟩, h3⟩, h4⟩ := h
      have e := coI_eq op'
      rw [e] at h4
      rw [e]
      have q := se_cmp (pv := pv) (Wx := Wx) (cl := cl) o.g (pos := pos) (chkE_ok a h2 o p t).se (chkE_ok b h3 o p t).se h4
      rw [← e] at q ⊢
      exact .of o.g q rfl rfl
    · cases h
  | .chain op op' a b c, k, ex, X, pv, Wx, h, o, p, t => by
    simp only [chkE] at h
    split at h
    · rename_i x o1 o2 y z pos
      simp only [Bool.and_eq_true, decide_eq_true_eq, Bool.not_eq_true'] at h
      obtain ⟨⟨⟨⟨⟨rfl, rfl⟩, h2⟩, h3⟩, h5⟩, h4⟩ := h
      have e := coI_eq o1
      have e' := coI_eq o2
      rw [e, e'] at h4
      have q := se_chain (pv := pv) (Wx := Wx) (cl := cl) o.g (pos := pos) (chkE_ok a h2 o p t).se (chkE_ok b h3 o p t).se (chkE_ok c h5 o p t).se h4
      rw [← e, ← e'] at q
      exact .of o.g q rfl rfl
    · cases h
  | .ite c a b, k, ex, X, pv, Wx, h, o, p, t => by
    simp only [chkE] at h
    split at h
    · simp only [Bool.and_eq_true] at h
      exact .of o.g (se_ite (chkE_ok c h.1.1 o p t).se (chkE_ok a h.1.2 o p t).se (chkE_ok b h.2 o p t).se ifE) rfl rfl
    · cases h
  | .call f as, k, ex, X, pv, Wx, h, o, p, t => by
    simp only [chkE] at h
    split at h
    · simp only [Bool.and_eq_true, decide_eq_true_eq] at h
      obtain ⟨⟨h1, h2⟩, h3⟩ := h
      obtain ⟨g1, g2⟩ := gl_ok o h1
      obtain ⟨d1, d2, d3⟩ := o.defs _ h2
      simp only at d1 d2 d3
      subst d2
      split at h3
      · exact .of o.g (se_call0 o.g p t d1 g1 g2 d3) rfl rfl
      · cases h3
    · simp only [Bool.and_eq_true, decide_eq_true_eq] at h
      obtain ⟨⟨h1, h2⟩, h3⟩ := h
      obtain ⟨g1, g2⟩ := gl_ok o h1
      obtain ⟨d1, d2, d3⟩ := o.defs _ h2
      simp only at d1 d2 d3
      subst d2
      have st := chkA_star h3
      exact .of o.g (se_call o.g p t d1 g1 g2 (chkA_ok as h3 o p t) d3.symm (star_cons (st _ List.mem_cons_self)) (star_any fun y hy => st y (List.mem_cons_of_mem _ hy))) rfl rfl
    · cases h
  | .callk f ix as, k, ex, X, pv, Wx, h, o, p, t => by
    simp only [chkE] at h
    split at h
    · split at h
      · rename_i ks hks
        simp only [Bool.and_eq_true, decide_eq_true_eq, List.any_eq_true] at h
        obtain ⟨⟨⟨⟨h1, h2⟩, ⟨d, hd, e1, e2⟩⟩, h4⟩, h5⟩ := h
        obtain ⟨g1, g2⟩ := gl_ok o h1
        obtain ⟨d1, d2, d3⟩ := o.defs _ hd
        have kw := o.kws _ h2
        simp only at kw
        rw [e1] at d1 d2
        rw [e2] at d2
        subst d2
        refine .of o.g (se_callk o.g p t d1 kw g1 g2 (chkK_ok as h5 o p t) h4 (kw_all hks).1 (kw_all hks).2.1 ?_) rfl rfl
        rw [(kw_all hks).2.2]
        rfl
      · cases h
    · cases h
  | .bi b as, k, ex, X, pv, Wx, h, o, p, t => by
    simp only [chkE] at h
    split at h
    · simp only [Bool.and_eq_true, decide_eq_true_eq] at h
      obtain ⟨⟨⟨h1, h2⟩, h3⟩, h4⟩ := h
      obtain ⟨g1, g2, g3, g4⟩ := blt_ok o h1
      have st := chkA_star h4
      exact .of o.g (se_bi o.g h3 g1 g2 (chkA_ok as h4 o p t) g4 g3 (star_cons (st _ List.mem_cons_self)) (star_any fun y hy => st y (List.mem_cons_of_mem _ hy))) rfl rfl
    · cases h
  | .isi a ty, k, ex, X, pv, Wx, h, o, p, t => by
    simp only [chkE] at h
    split at h
    · simp only [Bool.and_eq_true, decide_eq_true_eq, Bool.not_eq_true'] at h
      obtain ⟨⟨⟨⟨⟨rfl, h2⟩, rfl⟩, h4⟩, h5⟩, h6⟩ := h
      obtain ⟨g1, g2, _, _⟩ := blt_ok o h2
      obtain ⟨g3, g4, _, _⟩ := blt_ok o h4
      exact .of o.g (se_isi o.g (chkE_ok a h6 o p t).se g1 g2 g3 g4 (star_cons h5)) rfl rfl
    · cases h
  | .isi2 a ty ty', k, ex, X, pv, Wx, h, o, p, t => by
    simp only [chkE] at h
    split at h
    · simp only [Bool.and_eq_true, decide_eq_true_eq, Bool.not_eq_true'] at h
      obtain ⟨⟨⟨⟨⟨⟨⟨rfl, h2⟩, rfl⟩, h4⟩, rfl⟩, h7⟩, h5⟩, h6⟩ := h
      obtain ⟨g1, g2, _, _⟩ := blt_ok o h2
      obtain ⟨g3, g4, _, _⟩ := blt_ok o h4
      obtain ⟨g5, g6, _, _⟩ := blt_ok o h7
      exact .of o.g (se_isi2 o.g (chkE_ok a h6 o p t).se g1 g2 g3 g4 g5 g6 (star_cons h5)) rfl rfl
    · cases h
  | .ix a b, k, ex, X, pv, Wx, h, o, p, t => by
    simp only [chkE] at h
    split at h
    · simp only [Bool.and_eq_true, Bool.not_eq_true'] at h
      exact .of o.g (se_ix o.g (chkE_ok a h.1.1 o p t).se (chkE_ok b h.1.2 o p t).se h.2) rfl rfl
    · cases h
  | .slice a lo hi, k, ex, X, pv, Wx, h, o, p, t => by
    simp only [chkE] at h
    split at h
    · simp only [Bool.and_eq_true] at h
      exact .of o.g (se_slice o.g (chkE_ok a h.1.1 o p t).se (opt_ok h.1.2 fun x hx => (chkE_ok lo hx o p t).se) (opt_ok h.2 fun x hx => (chkE_ok hi hx o p t).se)) rfl rfl
    · cases h
  | .comp own vs tg it c e, k, ex, X, pv, Wx, h, o, p, t => by
    simp only [chkE] at h
    split at h
    · rename_i pos
      simp only [Bool.and_eq_true, Bool.or_eq_true, Bool.not_eq_true', decide_eq_true_eq, List.all_eq_true] at h
      obtain ⟨⟨⟨⟨⟨⟨⟨⟨h0, h1⟩, h2⟩, h3⟩, h4⟩, h5⟩, h6⟩, h7⟩, h8⟩ := h
      have q := se_comp (pos := pos) (pv := pv) (Wx := Wx) (cl := cl) (own := own) (vs := ownOf k vs) o.g (by rw [h2]; exact h4) ((chkE_ok it h1 o p t).it _ fun q => by rw [q] at h0; simpa using h0) (by rw [o.N, o.sc]; exact blkOk_by h3)
        (fun s H L cc fp => chkT_ok (o.blk s H _ cc L fp) h5) (fun s H L cc fp => ifs_ok h6 fun x hx => (chkE_ok c hx (o.blk s H _ cc L fp) (p.blk s H _ cc L fp) takes0).se) (fun s H L cc fp => (chkE_ok e h7 (o.blk s H _ cc L fp) (p.blk s H _ cc L fp) takes0).se) (set_no h8)
      rw [h2] at q
      exact .of o.g q rfl rfl
    · cases h
  | .comp2 own vs vs1 tg it tg1 it1 e, k, ex, X, pv, Wx, h, o, p, t => by
    simp only [chkE] at h
    split at h
    · rename_i pos
      simp only [Bool.and_eq_true, Bool.or_eq_true, Bool.not_eq_true', decide_eq_true_eq, List.all_eq_true] at h
      obtain ⟨⟨⟨⟨⟨⟨⟨⟨⟨⟨⟨⟨⟨h0, h1⟩, h2⟩, h3⟩, h4⟩, h5⟩, h6⟩, h7⟩, h8⟩, h9⟩, h10⟩, h11⟩, h12⟩, h13⟩ := h
      have q := se_comp2 (pos := pos) (pv := pv) (Wx := Wx) (cl := cl) (own := own) (vs := ownOf k vs) (vs1 := vs1) o.g (by rw [h2]; exact h4) h5 (by rw [h2]; exact h6) ((chkE_ok it h1 o p t).it _ fun q => by rw [q] at h0; simpa using h0) (by rw [o.N, o.sc]; exact blkOk_by h3)
        (fun s H L cc fp => chkT_ok (o.blk s H _ cc L fp) h7) (fun s H L cc fp => (chkE_ok it1 h9 (o.blk s H _ cc L fp) (p.blk s H _ cc L fp) takes0).it _ fun q => by rw [q] at h8; simpa using h8) (fun s H L cc fp => chkT_ok (o.blk s H _ cc L fp) h10)
        (fun s H L cc fp => (chkE_ok e h11 (o.blk s H _ cc L fp) (p.blk s H _ cc L fp) takes0).se) (set_no h12) (fun env x => set_no h13 x)
      rw [h2] at q
      exact .of o.g q rfl rfl
    · cases h
  | .bor e, k, ex, X, pv, Wx, h, o, p, t => by
    simp only [chkE] at h
    exact .of o.g (se_bor (chkE_ok e h o p t).se) rfl rfl
  | .dlit own ks es, k, ex, X, pv, Wx, h, o, p, t => by
    simp only [chkE] at h
    split at h
    · simp only [Bool.and_eq_true, decide_eq_true_eq, Bool.not_eq_true'] at h
      obtain ⟨⟨⟨rfl, h2⟩, h3⟩, h4⟩ := h
      obtain ⟨d1, d2, d3, d4⟩ := chkD_ok es h4 o p t (pv := pv) (Wx := Wx)
      exact .of o.g (se_dlit (d1 _) d2 d4 d3 (fun q => by rw [q] at h2; cases h2) h3) rfl rfl
    · cases h
  | .lcp a, k, ex, X, pv, Wx, h, o, p, t => by
    simp only [chkE] at h
    split at h
    · simp only [Bool.and_eq_true, decide_eq_true_eq, Bool.not_eq_true'] at h
      obtain ⟨⟨⟨rfl, h2⟩, h3⟩, h4⟩ := h
      obtain ⟨g1, g2, _, _⟩ := blt_ok o h2
      exact .of o.g (se_lcp o.g (chkE_ok a h4 o p t).se g1 g2 (star_cons h3)) rfl rfl
    · cases h
  | .isc a c cs, k, ex, X, pv, Wx, h, o, p, t => by
    simp only [chkE] at h
    split at h
    · simp only [Bool.and_eq_true, decide_eq_true_eq, Bool.not_eq_true'] at h
      obtain ⟨⟨⟨⟨⟨rfl, h2⟩, h3⟩, h4⟩, h5⟩, h6⟩ := h
      obtain ⟨g1, g2, _, _⟩ := blt_ok o h2
      obtain ⟨g3, g4, m, _⟩ := cl_ok o h3
      exact .of o.g (se_isX (k := .ref (C.ca c)) (cv := .ref (C.ca c)) (f := fun d => cs.contains d) o.exk (o.cns _ h4) (fun σ => by simp only [ev]; rfl) (chkE_ok a h6 o p t).se g1 g2 (pe_glob (v := .ref (C.ca c)) g3 m rfl g4) (fun u q => q) (star_cons h5) (star_cons rfl)) rfl rfl
    · cases h
  | .isv a, k, ex, X, pv, Wx, h, o, p, t => by
    simp only [chkE] at h
    split at h
    · simp only [Bool.and_eq_true, decide_eq_true_eq, Bool.not_eq_true'] at h
      obtain ⟨⟨⟨⟨⟨rfl, h2⟩, rfl⟩, h4⟩, h5⟩, h6⟩ := h
      obtain ⟨g1, g2, _, _⟩ := blt_ok o h2
      obtain ⟨g3, g4, _, _⟩ := blt_ok o h4
      exact .of o.g (se_isX (k := .ty "ValueError") (cv := .type "ValueError") (f := fun _ => true) o.exk (fun c hc => isV_kit (o.exk c hc)) (fun σ => by simp only [ev]; rfl) (chkE_ok a h6 o p t).se g1 g2 (pe_bltn (v := .ty "ValueError") g3 g4 boot_VE rfl (by decide) (by decide)) (fun u q => q) (star_cons h5) (star_cons rfl)) rfl rfl
    · cases h
  | .xval a, k, ex, X, pv, Wx, h, o, p, t => by
    simp only [chkE] at h
    split at h
    · simp only [Bool.and_eq_true, decide_eq_true_eq] at h
      obtain ⟨⟨rfl, h2⟩, h3⟩ := h
      exact .of o.g (se_xval o.exk (chkE_ok a h3 o p t).se (base_ok h2) fun _ => rfl) rfl rfl
    · cases h
  | .callv i fl as, k, ex, X, pv, Wx, h, o, p, t => by
    simp only [chkE] at h
    split at h
    · simp only [Bool.and_eq_true, List.all_eq_true, List.any_eq_true, decide_eq_true_eq] at h
      obtain ⟨⟨h1, h2⟩, h3⟩ := h
      obtain ⟨q1, q2, q3, q4⟩ := nm_ok o h1
      have st := chkA_star h3
      refine .of o.g (se_callv o.g p t (fun f hf => ?_) q1 q2 q3 q4 (chkA_ok as h3 o p t) (star_cons (st _ List.mem_cons_self)) (star_any fun y hy => st y (List.mem_cons_of_mem _ hy))) rfl rfl
      obtain ⟨d, hd, e1, e2⟩ := h2 f hf
      obtain ⟨d1, _, d3⟩ := o.defs _ hd
      rw [← e1]
      exact ⟨d1, by rw [d3, e2]⟩
    · cases h
  | .rng1 a, k, ex, X, pv, Wx, h, o, p, t => by
    simp only [chkE] at h
    split at h
    · simp only [Bool.and_eq_true, decide_eq_true_eq, Bool.not_eq_true'] at h
      obtain ⟨⟨⟨rfl, h2⟩, h3⟩, h4⟩ := h
      obtain ⟨g1, g2, _, _⟩ := blt_ok o h2
      exact .walk (fun σ => by simp only [ev]) rfl fun tgx _ => si_rng1 (chkE_ok a h4 o p t).se g1 g2 (star_cons h3) (star_cons h3)
    · cases h
  | .rng2 a b, k, ex, X, pv, Wx, h, o, p, t => by
    simp only [chkE] at h
    split at h
    · simp only [Bool.and_eq_true, decide_eq_true_eq, Bool.not_eq_true'] at h
      obtain ⟨⟨⟨⟨⟨rfl, h2⟩, h3⟩, h4⟩, h5⟩, h6⟩ := h
      obtain ⟨g1, g2, _, _⟩ := blt_ok o h2
      exact .walk (fun σ => by simp only [ev]) rfl fun tgx _ => si_rng2 (chkE_ok a h5 o p t).se (chkE_ok b h6 o p t).se g1 g2 (star_cons h3) (star_cons h4) (by rw [star_cons h3, star_cons h4]; rfl) (star_cons h4)
    · cases h
  | .enum a, k, ex, X, pv, Wx, h, o, p, t => by
    simp only [chkE] at h
    split at h
    · simp only [Bool.and_eq_true, decide_eq_true_eq, Bool.not_eq_true'] at h
      obtain ⟨⟨⟨rfl, h2⟩, h3⟩, h4⟩ := h
      obtain ⟨g1, g2, _, _⟩ := blt_ok o h2
      refine .walk (fun σ => by simp only [ev]) rfl fun tgx ht => ?_
      have ht := ht rfl
      cases tgx with
      | Tuple es kk tp => exact si_enum o.g (chkE_ok a h4 o p t).se g1 g2 (star_cons h3) (star_cons h3)
      | _ => simp [isTup] at ht
    · cases h
  | .zip s a b, k, ex, X, pv, Wx, h, o, p, t => by
    simp only [chkE] at h
    split at h
    · simp only [Bool.and_eq_true, decide_eq_true_eq, Bool.not_eq_true'] at h
      obtain ⟨⟨⟨⟨⟨⟨rfl, rfl⟩, h2⟩, h3⟩, h4⟩, h5⟩, h6⟩ := h
      obtain ⟨g1, g2, _, _⟩ := blt_ok o h2
      refine .walk (fun σ => by simp only [ev]) rfl fun tgx ht => ?_
      have ht := ht rfl
      cases tgx with
      | Tuple es kk tp => exact si_zip o.g (chkE_ok a h5 o p t).se (chkE_ok b h6 o p t).se g1 g2 (star_cons h3) (star_cons h4) (by rw [star_cons h4]; rfl)
      | _ => simp [isTup] at ht
    · cases h
  | .io _, k, ex, X, pv, Wx, h, o, p, t => .void o.g (fun σ => by simp only [ev]) rfl rfl
  | .give _, k, ex, X, pv, Wx, h, o, p, t => .void o.g (fun σ => by simp only [ev]) rfl rfl
  | .pop i, k, ex, X, pv, Wx, h, o, p, t => by
    simp only [chkE] at h
    split at h
    · simp only [Bool.and_eq_true, decide_eq_true_eq] at h
      obtain ⟨⟨h1, rfl⟩, h3⟩ := h
      obtain ⟨q1, q2, q3, q4⟩ := nm_ok o h1
      exact .of o.g (se_pop q1 q2 q3 q4 (base_ok rfl) h3) rfl rfl
    · cases h
  | .popAt _ _, k, ex, X, pv, Wx, h, o, p, t => by simp [chkE] at h
  | .nil, k, ex, X, pv, Wx, h, o, p, t => by simp [chkE] at h
  | .cons _ _, k, ex, X, pv, Wx, h, o, p, t => by simp [chkE] at h
  | .pr1 q a, k, ex, X, pv, Wx, h, o, p, t => by
    simp only [chkE] at h
    split at h
    · simp only [Bool.and_eq_true, decide_eq_true_eq, Bool.not_eq_true'] at h
      obtain ⟨⟨⟨⟨⟨rfl, h2⟩, rfl⟩, h4⟩, h5⟩, h6⟩ := h
      obtain ⟨g1, g2, _, _⟩ := blt_ok o h2
      obtain ⟨g3, g4, _, _⟩ := blt_ok o h4
      exact .of o.g (se_sset o.g (chkE_ok a h6 o p t).se g1 g2 g3 g4 (star_cons h5) (star_cons rfl)) rfl rfl
    · simp only [Bool.and_eq_true, decide_eq_true_eq, Bool.not_eq_true'] at h
      obtain ⟨⟨⟨⟨⟨rfl, h2⟩, rfl⟩, h4⟩, h5⟩, h6⟩ := h
      obtain ⟨g1, g2, _, _⟩ := blt_ok o h2
      obtain ⟨g3, g4, _, _⟩ := blt_ok o h4
      exact .of o.g (se_lrng o.g (chkE_ok a h6 o p t).se g1 g2 g3 g4 (star_cons h5) (star_cons rfl)) rfl rfl
    · simp only [Bool.and_eq_true, decide_eq_true_eq] at h
      obtain ⟨⟨⟨⟨⟨rfl, h2⟩, rfl⟩, h4⟩, h5⟩, h6⟩ := h
      obtain ⟨g1, g2, _, _⟩ := blt_ok o h2
      exact .of o.g (se_dvals o.g (chkE_ok a h6 o p t).se g1 g2 (base_ok h5) h4 (star_cons rfl)) rfl rfl
    · cases h
  | .pr2 q a b, k, ex, X, pv, Wx, h, o, p, t => by
    simp only [chkE] at h
    split at h
    · simp only [Bool.and_eq_true, decide_eq_true_eq, Bool.not_eq_true'] at h
      obtain ⟨⟨⟨⟨⟨rfl, h2⟩, h3⟩, h4⟩, h5⟩, h6⟩ := h
      have sc := star_cons (xs := []) (env := X.env) h4
      refine .of o.g (se_count o.g (chkE_ok a h5 o p t).se (chkE_ok b h6 o p t).se (base_ok h3) ?_ h2 sc rfl) rfl rfl
      rw [sc]
      rfl
    · cases h
  | .none, k, ex, X, pv, Wx, h, o, p, t => by simp [chkE] at h
theorem chkM_ok : ∀ (e : E) {k : Ck} {xs : List Expr} {X : Cx} {pv : V} {Wx : WX}, chkM k e xs = true → Okc X C n k → Pg X C n cl → Takes X Wx → PA X xs (tM C pv Wx cl e)
  | .nil, k, xs, X, pv, Wx, h, o, p, t => by
    simp only [chkM] at h
    split at h
    · exact sm_nil
    · cases h
  | .cons e es, k, xs, X, pv, Wx, h, o, p, t => by
    simp only [chkM] at h
    split at h
    · simp only [Bool.and_eq_true, Bool.not_eq_true'] at h
      exact sm_cons (chkE_ok e h.1.1 o p t).se (chkM_ok es h.2 o p t) (star_cons h.1.2)
    · cases h
  | .sl _, k, xs, X, pv, Wx, h, o, p, t => by simp [chkM] at h
  | .mv _, k, xs, X, pv, Wx, h, o, p, t => by simp [chkM] at h
  | .io _, k, xs, X, pv, Wx, h, o, p, t => by simp [chkM] at h
  | .give _, k, xs, X, pv, Wx, h, o, p, t => by simp [chkM] at h
  | .pop _, k, xs, X, pv, Wx, h, o, p, t => by simp [chkM] at h
  | .popAt _ _, k, xs, X, pv, Wx, h, o, p, t => by simp [chkM] at h
  | .non, k, xs, X, pv, Wx, h, o, p, t => by simp [chkM] at h
  | .bl _, k, xs, X, pv, Wx, h, o, p, t => by simp [chkM] at h
  | .int _, k, xs, X, pv, Wx, h, o, p, t => by simp [chkM] at h
  | .str _, k, xs, X, pv, Wx, h, o, p, t => by simp [chkM] at h
  | .gi _ _, k, xs, X, pv, Wx, h, o, p, t => by simp [chkM] at h
  | .fnv _, k, xs, X, pv, Wx, h, o, p, t => by simp [chkM] at h
  | .lst _ _, k, xs, X, pv, Wx, h, o, p, t => by simp [chkM] at h
  | .tup _ _, k, xs, X, pv, Wx, h, o, p, t => by simp [chkM] at h
  | .dnew _, k, xs, X, pv, Wx, h, o, p, t => by simp [chkM] at h
  | .bin _ _ _, k, xs, X, pv, Wx, h, o, p, t => by simp [chkM] at h
  | .neg _, k, xs, X, pv, Wx, h, o, p, t => by simp [chkM] at h
  | .not _, k, xs, X, pv, Wx, h, o, p, t => by simp [chkM] at h
  | .and _ _, k, xs, X, pv, Wx, h, o, p, t => by simp [chkM] at h
  | .or _ _, k, xs, X, pv, Wx, h, o, p, t => by simp [chkM] at h
  | .cmp _ _ _, k, xs, X, pv, Wx, h, o, p, t => by simp [chkM] at h
  | .chain _ _ _ _ _, k, xs, X, pv, Wx, h, o, p, t => by simp [chkM] at h
  | .ite _ _ _, k, xs, X, pv, Wx, h, o, p, t => by simp [chkM] at h
  | .call _ _, k, xs, X, pv, Wx, h, o, p, t => by simp [chkM] at h
  | .callk _ _ _, k, xs, X, pv, Wx, h, o, p, t => by simp [chkM] at h
  | .bi _ _, k, xs, X, pv, Wx, h, o, p, t => by simp [chkM] at h
  | .isi _ _, k, xs, X, pv, Wx, h, o, p, t => by simp [chkM] at h
  | .isi2 _ _ _, k, xs, X, pv, Wx, h, o, p, t => by simp [chkM] at h
  | .ix _ _, k, xs, X, pv, Wx, h, o, p, t => by simp [chkM] at h
  | .slice _ _ _, k, xs, X, pv, Wx, h, o, p, t => by simp [chkM] at h
  | .pr1 _ _, k, xs, X, pv, Wx, h, o, p, t => by simp [chkM] at h
  | .pr2 _ _ _, k, xs, X, pv, Wx, h, o, p, t => by simp [chkM] at h
  | .none, k, xs, X, pv, Wx, h, o, p, t => by simp [chkM] at h
  | .rng1 _, k, xs, X, pv, Wx, h, o, p, t => by simp [chkM] at h
  | .rng2 _ _, k, xs, X, pv, Wx, h, o, p, t => by simp [chkM] at h
  | .enum _, k, xs, X, pv, Wx, h, o, p, t => by simp [chkM] at h
  | .zip _ _ _, k, xs, X, pv, Wx, h, o, p, t => by simp [chkM] at h
  | .comp _ _ _ _ _ _, k, xs, X, pv, Wx, h, o, p, t => by simp [chkM] at h
  | .comp2 _ _ _ _ _ _ _ _, k, xs, X, pv, Wx, h, o, p, t => by simp [chkM] at h
  | .bor _, k, xs, X, pv, Wx, h, o, p, t => by simp [chkM] at h
  | .isc _ _ _, k, xs, X, pv, Wx, h, o, p, t => by simp [chkM] at h
  | .lcp _, k, xs, X, pv, Wx, h, o, p, t => by simp [chkM] at h
  | .dlit _ _ _, k, xs, X, pv, Wx, h, o, p, t => by simp [chkM] at h
  | .isv _, k, xs, X, pv, Wx, h, o, p, t => by simp [chkM] at h
  | .xval _, k, xs, X, pv, Wx, h, o, p, t => by simp [chkM] at h
  | .callv _ _ _, k, xs, X, pv, Wx, h, o, p, t => by simp [chkM] at h
theorem chkD_ok : ∀ (e : E) {k : Ck} {ks : List Ky} {keys : List (Option Expr)} {vals : List Expr} {X : Cx} {pv : V} {Wx : WX}, chkD k e ks keys vals = true → Okc X C n k → Pg X C n cl → Takes X Wx → (∀ pos, PPs X pos keys vals (trsOf C pv Wx cl ks e)) ∧ e.alen = ks.length ∧ keys.length = vals.length ∧ keys.all (·.isSome) = true
  | .nil, k, ks, keys, vals, X, pv, Wx, h, o, p, t => by
    simp only [chkD] at h
    split at h
    · exact ⟨fun pos => pps_nil, rfl, rfl, rfl⟩
    · cases h
  | .cons e es, k, ks, keys, vals, X, pv, Wx, h, o, p, t => by
    simp only [chkD] at h
    split at h
    · simp only [Bool.and_eq_true] at h
      obtain ⟨⟨h1, h2⟩, h3⟩ := h
      obtain ⟨d1, d2, d3, d4⟩ := chkD_ok es h3 o p t (pv := pv) (Wx := Wx)
      exact ⟨fun pos => pps_cons (key_ok h1) (chkE_ok e h2 o p t).se.v (d1 pos), by simp [E.alen, d2], by simp [d3], by simpa using d4⟩
    · cases h
  | .sl _, k, ks, keys, vals, X, pv, Wx, h, o, p, t => by simp [chkD] at h
  | .mv _, k, ks, keys, vals, X, pv, Wx, h, o, p, t => by simp [chkD] at h
  | .io _, k, ks, keys, vals, X, pv, Wx, h, o, p, t => by simp [chkD] at h
  | .give _, k, ks, keys, vals, X, pv, Wx, h, o, p, t => by simp [chkD] at h
  | .pop _, k, ks, keys, vals, X, pv, Wx, h, o, p, t => by simp [chkD] at h
  | .popAt _ _, k, ks, keys, vals, X, pv, Wx, h, o, p, t => by simp [chkD] at h
  | .non, k, ks, keys, vals, X, pv, Wx, h, o, p, t => by simp [chkD] at h
  | .bl _, k, ks, keys, vals, X, pv, Wx, h, o, p, t => by simp [chkD] at h
  | .int _, k, ks, keys, vals, X, pv, Wx, h, o, p, t => by simp [chkD] at h
  | .str _, k, ks, keys, vals, X, pv, Wx, h, o, p, t => by simp [chkD] at h
  | .gi _ _, k, ks, keys, vals, X, pv, Wx, h, o, p, t => by simp [chkD] at h
  | .fnv _, k, ks, keys, vals, X, pv, Wx, h, o, p, t => by simp [chkD] at h
  | .lst _ _, k, ks, keys, vals, X, pv, Wx, h, o, p, t => by simp [chkD] at h
  | .tup _ _, k, ks, keys, vals, X, pv, Wx, h, o, p, t => by simp [chkD] at h
  | .dnew _, k, ks, keys, vals, X, pv, Wx, h, o, p, t => by simp [chkD] at h
  | .bin _ _ _, k, ks, keys, vals, X, pv, Wx, h, o, p, t => by simp [chkD] at h
  | .neg _, k, ks, keys, vals, X, pv, Wx, h, o, p, t => by simp [chkD] at h
  | .not _, k, ks, keys, vals, X, pv, Wx, h, o, p, t => by simp [chkD] at h
  | .and _ _, k, ks, keys, vals, X, pv, Wx, h, o, p, t => by simp [chkD] at h
  | .or _ _, k, ks, keys, vals, X, pv, Wx, h, o, p, t => by simp [chkD] at h
  | .cmp _ _ _, k, ks, keys, vals, X, pv, Wx, h, o, p, t => by simp [chkD] at h
  | .chain _ _ _ _ _, k, ks, keys, vals, X, pv, Wx, h, o, p, t => by simp [chkD] at h
  | .ite _ _ _, k, ks, keys, vals, X, pv, Wx, h, o, p, t => by simp [chkD] at h
  | .call _ _, k, ks, keys, vals, X, pv, Wx, h, o, p, t => by simp [chkD] at h
  | .callk _ _ _, k, ks, keys, vals, X, pv, Wx, h, o, p, t => by simp [chkD] at h
  | .bi _ _, k, ks, keys, vals, X, pv, Wx, h, o, p, t => by simp [chkD] at h
  | .isi _ _, k, ks, keys, vals, X, pv, Wx, h, o, p, t => by simp [chkD] at h
  | .isi2 _ _ _, k, ks, keys, vals, X, pv, Wx, h, o, p, t => by simp [chkD] at h
  | .ix _ _, k, ks, keys, vals, X, pv, Wx, h, o, p, t => by simp [chkD] at h
  | .slice _ _ _, k, ks, keys, vals, X, pv, Wx, h, o, p, t => by simp [chkD] at h
  | .pr1 _ _, k, ks, keys, vals, X, pv, Wx, h, o, p, t => by simp [chkD] at h
  | .pr2 _ _ _, k, ks, keys, vals, X, pv, Wx, h, o, p, t => by simp [chkD] at h
  | .none, k, ks, keys, vals, X, pv, Wx, h, o, p, t => by simp [chkD] at h
  | .rng1 _, k, ks, keys, vals, X, pv, Wx, h, o, p, t => by simp [chkD] at h
  | .rng2 _ _, k, ks, keys, vals, X, pv, Wx, h, o, p, t => by simp [chkD] at h
  | .enum _, k, ks, keys, vals, X, pv, Wx, h, o, p, t => by simp [chkD] at h
  | .zip _ _ _, k, ks, keys, vals, X, pv, Wx, h, o, p, t => by simp [chkD] at h
  | .comp _ _ _ _ _ _, k, ks, keys, vals, X, pv, Wx, h, o, p, t => by simp [chkD] at h
  | .comp2 _ _ _ _ _ _ _ _, k, ks, keys, vals, X, pv, Wx, h, o, p, t => by simp [chkD] at h
  | .bor _, k, ks, keys, vals, X, pv, Wx, h, o, p, t => by simp [chkD] at h
  | .isc _ _ _, k, ks, keys, vals, X, pv, Wx, h, o, p, t => by simp [chkD] at h
  | .lcp _, k, ks, keys, vals, X, pv, Wx, h, o, p, t => by simp [chkD] at h
  | .isv _, k, ks, keys, vals, X, pv, Wx, h, o, p, t => by simp [chkD] at h
  | .xval _, k, ks, keys, vals, X, pv, Wx, h, o, p, t => by simp [chkD] at h
  | .callv _ _ _, k, ks, keys, vals, X, pv, Wx, h, o, p, t => by simp [chkD] at h
  | .dlit _ _ _, k, ks, keys, vals, X, pv, Wx, h, o, p, t => by simp [chkD] at h
theorem chkA_ok : ∀ (e : E) {k : Ck} {xs : List Expr} {X : Cx} {pv : V} {Wx : WX}, chkA k e xs = true → Okc X C n k → Pg X C n cl → Takes X Wx → PA X xs (tAs C pv Wx cl e)
  | .nil, k, xs, X, pv, Wx, h, o, p, t => by
    simp only [chkA] at h
    split at h
    · exact sa_nil
    · cases h
  | .cons e es, k, xs, X, pv, Wx, h, o, p, t => by
    simp only [chkA] at h
    split at h
    · rename_i x xs
      simp only [Bool.and_eq_true, Bool.not_eq_true'] at h
      have r := chkA_ok es h.2 o p t (pv := pv)
      cases e with
      | io i =>
        cases x with
        | Name y yp =>
          obtain ⟨q1, q2, q3, q4⟩ := nm_ok o (show nmOk k i y = true by simpa only [chkE, isNm] using h.1.1)
          exact sa_io q1 q2 q3 q4 r (star_cons h.1.2)
        | _ => exact absurd h.1.1 (by simp [chkE, isNm])
      | give d => exact sa_gv (chkE_ok d (by simpa only [chkE] using h.1.1) o p t).se r (star_cons h.1.2)
      | nil => exact sa_cons rfl (chkE_ok _ h.1.1 o p t).se r (star_cons h.1.2)
      | cons _ _ => exact sa_cons rfl (chkE_ok _ h.1.1 o p t).se r (star_cons h.1.2)
      | sl _ => exact sa_cons rfl (chkE_ok _ h.1.1 o p t).se r (star_cons h.1.2)
      | mv _ => exact sa_cons rfl (chkE_ok _ h.1.1 o p t).se r (star_cons h.1.2)
      | popAt _ _ => exact sa_cons rfl (chkE_ok _ h.1.1 o p t).se r (star_cons h.1.2)
      | pop _ => exact sa_cons rfl (chkE_ok _ h.1.1 o p t).se r (star_cons h.1.2)
      | non => exact sa_cons rfl (chkE_ok _ h.1.1 o p t).se r (star_cons h.1.2)
      | bl _ => exact sa_cons rfl (chkE_ok _ h.1.1 o p t).se r (star_cons h.1.2)
      | int _ => exact sa_cons rfl (chkE_ok _ h.1.1 o p t).se r (star_cons h.1.2)
      | str _ => exact sa_cons rfl (chkE_ok _ h.1.1 o p t).se r (star_cons h.1.2)
      | gi _ _ => exact sa_cons rfl (chkE_ok _ h.1.1 o p t).se r (star_cons h.1.2)
      | fnv _ => exact sa_cons rfl (chkE_ok _ h.1.1 o p t).se r (star_cons h.1.2)
      | lst _ _ => exact sa_cons rfl (chkE_ok _ h.1.1 o p t).se r (star_cons h.1.2)
      | tup _ _ => exact sa_cons rfl (chkE_ok _ h.1.1 o p t).se r (star_cons h.1.2)
      | dnew _ => exact sa_cons rfl (chkE_ok _ h.1.1 o p t).se r (star_cons h.1.2)
      | bin _ _ _ => exact sa_cons rfl (chkE_ok _ h.1.1 o p t).se r (star_cons h.1.2)
      | neg _ => exact sa_cons rfl (chkE_ok _ h.1.1 o p t).se r (star_cons h.1.2)
      | not _ => exact sa_cons rfl (chkE_ok _ h.1.1 o p t).se r (star_cons h.1.2)
      | and _ _ => exact sa_cons rfl (chkE_ok _ h.1.1 o p t).se r (star_cons h.1.2)
      | or _ _ => exact sa_cons rfl (chkE_ok _ h.1.1 o p t).se r (star_cons h.1.2)
      | cmp _ _ _ => exact sa_cons rfl (chkE_ok _ h.1.1 o p t).se r (star_cons h.1.2)
      | chain _ _ _ _ _ => exact sa_cons rfl (chkE_ok _ h.1.1 o p t).se r (star_cons h.1.2)
      | ite _ _ _ => exact sa_cons rfl (chkE_ok _ h.1.1 o p t).se r (star_cons h.1.2)
      | call _ _ => exact sa_cons rfl (chkE_ok _ h.1.1 o p t).se r (star_cons h.1.2)
      | callk _ _ _ => exact sa_cons rfl (chkE_ok _ h.1.1 o p t).se r (star_cons h.1.2)
      | bi _ _ => exact sa_cons rfl (chkE_ok _ h.1.1 o p t).se r (star_cons h.1.2)
      | isi _ _ => exact sa_cons rfl (chkE_ok _ h.1.1 o p t).se r (star_cons h.1.2)
      | isi2 _ _ _ => exact sa_cons rfl (chkE_ok _ h.1.1 o p t).se r (star_cons h.1.2)
      | ix _ _ => exact sa_cons rfl (chkE_ok _ h.1.1 o p t).se r (star_cons h.1.2)
      | slice _ _ _ => exact sa_cons rfl (chkE_ok _ h.1.1 o p t).se r (star_cons h.1.2)
      | pr1 _ _ => exact sa_cons rfl (chkE_ok _ h.1.1 o p t).se r (star_cons h.1.2)
      | pr2 _ _ _ => exact sa_cons rfl (chkE_ok _ h.1.1 o p t).se r (star_cons h.1.2)
      | none => exact sa_cons rfl (chkE_ok _ h.1.1 o p t).se r (star_cons h.1.2)
      | rng1 _ => exact sa_cons rfl (chkE_ok _ h.1.1 o p t).se r (star_cons h.1.2)
      | rng2 _ _ => exact sa_cons rfl (chkE_ok _ h.1.1 o p t).se r (star_cons h.1.2)
      | enum _ => exact sa_cons rfl (chkE_ok _ h.1.1 o p t).se r (star_cons h.1.2)
      | zip _ _ _ => exact sa_cons rfl (chkE_ok _ h.1.1 o p t).se r (star_cons h.1.2)
      | comp _ _ _ _ _ _ => exact sa_cons rfl (chkE_ok _ h.1.1 o p t).se r (star_cons h.1.2)
      | comp2 _ _ _ _ _ _ _ _ => exact sa_cons rfl (chkE_ok _ h.1.1 o p t).se r (star_cons h.1.2)
      | bor _ => exact sa_cons rfl (chkE_ok _ h.1.1 o p t).se r (star_cons h.1.2)
      | isc _ _ _ => exact sa_cons rfl (chkE_ok _ h.1.1 o p t).se r (star_cons h.1.2)
      | lcp _ => exact sa_cons rfl (chkE_ok _ h.1.1 o p t).se r (star_cons h.1.2)
      | dlit _ _ _ => exact sa_cons rfl (chkE_ok _ h.1.1 o p t).se r (star_cons h.1.2)
      | isv _ => exact sa_cons rfl (chkE_ok _ h.1.1 o p t).se r (star_cons h.1.2)
      | xval _ => exact sa_cons rfl (chkE_ok _ h.1.1 o p t).se r (star_cons h.1.2)
      | callv _ _ _ => exact sa_cons rfl (chkE_ok _ h.1.1 o p t).se r (star_cons h.1.2)
    · cases h
  | .sl _, k, xs, X, pv, Wx, h, o, p, t => by simp [chkA] at h
  | .mv _, k, xs, X, pv, Wx, h, o, p, t => by simp [chkA] at h
  | .io _, k, xs, X, pv, Wx, h, o, p, t => by simp [chkA] at h
  | .give _, k, xs, X, pv, Wx, h, o, p, t => by simp [chkA] at h
  | .pop _, k, xs, X, pv, Wx, h, o, p, t => by simp [chkA] at h
  | .popAt _ _, k, xs, X, pv, Wx, h, o, p, t => by simp [chkA] at h
  | .non, k, xs, X, pv, Wx, h, o, p, t => by simp [chkA] at h
  | .bl _, k, xs, X, pv, Wx, h, o, p, t => by simp [chkA] at h
  | .int _, k, xs, X, pv, Wx, h, o, p, t => by simp [chkA] at h
  | .str _, k, xs, X, pv, Wx, h, o, p, t => by simp [chkA] at h
  | .gi _ _, k, xs, X, pv, Wx, h, o, p, t => by simp [chkA] at h
  | .fnv _, k, xs, X, pv, Wx, h, o, p, t => by simp [chkA] at h
  | .lst _ _, k, xs, X, pv, Wx, h, o, p, t => by simp [chkA] at h
  | .tup _ _, k, xs, X, pv, Wx, h, o, p, t => by simp [chkA] at h
  | .dnew _, k, xs, X, pv, Wx, h, o, p, t => by simp [chkA] at h
  | .bin _ _ _, k, xs, X, pv, Wx, h, o, p, t => by simp [chkA] at h
  | .neg _, k, xs, X, pv, Wx, h, o, p, t => by simp [chkA] at h
  | .not _, k, xs, X, pv, Wx, h, o, p, t => by simp [chkA] at h
  | .and _ _, k, xs, X, pv, Wx, h, o, p, t => by simp [chkA] at h
  | .or _ _, k, xs, X, pv, Wx, h, o, p, t => by simp [chkA] at h
  | .cmp _ _ _, k, xs, X, pv, Wx, h, o, p, t => by simp [chkA] at h
  | .chain _ _ _ _ _, k, xs, X, pv, Wx, h, o, p, t => by simp [chkA] at h
  | .ite _ _ _, k, xs, X, pv, Wx, h, o, p, t => by simp [chkA] at h
  | .call _ _, k, xs, X, pv, Wx, h, o, p, t => by simp [chkA] at h
  | .callk _ _ _, k, xs, X, pv, Wx, h, o, p, t => by simp [chkA] at h
  | .bi _ _, k, xs, X, pv, Wx, h, o, p, t => by simp [chkA] at h
  | .isi _ _, k, xs, X, pv, Wx, h, o, p, t => by simp [chkA] at h
  | .isi2 _ _ _, k, xs, X, pv, Wx, h, o, p, t => by simp [chkA] at h
  | .ix _ _, k, xs, X, pv, Wx, h, o, p, t => by simp [chkA] at h
  | .slice _ _ _, k, xs, X, pv, Wx, h, o, p, t => by simp [chkA] at h
  | .pr1 _ _, k, xs, X, pv, Wx, h, o, p, t => by simp [chkA] at h
  | .pr2 _ _ _, k, xs, X, pv, Wx, h, o, p, t => by simp [chkA] at h
  | .none, k, xs, X, pv, Wx, h, o, p, t => by simp [chkA] at h
  | .rng1 _, k, xs, X, pv, Wx, h, o, p, t => by simp [chkA] at h
  | .rng2 _ _, k, xs, X, pv, Wx, h, o, p, t => by simp [chkA] at h
  | .enum _, k, xs, X, pv, Wx, h, o, p, t => by simp [chkA] at h
  | .zip _ _ _, k, xs, X, pv, Wx, h, o, p, t => by simp [chkA] at h
  | .comp _ _ _ _ _ _, k, xs, X, pv, Wx, h, o, p, t => by simp [chkA] at h
  | .comp2 _ _ _ _ _ _ _ _, k, xs, X, pv, Wx, h, o, p, t => by simp [chkA] at h
  | .bor _, k, xs, X, pv, Wx, h, o, p, t => by simp [chkA] at h
  | .isc _ _ _, k, xs, X, pv, Wx, h, o, p, t => by simp [chkA] at h
  | .lcp _, k, xs, X, pv, Wx, h, o, p, t => by simp [chkA] at h
  | .dlit _ _ _, k, xs, X, pv, Wx, h, o, p, t => by simp [chkA] at h
  | .isv _, k, xs, X, pv, Wx, h, o, p, t => by simp [chkA] at h
  | .xval _, k, xs, X, pv, Wx, h, o, p, t => by simp [chkA] at h
  | .callv _ _ _, k, xs, X, pv, Wx, h, o, p, t => by simp [chkA] at h
theorem chkK_ok : ∀ (e : E) {k : Ck} {xs : List Keyword} {X : Cx} {pv : V} {Wx : WX}, chkK k e xs = true → Okc X C n k → Pg X C n cl → Takes X Wx → PK X xs (tAs C pv Wx cl e)
  | .nil, k, xs, X, pv, Wx, h, o, p, t => by
    simp only [chkK] at h
    split at h
    · exact sk_nil
    · cases h
  | .cons e es, k, xs, X, pv, Wx, h, o, p, t => by
    simp only [chkK] at h
    split at h
    · simp only [Bool.and_eq_true] at h
      exact sk_cons h.1.1 (chkE_ok e h.1.2 o p t).se (chkK_ok es h.2 o p t)
    · cases h
  | .sl _, k, xs, X, pv, Wx, h, o, p, t => by simp [chkK] at h
  | .mv _, k, xs, X, pv, Wx, h, o, p, t => by simp [chkK] at h
  | .io _, k, xs, X, pv, Wx, h, o, p, t => by simp [chkK] at h
  | .give _, k, xs, X, pv, Wx, h, o, p, t => by simp [chkK] at h
  | .pop _, k, xs, X, pv, Wx, h, o, p, t => by simp [chkK] at h
  | .popAt _ _, k, xs, X, pv, Wx, h, o, p, t => by simp [chkK] at h
  | .non, k, xs, X, pv, Wx, h, o, p, t => by simp [chkK] at h
  | .bl _, k, xs, X, pv, Wx, h, o, p, t => by simp [chkK] at h
  | .int _, k, xs, X, pv, Wx, h, o, p, t => by simp [chkK] at h
  | .str _, k, xs, X, pv, Wx, h, o, p, t => by simp [chkK] at h
  | .gi _ _, k, xs, X, pv, Wx, h, o, p, t => by simp [chkK] at h
  | .fnv _, k, xs, X, pv, Wx, h, o, p, t => by simp [chkK] at h
  | .lst _ _, k, xs, X, pv, Wx, h, o, p, t => by simp [chkK] at h
  | .tup _ _, k, xs, X, pv, Wx, h, o, p, t => by simp [chkK] at h
  | .dnew _, k, xs, X, pv, Wx, h, o, p, t => by simp [chkK] at h
  | .bin _ _ _, k, xs, X, pv, Wx, h, o, p, t => by simp [chkK] at h
  | .neg _, k, xs, X, pv, Wx, h, o, p, t => by simp [chkK] at h
  | .not _, k, xs, X, pv, Wx, h, o, p, t => by simp [chkK] at h
  | .and _ _, k, xs, X, pv, Wx, h, o, p, t => by simp [chkK] at h
  | .or _ _, k, xs, X, pv, Wx, h, o, p, t => by simp [chkK] at h
  | .cmp _ _ _, k, xs, X, pv, Wx, h, o, p, t => by simp [chkK] at h
  | .chain _ _ _ _ _, k, xs, X, pv, Wx, h, o, p, t => by simp [chkK] at h
  | .ite _ _ _, k, xs, X, pv, Wx, h, o, p, t => by simp [chkK] at h
  | .call _ _, k, xs, X, pv, Wx, h, o, p, t => by simp [chkK] at h
  | .callk _ _ _, k, xs, X, pv, Wx, h, o, p, t => by simp [chkK] at h
  | .bi _ _, k, xs, X, pv, Wx, h, o, p, t => by simp [chkK] at h
  | .isi _ _, k, xs, X, pv, Wx, h, o, p, t => by simp [chkK] at h
  | .isi2 _ _ _, k, xs, X, pv, Wx, h, o, p, t => by simp [chkK] at h
  | .ix _ _, k, xs, X, pv, Wx, h, o, p, t => by simp [chkK] at h
  | .slice _ _ _, k, xs, X, pv, Wx, h, o, p, t => by simp [chkK] at h
  | .pr1 _ _, k, xs, X, pv, Wx, h, o, p, t => by simp [chkK] at h
  | .pr2 _ _ _, k, xs, X, pv, Wx, h, o, p, t => by simp [chkK] at h
  | .none, k, xs, X, pv, Wx, h, o, p, t => by simp [chkK] at h
  | .rng1 _, k, xs, X, pv, Wx, h, o, p, t => by simp [chkK] at h
  | .rng2 _ _, k, xs, X, pv, Wx, h, o, p, t => by simp [chkK] at h
  | .enum _, k, xs, X, pv, Wx, h, o, p, t => by simp [chkK] at h
  | .zip _ _ _, k, xs, X, pv, Wx, h, o, p, t => by simp [chkK] at h
  | .comp _ _ _ _ _ _, k, xs, X, pv, Wx, h, o, p, t => by simp [chkK] at h
  | .comp2 _ _ _ _ _ _ _ _, k, xs, X, pv, Wx, h, o, p, t => by simp [chkK] at h
  | .bor _, k, xs, X, pv, Wx, h, o, p, t => by simp [chkK] at h
  | .isc _ _ _, k, xs, X, pv, Wx, h, o, p, t => by simp [chkK] at h
  | .lcp _, k, xs, X, pv, Wx, h, o, p, t => by simp [chkK] at h
  | .dlit _ _ _, k, xs, X, pv, Wx, h, o, p, t => by simp [chkK] at h
  | .isv _, k, xs, X, pv, Wx, h, o, p, t => by simp [chkK] at h
  | .xval _, k, xs, X, pv, Wx, h, o, p, t => by simp [chkK] at h
  | .callv _ _ _, k, xs, X, pv, Wx, h, o, p, t => by simp [chkK] at h
end
end
end PY
set_option Elab.async false
set_option linter.all false
set_option maxRecDepth 100000
set_option maxHeartbeats 4000000
/-! # PySound18: the check of statements -/
namespace PY
open PySem L2

def isTupE : Expr → Bool
  | .Tuple .. => true
  | _ => false
def lcOk (x : Str) (p : Pos) : Expr → Bool
  | .ListComp _ _ s q => p.line == q.line && !(s.names.any fun (n, k) => n == x && (k == .local || k == .cell))
  | _ => false
def E.isComp0 : E → Bool
  | .comp _ _ _ _ _ _ => true
  | .comp2 _ _ _ _ _ _ _ _ => true
  | _ => false
def E.isComp : E → Bool
  | .comp _ _ _ _ _ _ => true
  | .comp2 _ _ _ _ _ _ _ _ => true
  | .bor e => e.isComp0
  | _ => false
theorem isComp_borIf {e : E} (h : e.isComp = true) : ∃ b e', e = borIf b e' ∧ e'.isComp0 = true := by
  cases e <;> first | exact ⟨false, _, rfl, h⟩ | exact ⟨true, _, rfl, h⟩
/-- names that are set side by side -/
def sideOk (ts vs : List Expr) : Bool := !(vs.all (foldedForSure 8)) && !(vs.all (constantsAlone 8)) && (vs.all fun v => !isStar v) && (match ts with
  | [.Name x p, .Name y q] => decide (x ≠ y) && decide (p.line = q.line)
  | [.Name x p, .Name y q, .Name z r] => decide (x ≠ y) && decide (x ≠ z) && decide (y ≠ z) && decide (p.line = q.line) && decide (p.line = r.line)
  | _ => false)
/-- .. or not: one of them is captured, or there are many -/
def noSide (k : Ck) (ts : List Expr) : Expr → Bool
  | .Tuple vs _ _ => match ts with
    | [.Name x _, .Name y _] => decide (vs.length = 2) && (vs.all fun v => !isStar v) && (!(locOk k x) || !(locOk k y))
    | [.Name x _, .Name y _, .Name z _] => decide (vs.length = 3) && (vs.all fun v => !isStar v) && (!(locOk k x) || !(locOk k y) || !(locOk k z))
    | _ => false
  | _ => false
/-- a constant -/
def constE : E → Bool
  | .non => true | .bl _ => true | .int _ => true | .str _ => true
  | _ => false
theorem constE_ok {e : E} (h : constE e = true) {σ σ1 : Sig} {r : R} (q : ev cl e σ = .ok r σ1) : ∃ t, r = .val t := by
  cases e <;> simp [constE] at h <;> (simp only [ev] at q; cases q; exact ⟨_, rfl⟩)
mutual
def chkS (k : Ck) : S → Stmt → Bool
  | .pass, st => match st with | .Pass _ => true | .Expr (.Constant (.str _) _ _) _ => true | _ => false
  | .set i e, st => match st with
    | .Assign [.Name x p] ex _ => stOk k i x && chkE k e ex && (match isLc ex with | true => e.isComp && decide (k.sc.kind = .function) && (!locOk k x || lcOk x p ex) | false => true)
    | _ => false
  | .setT is e, st => match st with | .Assign [.Tuple es _ _] ex _ => namesAre k is es && chkE k e ex && !isLc ex && (!isTupE ex || noSide k es ex) | _ => false
  | .par is es, st => match st with | .Assign [.Tuple ts _ _] (.Tuple vs _ _) _ => namesAre k is ts && chkM k es vs && sideOk ts vs && (ts.all fun t => match t with | .Name x _ => locOk k x | _ => false) && decide (k.sc.kind = .function) && decide (vs.length = ts.length) | _ => false
  | .setIx i kk e, st => match st with | .Assign [.Subscript (.Name x _) ix _] ex _ => nmOk k i x && chkE k kk ix && chkE k e ex && !isLc ex && !isSl ix | _ => false
  | .setAt i pp kk e, st => match st with | .Assign [.Subscript (.Subscript (.Name x _) px _) ix _] ex _ => nmOk k i x && chkE k pp px && !isSl px && chkE k kk ix && chkE k e ex && !isLc ex && !isSl ix && constE e | _ => false
  | .augIx i kk _ e, st => match st with | .AugAssign (.Subscript (.Name x _) ix _) .Add ex _ => nmOk k i x && chkE k kk ix && chkE k e ex && !isSl ix | _ => false
  | .expr e, st => match st with | .Expr ex _ => chkE k e ex && !isLc ex | _ => false
  | .app i e, st => match st with
    | .Expr (.Call (.Attribute (.Name x _) a ap) [y] [] cp) _ => nmOk k i x && decide (a = "append") && chkE k e y && !isStar y && (ap.endLine == cp.line)
    | _ => false
  | .appAt i kk e, st => match st with
    | .Expr (.Call (.Attribute (.Subscript (.Name x _) ix _) a ap) [y] [] cp) _ => nmOk k i x && decide (a = "append") && chkE k kk ix && !isSl ix && chkE k e y && !isStar y && (ap.endLine == cp.line)
    | _ => false
  | .sdApp i kk e, st => match st with
    | .Expr (.Call (.Attribute (.Call (.Attribute (.Name x _) d dp) [ix, .List [] _] [] dq) a ap) [y] [] cp) _ => nmOk k i x && decide (d = "setdefault") && decide (a = "append") && chkE k kk ix && !isStar ix && (dp.endLine == dq.line) && chkE k e y && !isStar y && (ap.endLine == cp.line)
    | _ => false
  | .ret e, st => match st with | .Return (some ex) _ => chkE k e ex | _ => false
  | .retN, st => match st with | .Return none _ => true | _ => false
  | .iff c a b, st => match st with | .If x ys zs _ => chkE k c x && chkSs k a ys && chkSs k b zs | _ => false
  | .for tg it b, st => match st with | .For t iter ys [] _ => (!it.pairs || isTup t) && chkE k it iter && chkT k tg t && !isSet iter && chkSs k b ys | _ => false
  | .while c b, st => match st with | .While x ys [] _ => chkE k c x && chkSs k b ys | _ => false
  | .brk, st => match st with | .Break _ => true | _ => false
  | .cnt, st => match st with | .Continue _ => true | _ => false
  | .never, _ => true
  | .raise c e, st => match st with | .Raise (some (.Call (.Name x _) [y] [] _)) none _ => clOk k x c && !isStar y && chkE k e y | _ => false
  | .tryS b i j, st => match st with
    | .Try body [.ExceptHandler (some (.Name x _)) (some nn) [.Assign [.Name m _] (.Name n2 _) _] _] [] [] _ => glOk k x && decide (x ∈ k.base) && decide (n2 = nn) && decide (k.N[i]? = some nn) && locOk k nn && stOk k j m && decide (i ≠ j) && !(nn == ("__debug__" : Str)) && !(nn == ("__classdict__" : Str)) && chkSs k b body
    | _ => false
  | _, _ => false
def chkSs (k : Ck) : S → List Stmt → Bool
  | .nil, sts => match sts with | [] => true | _ => false
  | .seq a b, sts => match sts with | st :: rest => chkS k a st && chkSs k b rest | _ => false
  | _, _ => false
end

section
variable {X : Cx} {C : Pl} {pv : V} {Wx : WX} {cl : Nat → List W → Out R} {ex : Expr} {e : E} {n : Nat} {k : Ck}
theorem sw_no {x : Expr} (h : isLc x = false) (t : Option Expr) (l : Nat) (env : Env) : swapsWith x t l env = pure false := by
  cases x <;> first | rfl | (simp [isLc] at h; done)
theorem stores_no {es : List Expr} {kk : Nat} {p : Pos} {x : Expr} {env : Env} (h : isTupE x = false) : swappedStores [.Tuple es kk p] x env = pure none := by
  cases x <;> first | rfl | (simp [isTupE] at h; done)
theorem stores_sub {o i : Expr} {p : Pos} {x : Expr} {env : Env} : swappedStores [.Subscript o i p] x env = pure none := by
  cases x <;> rfl
theorem isStar_no : ∀ {a : Expr}, isStar a = false → ¬ (match a with | .Starred _ _ => true | _ => false) = true := by
  intro a
  cases a <;> first | (intro _ h; cases h; done) | (intro ha; simp [isStar] at ha; done)
theorem dups2 {x y : Str} (h : x ≠ y) : [x, y].eraseDups.length = 2 := by
  have e : (y == x) = false := beq_eq_false_iff_ne.mpr (Ne.symm h)
  simp [List.eraseDups, List.eraseDupsBy, List.eraseDupsBy.loop, e]
theorem dups3 {x y z : Str} (h : x ≠ y) (h2 : x ≠ z) (h3 : y ≠ z) : [x, y, z].eraseDups.length = 3 := by
  have e : (y == x) = false := beq_eq_false_iff_ne.mpr (Ne.symm h)
  have e2 : (z == x) = false := beq_eq_false_iff_ne.mpr (Ne.symm h2)
  have e3 : (z == y) = false := beq_eq_false_iff_ne.mpr (Ne.symm h3)
  simp [List.eraseDups, List.eraseDupsBy, List.eraseDupsBy.loop, e, e2, e3]
theorem sw_two {x y : Str} {px py pt : Pos} {kt k2 : Nat} {pt2 : Pos} {a b : Expr} {env : Env} (hk : env.scope.kind = .function) (hx : env.scope.names.lookup x = some .local) (hy : env.scope.names.lookup y = some .local) (hl : px.line = py.line) (hne : x ≠ y)
    (ha : isStar a = false) (hb : isStar b = false) (hf : [a, b].all (foldedForSure 8) = false) (hc : [a, b].all (constantsAlone 8) = false) : swappedStores [.Tuple [.Name x px, .Name y py] kt pt] (.Tuple [a, b] k2 pt2) env = pure (some [x, y]) := by
  have hbk : env.blockKind = .function := by unfold Env.blockKind; rw [hk]; rfl
  have kx : env.kindOf x = some .local := hx
  have ky : env.kindOf y = some .local := hy
  have hf' : ¬ (foldedForSure 8 a = true ∧ foldedForSure 8 b = true) := by simpa using hf
  have hc' : ¬ (constantsAlone 8 a = true ∧ constantsAlone 8 b = true) := by simpa using hc
  unfold swappedStores
  simp [hbk, kx, ky, hl, Expr.pos]
  rw [if_neg (fun h => h.elim (isStar_no ha) (isStar_no hb)), if_pos (dups2 hne), if_neg hf', if_neg hc']
theorem sw_three {x y z : Str} {px py pz pt : Pos} {kt k2 : Nat} {pt2 : Pos} {a b c : Expr} {env : Env} (hk : env.scope.kind = .function) (hx : env.scope.names.lookup x = some .local) (hy : env.scope.names.lookup y = some .local) (hz : env.scope.names.lookup z = some .local)
    (hl : px.line = py.line) (hl2 : px.line = pz.line) (h1 : x ≠ y) (h2 : x ≠ z) (h3 : y ≠ z) (ha : isStar a = false) (hb : isStar b = false) (hcs : isStar c = false) (hf : [a, b, c].all (foldedForSure 8) = false) (hc : [a, b, c].all (constantsAlone 8) = false) :
    swappedStores [.Tuple [.Name x px, .Name y py, .Name z pz] kt pt] (.Tuple [a, b, c] k2 pt2) env = pure (some [x, y, z]) := by
  have hbk : env.blockKind = .function := by unfold Env.blockKind; rw [hk]; rfl
  have kx : env.kindOf x = some .local := hx
  have ky : env.kindOf y = some .local := hy
  have kz : env.kindOf z = some .local := hz
  have hf' : ¬ (foldedForSure 8 a = true ∧ foldedForSure 8 b = true ∧ foldedForSure 8 c = true) := by simpa using hf
  have hc' : ¬ (constantsAlone 8 a = true ∧ constantsAlone 8 b = true ∧ constantsAlone 8 c = true) := by simpa using hc
  unfold swappedStores
  simp [hbk, kx, ky, kz, ← hl, ← hl2, Expr.pos]
  rw [if_neg (fun h => h.elim (isStar_no ha) fun h => h.elim (isStar_no hb) (isStar_no hcs)), if_pos (dups3 h1 h2 h3), if_neg hf', if_neg hc']
theorem aug_no {ix : Expr} (h : isSl ix = false) : ∀ ov iv new, augStore ix ov iv new = (do holding [new, ov, iv] (setItem ov iv new); release [new, ov, iv] []; pure .next) := by
  intro ov iv new
  cases ix <;> first | rfl | (simp [isSl] at h; done)
theorem as_sub {o ix : Expr} {p : Pos} {env : Env} (h : isSl ix = false) : ∀ v, assign (.Subscript o ix p) env v = (do
      let ov ← holding [v] (eval o env)
      let iv ← holding [v, ov] (eval ix env)
      standAt p
      holding [v, ov, iv] (setItem ov iv v)
      release [v, ov, iv] []) := by
  intro v
  cases ix <;> first | rfl | (simp [isSl] at h; done)
theorem sw_cell {x : Str} {p : Pos} {ex : Expr} {l : Nat} {env : Env} (h : ¬ env.scope.names.lookup x = some .local) : swapsWith ex (some (.Name x p)) l env = pure false := by
  have kx : (env.kindOf x == some .local) = false := beq_eq_false_iff_ne.mpr h
  cases ex <;> first | rfl | (unfold swapsWith; simp [kx])
theorem fm_len {α β : Type} {f : α → Option β} : ∀ {l : List α}, (l.filterMap f).length = l.length → ∀ a ∈ l, f a ≠ none
  | [], _, a, h => by cases h
  | b :: l, e, a, h => by
    have le : (l.filterMap f).length ≤ l.length := List.length_filterMap_le f l
    rw [List.filterMap_cons] at e
    cases hb : f b with
    | none => rw [hb] at e; simp only [List.length_cons] at e; omega
    | some c =>
      rw [hb] at e
      rcases List.mem_cons.mp h with rfl | h
      · rw [hb]; exact fun q => by cases q
      · exact fm_len (by simpa using e) a h
theorem stores_cell {ts : List Expr} {kt : Nat} {pt : Pos} {ex : Expr} (o : Okc X C n k) (h : noSide k ts ex = true) : swappedStores [.Tuple ts kt pt] ex X.env = pure none := by
  unfold noSide at h
  split at h
  · rename_i vs k2 pt2
    split at h
    · rename_i x px y py
      simp only [Bool.and_eq_true, Bool.or_eq_true, Bool.not_eq_true', decide_eq_true_eq] at h
      obtain ⟨⟨h1, _⟩, h3⟩ := h
      have st : ∀ {z : Str}, locOk k z = false → (X.env.kindOf z == some .local) = false := fun {z} hz => beq_eq_false_iff_ne.mpr (by
        show X.env.scope.names.lookup z ≠ _
        rw [o.sc]
        simpa [locOk] using hz)
      match vs, h1 with
      | [a, b], _ =>
        unfold swappedStores
        simp
        intro _ _ _ hlen
        exfalso
        rcases h3 with q | q
        · exact fm_len (l := [Expr.Name x px, Expr.Name y py]) hlen (.Name x px) (by simp) (by simp [beq_eq_false_iff_ne.mp (st q)])
        · exact fm_len (l := [Expr.Name x px, Expr.Name y py]) hlen (.Name y py) (by simp) (by simp [beq_eq_false_iff_ne.mp (st q)])
    · rename_i x px y py z pz
      simp only [Bool.and_eq_true, Bool.or_eq_true, Bool.not_eq_true', decide_eq_true_eq] at h
      obtain ⟨⟨h1, _⟩, h3⟩ := h
      have st : ∀ {z : Str}, locOk k z = false → (X.env.kindOf z == some .local) = false := fun {z} hz => beq_eq_false_iff_ne.mpr (by
        show X.env.scope.names.lookup z ≠ _
        rw [o.sc]
        simpa [locOk] using hz)
      match vs, h1 with
      | [a, b, c], _ =>
        unfold swappedStores
        simp
        intro _ _ _ _ hlen
        exfalso
        rcases h3 with (q | q) | q
        · exact fm_len (l := [Expr.Name x px, Expr.Name y py, Expr.Name z pz]) hlen (.Name x px) (by simp) (by simp [beq_eq_false_iff_ne.mp (st q)])
        · exact fm_len (l := [Expr.Name x px, Expr.Name y py, Expr.Name z pz]) hlen (.Name y py) (by simp) (by simp [beq_eq_false_iff_ne.mp (st q)])
        · exact fm_len (l := [Expr.Name x px, Expr.Name y py, Expr.Name z pz]) hlen (.Name z pz) (by simp) (by simp [beq_eq_false_iff_ne.mp (st q)])
    · cases h
  · cases h
theorem sole_no {t x : Expr} {l : Nat} {env : Env} (h : isLc x = false) : swapsWithSole [t] x l env = pure false := sw_no h _ _ _
theorem names_len : ∀ {is : List Nat} {es : List Expr}, namesAre k is es = true → is.length = es.length
  | [], [], _ => rfl
  | i :: is, .Name x p :: es, h => by
    simp only [namesAre, Bool.and_eq_true] at h
    exact congrArg (· + 1) (names_len h.2)
theorem sole (t x : Expr) (l : Nat) (env : Env) : swapsWithSole [t] x l env = swapsWith x (some t) l env := rfl
theorem names_tgn (o : Okc X C n k) : ∀ {is : List Nat} {es : List Expr}, namesAre k is es = true → PGs X es (tGn is) ∧ (assignEach es X.env).length = is.length ∧ (assignEach es X.env).findIdx? (·.1) = none
  | [], [], _ => ⟨sgn_nil, rfl, rfl⟩
  | i :: is, .Name x p :: es, h => by
    simp only [namesAre, Bool.and_eq_true] at h
    obtain ⟨h1, h2, h3⟩ := st_ok o h.1
    obtain ⟨q1, q2, q3⟩ := names_tgn o h.2
    refine ⟨sgn_cons o.g.nd h1 h2 h3 q1 assign_cons, ?_, ?_⟩
    · show (assignEach es X.env).length + 1 = is.length + 1
      rw [q2]
    · show List.findIdx? (·.1) ((false, assign (.Name x p) X.env) :: assignEach es X.env) = none
      rw [List.findIdx?_cons, q3]
      rfl
theorem N_ne {i j : Nat} {x y : Str} (hi : X.N[i]? = some x) (hj : X.N[j]? = some y) (h : x ≠ y) : i ≠ j := fun q => by
  rw [q, hj] at hi
  exact h (Option.some.inj hi).symm
theorem par_ok (o : Okc X C n k) {is : List Nat} {es : E} {ts vs : List Expr} {kt k2 : Nat} {pt pt2 pos : Pos} (h1 : namesAre k is ts = true) (hM : PA X vs (tM C pv Wx cl es)) (h3 : sideOk ts vs = true) (hL : (ts.all fun t => match t with | .Name x _ => locOk k x | _ => false) = true) (h4 : k.sc.kind = .function) (h5 : vs.length = ts.length) :
    PS X (.Assign [.Tuple ts kt pt] (.Tuple vs k2 pt2) pos) (tS C pv Wx cl (.par is es)) := by
  have hk : X.env.scope.kind = .function := by rw [o.sc]; exact h4
  unfold sideOk at h3
  simp only [Bool.and_eq_true, Bool.not_eq_true', List.all_eq_true] at h3
  obtain ⟨⟨⟨hf, hc⟩, hst⟩, h3⟩ := h3
  split at h3
  · rename_i x px y py
    simp only [Bool.and_eq_true, decide_eq_true_eq] at h3
    match vs, h5, is, h1, names_len h1 with
    | [a, b], _, [i, j], h1, _ =>
      simp only [namesAre, Bool.and_eq_true] at h1
      simp only [List.all_cons, List.all_nil, Bool.and_true, Bool.and_eq_true] at hL
      obtain ⟨i1, _⟩ := st_ok o h1.1
      obtain ⟨j1, _⟩ := st_ok o h1.2.1
      have i2 := loc_ok o hL.1
      have j2 := loc_ok o hL.2
      have sa := hst a (by simp)
      have sb := hst b (by simp)
      exact ss_par2 o.g i1 j1 (N_ne i1 j1 h3.1) i2 j2 hM (sw_two hk i2 j2 h3.2 h3.1 (by simpa using sa) (by simpa using sb) hf hc) (sole_no rfl)
  · rename_i x px y py z pz
    simp only [Bool.and_eq_true, decide_eq_true_eq] at h3
    obtain ⟨⟨⟨⟨n1, n2⟩, n3⟩, l1⟩, l2⟩ := h3
    match vs, h5, is, h1, names_len h1 with
    | [a, b, c], _, [i, j, l], h1, _ =>
      simp only [namesAre, Bool.and_eq_true] at h1
      simp only [List.all_cons, List.all_nil, Bool.and_true, Bool.and_eq_true] at hL
      obtain ⟨i1, _⟩ := st_ok o h1.1
      obtain ⟨j1, _⟩ := st_ok o h1.2.1
      obtain ⟨l3, _⟩ := st_ok o h1.2.2.1
      have i2 := loc_ok o hL.1
      have j2 := loc_ok o hL.2.1
      have l4 := loc_ok o hL.2.2
      have sa := hst a (by simp)
      have sb := hst b (by simp)
      have sc := hst c (by simp)
      refine ss_par3 o.g i1 j1 l3 (N_ne i1 j1 n1) (N_ne i1 l3 n2) (N_ne j1 l3 n3) i2 j2 l4 hM ?_
      exact ps_par3 o.g.calm o.g.nd i1 j1 l3 (N_ne i1 j1 n1) (N_ne i1 l3 n2) (N_ne j1 l3 n3) i2 j2 l4 hM (sw_three hk i2 j2 l4 l1 l2 n1 n2 n3 (by simpa using sa) (by simpa using sb) (by simpa using sc) hf hc) (sole_no rfl)
  · cases h3
theorem lc_true {x : Str} {p : Pos} {ex : Expr} {env : Env} {l : Nat} (hk : env.scope.kind = .function) (hx : env.scope.names.lookup x = some .local) (h : lcOk x p ex = true) : swapsWith ex (some (.Name x p)) l env = pure true := by
  cases ex with
  | ListComp elt gs s q =>
    simp only [lcOk, Bool.and_eq_true, Bool.not_eq_true'] at h
    exact sw_true hk hx h.1 h.2
  | _ => simp [lcOk] at h
/-- a name set by a comprehension on one line -/
theorem lc_ok0 {bo : Bool} {i : Nat} {x : Str} {px pos : Pos} (o : Okc X C n k) (p : Pg X C n cl) (t : Takes X Wx) (hi : X.N[i]? = some x) (hx : X.env.scope.names.lookup x = some .local) (hk : X.env.scope.kind = .function) (hl : lcOk x px ex = true) (h : chkE k e ex = true) (hc : e.isComp0 = true) :
    PS X (.Assign [.Name x px] ex pos) (tS C pv Wx cl (.set i (borIf bo e))) := by
  have hsw := lc_true (l := pos.line) hk hx hl
  cases e with
  | comp own vs tg it c e =>
    simp only [chkE] at h
    split at h
    · simp only [Bool.and_eq_true, Bool.or_eq_true, Bool.not_eq_true', decide_eq_true_eq, List.all_eq_true] at h
      obtain ⟨⟨⟨⟨⟨⟨⟨⟨h0, h1⟩, h2⟩, h3⟩, h4⟩, h5⟩, h6⟩, h7⟩, h8⟩ := h
      have q := ss_setLc (bo := bo) (pv := pv) (Wx := Wx) (cl := cl) (own := own) (vs := ownOf k vs) o.g (by rw [h2]; exact h4) hi hx hsw ((chkE_ok it h1 o p t).it _ fun q => by rw [q] at h0; simpa using h0) (by rw [o.N, o.sc]; exact blkOk_by h3)
        (fun s H L cc fp => chkT_ok (o.blk s H _ cc L fp) h5) (fun s H L cc fp => ifs_ok h6 fun x hx => (chkE_ok c hx (o.blk s H _ cc L fp) (p.blk s H _ cc L fp) takes0).se) (fun s H L cc fp => (chkE_ok e h7 (o.blk s H _ cc L fp) (p.blk s H _ cc L fp) takes0).se) (set_no h8)
      rw [h2] at q
      exact q
    · cases h
  | comp2 own vs vs1 tg it tg1 it1 e =>
    simp only [chkE] at h
    split at h
    · simp only [Bool.and_eq_true, Bool.or_eq_true, Bool.not_eq_true', decide_eq_true_eq, List.all_eq_true] at h
      obtain ⟨⟨⟨⟨⟨⟨⟨⟨⟨⟨⟨⟨⟨h0, h1⟩, h2⟩, h3⟩, h4⟩, h5⟩, h6⟩, h7⟩, h8⟩, h9⟩, h10⟩, h11⟩, h12⟩, h13⟩ := h
      have q := ss_setLc2 (bo := bo) (pv := pv) (Wx := Wx) (cl := cl) (own := own) (vs := ownOf k vs) (vs1 := vs1) o.g (by rw [h2]; exact h4) h5 (by rw [h2]; exact h6) hi hx hsw ((chkE_ok it h1 o p t).it _ fun q => by rw [q] at h0; simpa using h0) (by rw [o.N, o.sc]; exact blkOk_by h3)
        (fun s H L cc fp => chkT_ok (o.blk s H _ cc L fp) h7) (fun s H L cc fp => (chkE_ok it1 h9 (o.blk s H _ cc L fp) (p.blk s H _ cc L fp) takes0).it _ fun q => by rw [q] at h8; simpa using h8) (fun s H L cc fp => chkT_ok (o.blk s H _ cc L fp) h10)
        (fun s H L cc fp => (chkE_ok e h11 (o.blk s H _ cc L fp) (p.blk s H _ cc L fp) takes0).se) (set_no h12) (fun env x => set_no h13 x)
      rw [h2] at q
      exact q
    · cases h
  | _ => cases hc
theorem lc_ok {i : Nat} {x : Str} {px pos : Pos} (o : Okc X C n k) (p : Pg X C n cl) (t : Takes X Wx) (hi : X.N[i]? = some x) (hx : X.env.scope.names.lookup x = some .local) (hk : X.env.scope.kind = .function) (hl : lcOk x px ex = true) (h : chkE k e ex = true) (hc : e.isComp = true) :
    PS X (.Assign [.Name x px] ex pos) (tS C pv Wx cl (.set i e)) := by
  obtain ⟨b, e', rfl, hc'⟩ := isComp_borIf hc
  exact lc_ok0 o p t hi hx hk hl (by cases b <;> simpa [borIf, chkE] using h) hc'

/-- a def's own body runs -/
def InDef (X : Cx) : Prop := X.stack = X.env :: X.outer ∧ X.env.frame = some X.env.locals ∧ X.ex = []
mutual
theorem chkS_ok : ∀ (b : S) {X : Cx} {Wx : WX} {st : Stmt}, InDef X → PassesOwn (model X.prog X.w) X.A X.env X.xe → Okc X C n k → Pg X C n cl → Takes X Wx → chkS k b st = true → PS X st (tS C pv Wx cl b)
  | .pass, X, Wx, st, dx, hp, o, p, t, h => by
    simp only [chkS] at h
    split at h
    · exact ss_pass
    · exact ss_doc
    · cases h
  | .set i e, X, Wx, st, dx, hp, o, p, t, h => by
    simp only [chkS] at h
    split at h
    · rename_i xn xp xe xq
      simp only [Bool.and_eq_true] at h
      obtain ⟨⟨h1, h2⟩, h3⟩ := h
      obtain ⟨i1, i2, i3⟩ := st_ok o h1
      split at h3
      · simp only [Bool.and_eq_true, Bool.or_eq_true, Bool.not_eq_true', decide_eq_true_eq] at h3
        rcases h3.2 with hl | hl
        · exact ss_set o.g.nd i1 i2 (chkE_ok e h2 o p t).se (sw_cell (by rw [o.sc]; simpa [locOk] using hl)) i3
        · by_cases hloc : locOk k xn = true
          · exact lc_ok o p t i1 (loc_ok o hloc) (by rw [o.sc]; exact h3.1.2) hl h2 h3.1.1
          · exact ss_set o.g.nd i1 i2 (chkE_ok e h2 o p t).se (sw_cell (by rw [o.sc]; simpa [locOk] using hloc)) i3
      · rename_i hlc
        exact ss_set o.g.nd i1 i2 (chkE_ok e h2 o p t).se (sw_no hlc _ _ _) i3
    · cases h
  | .setT is e, X, Wx, st, dx, hp, o, p, t, h => by
    simp only [chkS] at h
    split at h
    · simp only [Bool.and_eq_true, Bool.not_eq_true'] at h
      obtain ⟨⟨⟨h1, h2⟩, h3⟩, h4⟩ := h
      obtain ⟨q1, q2, q3⟩ := names_tgn o h1
      refine ss_setT o.g (chkE_ok e h2 o p t).se q1 q2 q3 (sole_no h3) ?_ rfl
      simp only [Bool.or_eq_true, Bool.not_eq_true'] at h4
      rcases h4 with h4 | h4
      · exact stores_no h4
      · exact stores_cell o h4
    · cases h
  | .par is es, X, Wx, st, dx, hp, o, p, t, h => by
    simp only [chkS] at h
    split at h
    · simp only [Bool.and_eq_true, decide_eq_true_eq] at h
      obtain ⟨⟨⟨⟨⟨h1, h2⟩, h3⟩, hL⟩, h4⟩, h5⟩ := h
      exact par_ok o h1 (chkM_ok es h2 o p t) h3 hL h4 h5
    · cases h
  | .setIx i kk e, X, Wx, st, dx, hp, o, p, t, h => by
    simp only [chkS] at h
    split at h
    · simp only [Bool.and_eq_true, Bool.not_eq_true'] at h
      obtain ⟨⟨⟨⟨h1, h2⟩, h3⟩, h4⟩, h5⟩ := h
      obtain ⟨q1, q2, q3, q4⟩ := nm_ok o h1
      exact ss_setIx o.g q1 q2 q3 q4 (chkE_ok kk h2 o p t).se (chkE_ok e h3 o p t).se (as_sub h5) (sole_no h4) stores_sub rfl
    · cases h
  | .expr e, X, Wx, st, dx, hp, o, p, t, h => by
    simp only [chkS] at h
    split at h
    · simp only [Bool.and_eq_true, Bool.not_eq_true'] at h
      exact ss_expr (chkE_ok e h.1 o p t).se (sw_no h.2 _ _ _)
    · cases h
  | .app i e, X, Wx, st, dx, hp, o, p, t, h => by
    simp only [chkS] at h
    split at h
    · simp only [Bool.and_eq_true, decide_eq_true_eq, Bool.not_eq_true'] at h
      obtain ⟨⟨⟨⟨h1, rfl⟩, h3⟩, h4⟩, h5⟩ := h
      obtain ⟨q1, q2, q3, q4⟩ := nm_ok o h1
      have sc := star_cons (xs := []) (env := X.env) h4
      refine ss_app q1 q2 q3 q4 (chkE_ok e h3 o p t).se rfl ?_ h5 sc rfl (sw_no rfl _ _ _)
      rw [sc]
      rfl
    · cases h
  | .ret e, X, Wx, st, dx, hp, o, p, t, h => by
    simp only [chkS] at h
    split at h
    · exact ss_ret (chkE_ok e h o p t).se
    · cases h
  | .retN, X, Wx, st, dx, hp, o, p, t, h => by
    simp only [chkS] at h
    split at h
    · exact ss_retN
    · cases h
  | .iff c a b, X, Wx, st, dx, hp, o, p, t, h => by
    simp only [chkS] at h
    split at h
    · simp only [Bool.and_eq_true] at h
      exact ss_if (chkE_ok c h.1.1 o p t).se (chkSs_ok a dx hp o p t h.1.2) (chkSs_ok b dx hp o p t h.2)
    · cases h
  | .for tg it b, X, Wx, st, dx, hp, o, p, t, h => by
    simp only [chkS] at h
    split at h
    · simp only [Bool.and_eq_true, Bool.or_eq_true, Bool.not_eq_true'] at h
      obtain ⟨⟨⟨⟨h0, h1⟩, h2⟩, h3⟩, h4⟩ := h
      exact ss_for o.g hp ((chkE_ok it h1 o p t).it _ fun q => by rw [q] at h0; simpa using h0) (chkT_ok o h2) (chkSs_ok b dx hp o p t h4) (set_no h3)
    · cases h
  | .while c b, X, Wx, st, dx, hp, o, p, t, h => by
    simp only [chkS] at h
    split at h
    · simp only [Bool.and_eq_true] at h
      exact ss_while hp (chkE_ok c h.1 o p t).se (chkSs_ok b dx hp o p t h.2)
    · cases h
  | .brk, X, Wx, st, dx, hp, o, p, t, h => by
    simp only [chkS] at h
    split at h
    · exact ss_brk
    · cases h
  | .cnt, X, Wx, st, dx, hp, o, p, t, h => by
    simp only [chkS] at h
    split at h
    · exact ss_cnt
    · cases h
  | .never, X, Wx, st, dx, hp, o, p, t, h => ss_never
  | .nil, X, Wx, st, dx, hp, o, p, t, h => by simp [chkS] at h
  | .seq _ _, X, Wx, st, dx, hp, o, p, t, h => by simp [chkS] at h
  | .setAt i pp kk e, X, Wx, st, dx, hp, o, p, t, h => by
    simp only [chkS] at h
    split at h
    · simp only [Bool.and_eq_true, Bool.not_eq_true'] at h
      obtain ⟨⟨⟨⟨⟨⟨⟨h1, h2⟩, h3⟩, h4⟩, h5⟩, h6⟩, h7⟩, h8⟩ := h
      obtain ⟨q1, q2, q3, q4⟩ := nm_ok o h1
      exact ss_setAt o.g q1 q2 q3 q4 (chkE_ok pp h2 o p t).se h3 (chkE_ok kk h4 o p t).se (chkE_ok e h5 o p t).se (fun q => constE_ok h8 q) (as_sub h7) (sole_no h6) stores_sub rfl
    · cases h
  | .augIx i kk op e, X, Wx, st, dx, hp, o, p, t, h => by
    simp only [chkS] at h
    split at h
    · simp only [Bool.and_eq_true, Bool.not_eq_true'] at h
      obtain ⟨⟨⟨h1, h2⟩, h3⟩, h4⟩ := h
      obtain ⟨q1, q2, q3, q4⟩ := nm_ok o h1
      exact ss_augIx o.g q1 q2 q3 q4 (chkE_ok kk h2 o p t).se (chkE_ok e h3 o p t).se (aug_no h4)
    · cases h
  | .appAt i kk e, X, Wx, st, dx, hp, o, p, t, h => by
    simp only [chkS] at h
    split at h
    · simp only [Bool.and_eq_true, decide_eq_true_eq, Bool.not_eq_true'] at h
      obtain ⟨⟨⟨⟨⟨⟨h1, rfl⟩, h2⟩, h6⟩, h3⟩, h4⟩, h5⟩ := h
      obtain ⟨q1, q2, q3, q4⟩ := nm_ok o h1
      have sc := star_cons (xs := []) (env := X.env) h4
      refine ss_appAt o.g q1 q2 q3 q4 (chkE_ok kk h2 o p t).se h6 (chkE_ok e h3 o p t).se rfl ?_ h5 sc rfl (sw_no rfl _ _ _)
      rw [sc]
      rfl
    · cases h
  | .sdApp i kk e, X, Wx, st, dx, hp, o, p, t, h => by
    simp only [chkS] at h
    split at h
    · simp only [Bool.and_eq_true, decide_eq_true_eq, Bool.not_eq_true'] at h
      obtain ⟨⟨⟨⟨⟨⟨⟨⟨h1, rfl⟩, rfl⟩, h2⟩, h6⟩, h7⟩, h3⟩, h4⟩, h5⟩ := h
      obtain ⟨q1, q2, q3, q4⟩ := nm_ok o h1
      have sc := star_cons (xs := []) (env := X.env) h4
      refine ss_sdApp o.g q1 q2 q3 q4 (chkE_ok kk h2 o p t).se (chkE_ok e h3 o p t).se ⟨rfl, ?_, h7, ?_⟩ rfl ?_ h5 sc rfl (sw_no rfl _ _ _)
      · rw [star_cons h6]; rfl
      · rw [star_cons h6]; rfl
      · rw [sc]; rfl
    · cases h
  | .raise c e, X, Wx, st, dx, hp, o, p, t, h => by
    simp only [chkS] at h
    split at h
    · simp only [Bool.and_eq_true, Bool.not_eq_true'] at h
      obtain ⟨⟨h1, h2⟩, h3⟩ := h
      obtain ⟨g1, g2, g3, D, fI, fdI, co⟩ := cl_ok o h1
      exact ss_raise (o.g.room.mono o.two) o.g.calm t co g1 g3 g2 (chkE_ok e h3 o p t).se.v (star_cons h2)
    · cases h
  | .tryS b i j, X, Wx, st, dx, hp, o, p, t, h => by
    simp only [chkS] at h
    split at h
    · simp only [Bool.and_eq_true, decide_eq_true_eq, Bool.not_eq_true'] at h
      obtain ⟨⟨⟨⟨⟨⟨⟨⟨⟨h1, h2⟩, rfl⟩, h4⟩, h5⟩, h6⟩, h7⟩, h8⟩, h9⟩, h10⟩ := h
      obtain ⟨g1, g2⟩ := gl_ok o h1
      obtain ⟨i1, i2, i3⟩ := st_ok o h6
      obtain ⟨v, hm, hx⟩ := o.base _ h2
      exact ss_try dx.1 dx.2.1 dx.2.2 o.g.nd (by rw [o.N]; exact h4) i1 h7 (loc_ok o h5) i2 i3 ⟨g1, g2, .inl hm⟩ h8 h9 hx fun W pn xe tk hpx => chkSs_ok b (X := X.tr pn xe) dx hpx ⟨⟨o.g.hK, o.g.calm, o.g.nd, o.g.sm, o.g.gs, o.g.room⟩, o.N, o.sc, o.fn, o.blt, o.gis, o.fns, o.defs, o.kws, o.cls, o.exk, o.cns, o.base, o.two⟩ ⟨p.fn, p.kw⟩ tk h10
    · cases h
theorem chkSs_ok : ∀ (b : S) {X : Cx} {Wx : WX} {sts : List Stmt}, InDef X → PassesOwn (model X.prog X.w) X.A X.env X.xe → Okc X C n k → Pg X C n cl → Takes X Wx → chkSs k b sts = true → PSs X sts (tS C pv Wx cl b)
  | .nil, X, Wx, sts, dx, hp, o, p, t, h => by
    simp only [chkSs] at h
    split at h
    · exact ss_nil
    · cases h
  | .seq a b, X, Wx, sts, dx, hp, o, p, t, h => by
    simp only [chkSs] at h
    split at h
    · simp only [Bool.and_eq_true] at h
      exact ss_cons (chkS_ok a dx hp o p t h.1) (chkSs_ok b dx hp o p t h.2)
    · cases h
  | .pass, X, Wx, sts, dx, hp, o, p, t, h => by simp [chkSs] at h
  | .set _ _, X, Wx, sts, dx, hp, o, p, t, h => by simp [chkSs] at h
  | .setT _ _, X, Wx, sts, dx, hp, o, p, t, h => by simp [chkSs] at h
  | .par _ _, X, Wx, sts, dx, hp, o, p, t, h => by simp [chkSs] at h
  | .setIx _ _ _, X, Wx, sts, dx, hp, o, p, t, h => by simp [chkSs] at h
  | .setAt _ _ _ _, X, Wx, sts, dx, hp, o, p, t, h => by simp [chkSs] at h
  | .augIx _ _ _ _, X, Wx, sts, dx, hp, o, p, t, h => by simp [chkSs] at h
  | .expr _, X, Wx, sts, dx, hp, o, p, t, h => by simp [chkSs] at h
  | .app _ _, X, Wx, sts, dx, hp, o, p, t, h => by simp [chkSs] at h
  | .appAt _ _ _, X, Wx, sts, dx, hp, o, p, t, h => by simp [chkSs] at h
  | .sdApp _ _ _, X, Wx, sts, dx, hp, o, p, t, h => by simp [chkSs] at h
  | .ret _, X, Wx, sts, dx, hp, o, p, t, h => by simp [chkSs] at h
  | .retN, X, Wx, sts, dx, hp, o, p, t, h => by simp [chkSs] at h
  | .iff _ _ _, X, Wx, sts, dx, hp, o, p, t, h => by simp [chkSs] at h
  | .for _ _ _, X, Wx, sts, dx, hp, o, p, t, h => by simp [chkSs] at h
  | .while _ _, X, Wx, sts, dx, hp, o, p, t, h => by simp [chkSs] at h
  | .brk, X, Wx, sts, dx, hp, o, p, t, h => by simp [chkSs] at h
  | .cnt, X, Wx, sts, dx, hp, o, p, t, h => by simp [chkSs] at h
  | .never, X, Wx, sts, dx, hp, o, p, t, h => by simp [chkSs] at h
  | .raise _ _, X, Wx, sts, dx, hp, o, p, t, h => by simp [chkSs] at h
  | .tryS _ _ _, X, Wx, sts, dx, hp, o, p, t, h => by simp [chkSs] at h
end
end
end PY
set_option Elab.async false
set_option linter.all false
set_option maxRecDepth 100000
set_option maxHeartbeats 1000000
/-! # PySound19: all defs of a program keep their promises -/
namespace PY
open PySem PySem.Spec PyProof.Rows L2

/-- the names of a def: its parameters first, none of them captured from outside -/
def scOk (N ps : List Str) (sc : Scope) : Bool :=
  decide (sc.kind = .function ∧ N.Nodup ∧ N.take ps.length = ps) && !(sc.isCoroutine || sc.isGenerator) && (ps.all fun x => match sc.names.lookup x with
    | some .local => true
    | some .cell => true
    | _ => false) && (sc.names.all fun y => match y.2 with
    | .free => false
    | _ => true)
theorem scOk_ok {N ps : List Str} {sc : Scope} (h : scOk N ps sc = true) : FnScope N ps sc := by
  unfold scOk at h
  simp only [Bool.and_eq_true, decide_eq_true_eq, Bool.not_eq_true', Bool.or_eq_false_iff, List.all_eq_true] at h
  obtain ⟨⟨⟨⟨k1, k2, k3⟩, k4, k5⟩, k6⟩, k7⟩ := h
  refine ⟨k1, k4, k5, k2, k3, fun x hx => ?_, fun y hy e => ?_⟩
  · have q := k6 x hx
    split at q
    · exact .inl (by assumption)
    · exact .inr (by assumption)
    · cases q
  · have q := k7 y hy
    rw [e] at q
    cases q
/-- a def as it stands in the text -/
structure DefT where
  nm : Str
  st : Stmt
  N : List Str
  ps : List Str
  body : Option S
structure PrT where
  ds : List DefT
  blt : List Str
  gis : List (Str × Int)
  kws : List (Nat × List Str × List Nat)
  prim : Nat → Nat → List W → Out R
  cls : List Str := []
  cns : List (Nat × List Nat) := []
  base : List Str := []
def PrT.defs (p : PrT) : List (Nat × Str × Nat) := (p.ds.zipIdx).map fun d => (d.2, d.1.nm, d.1.ps.length)
def PrT.fns (p : PrT) : List (Str × Nat) := (p.ds.zipIdx).map fun d => (d.1.nm, d.2)
def PrT.ck (p : PrT) (d : DefT) : Ck := ⟨d.N, defScope d.st, none, p.blt, p.gis, p.fns, p.defs, p.kws, p.cls.zipIdx, p.cns, p.base⟩
def PrT.chk (p : PrT) (d : DefT) : Bool := match d.body with
  | some b => chkSs (p.ck d) b (defBody d.st) && scOk d.N d.ps (defScope d.st)
  | none => true
def PrT.prg (p : PrT) : Prg := ⟨fun i => (p.ds[i]?).bind fun d => d.body.map fun b => ⟨d.ps.length, d.N.length, b⟩, p.prim⟩
def plOf (p : PrT) (K : PySem.W.Frag) (fa ca : List Addr) (fd : List FuncData) : Pl where
  K := K
  fa := fun i => fa.getD i 0
  ca := fun i => ca.getD i 0
  fd := fun i => fd.getD i default
  ps := fun i => ((p.ds[i]?).map (·.ps)).getD []
  nm := fun i => ((p.ds[i]?).map (·.nm)).getD default
  has := fun i => decide (i < p.ds.length)
  kws := fun f ks ix => decide ((f, ks, ix) ∈ p.kws)
  cls := fun c => decide (c < p.cls.length)
  cns := fun _ _ => false
/-- the text stands in the module -/
structure Has (P : Program) (p : PrT) (C : Pl) (K : PySem.W.Frag) (mg : Str → Option Value) : Prop where
  hK : C.K = K
  fn : ∀ i d, p.ds[i]? = some d → L2.Fun K d.nm d.nm d.st (C.fa i) (C.fd i) ∧ mg d.nm = some (.ref (C.fa i)) ∧ Binds K (C.fd i) d.ps [] ∧ C.has i = true ∧ C.nm i = d.nm ∧ C.ps i = d.ps
  has : ∀ i, C.has i = true → ∃ d, p.ds[i]? = some d
  blt : ∀ x ∈ p.blt, mg x = none
  gis : ∀ q ∈ p.gis, ∃ u, mg q.1 = some u ∧ RelV (.int q.2) u
  kw : ∀ f ks ix, C.kws f ks ix = true → KB K (C.fd f) (C.ps f) ks ix
  kws : ∀ d ∈ p.kws, C.kws d.1 d.2.1 d.2.2 = true
  cls : ∀ c x, p.cls[c]? = some x → mg x = some (.ref (C.ca c)) ∧ ExK K (C.ca c) ∧ ∃ D fI fdI, ClsOk P K C c D fI fdI
  known : ∀ c, C.cls c = true → ∃ x, p.cls[c]? = some x
  cns : ∀ q ∈ p.cns, ∀ c, C.cls c = true → PySem.W.kitOne K (.ref (C.ca c)) (.ref (C.ca q.1)) = some (q.2.contains c)
  base : ∀ x ∈ p.base, ∃ v, mg x = some v ∧ ∀ c, C.cls c = true → PySem.W.exmOne K (.ref (C.ca c)) v = some true

section
variable {P : Program} {w : World} {K : PySem.W.Frag} {mg : Str → Option Value} {base : Heap} {p : PrT} {C : Pl}
theorem mem_defs {d : Nat × Str × Nat} (h : d ∈ p.defs) : ∃ t, p.ds[d.1]? = some t ∧ t.nm = d.2.1 ∧ t.ps.length = d.2.2 := by
  unfold PrT.defs at h
  obtain ⟨q, h1, rfl⟩ := List.mem_map.mp h
  obtain ⟨t, i⟩ := q
  have := List.mem_zipIdx_iff_getElem?.mp h1
  exact ⟨t, by simpa using this, rfl, rfl⟩
theorem mem_fns {d : Str × Nat} (h : d ∈ p.fns) : ∃ t, p.ds[d.2]? = some t ∧ t.nm = d.1 := by
  unfold PrT.fns at h
  obtain ⟨q, h1, rfl⟩ := List.mem_map.mp h
  obtain ⟨t, i⟩ := q
  have := List.mem_zipIdx_iff_getElem?.mp h1
  exact ⟨t, by simpa using this, rfl⟩
/-- the promises with n calls -/
structure PgS (P : Program) (w : World) (K : PySem.W.Frag) (mg : Str → Option Value) (base : Heap) (C : Pl) (k : Nat) (cl : Nat → List W → Out R) : Prop where
  fn : ∀ f, C.has f = true → FnG P w K mg base k (C.fa f) (C.fd f) (C.ps f) (spF C (cl f) (C.ps f).length) ∧ mg (C.nm f) = some (.ref (C.fa f)) ∧ PySem.W.keepIn K (.ref (C.fa f)) = true ∧ Binds K (C.fd f) (C.ps f) []
  kw : ∀ f ks ix, C.kws f ks ix = true → KB K (C.fd f) (C.ps f) ks ix
theorem fail_fn {k : Nat} {f : Addr} {fd : FuncData} {ps : List Str} : FnG P w K mg base k f fd ps (spF C (fun _ => .fail) ps.length) :=
  ⟨fun vs H Q E h => h.1, fun A l s H a us vs Q E _ _ _ _ _ h => by
    obtain ⟨_, ws, Z, fs, _, h⟩ := h
    exact h.elim⟩
theorem def_ok {n m i : Nat} {d : DefT} {b : S} (h2 : 2 ≤ m) (hs : Has P p C K mg) (hm : ∃ o, base.get? sysModules = some o) (hd : p.ds[i]? = some d) (hb : d.body = some b) (hc : p.chk d = true) (ih : PgS P w K mg base C m (callF p.prg n)) :
    FnG P w K mg base (m + 1) (C.fa i) (C.fd i) d.ps (spF C (callF p.prg (n + 1) i) d.ps.length) := by
  obtain ⟨F, _, _, _, _, _⟩ := hs.fn i d hd
  obtain ⟨oc, od, kV, doc, pm, an, cdv, ct, osl, hfd, lk, hcd⟩ := F.ex
  unfold PrT.chk at hc
  rw [hb] at hc
  simp only [Bool.and_eq_true] at hc
  have S := scOk_ok hc.2
  rw [hfd] at lk ⊢
  refine fnG_of lk hcd S (fun vs H Q E h => h.1) fun A l s H vs Q E room gd h => ?_
  obtain ⟨hlen, ws, Z, fs, R, h⟩ := h
  have hws : ws.length = d.ps.length := by
    have := R.len
    simp only [List.length_map] at this
    omega
  have hnl : d.ps.length ≤ d.N.length := by
    have := congrArg List.length S.pre
    rw [List.length_take] at this
    omega
  have hdf : p.prg.df i = some ⟨d.ps.length, d.N.length, b⟩ := by
    unfold PrT.prg
    simp only [hd, Option.bind_some, hb, Option.map_some]
  unfold callF at h
  rw [hdf] at h
  simp only [hws, hnl, and_self, if_true] at h
  refine ⟨tS C (vs.headD .non) (fun cls d _ H' => E cls d H') (callF p.prg n) b, ?_, ?_⟩
  · refine chkSs_ok (n := m) (k := p.ck d) b ⟨rfl, rfl, rfl⟩ bx_passes ⟨⟨hs.hK, rfl, S.nd, hm, gd, room⟩, rfl, rfl, fun _ _ => rfl, hs.blt, hs.gis, fun q hq => ?_, fun q hq => ?_, hs.kws, fun q hq => ?_, fun c hc => ?_, hs.cns, hs.base, h2⟩ ⟨ih.fn, ih.kw⟩ bx_takes hc.1
    · obtain ⟨t, h1, h2⟩ := mem_fns hq
      rw [← h2]
      exact (hs.fn _ t h1).2.1
    · obtain ⟨t, h1, h2, h3⟩ := mem_defs hq
      obtain ⟨_, _, _, q1, q2, q3⟩ := hs.fn _ t h1
      exact ⟨q1, q2.trans h2, by rw [q3]; exact h3⟩
    · have := hs.cls q.2 q.1 (by simpa using List.mem_zipIdx_iff_getElem?.mp hq)
      exact ⟨this.1, this.2.2⟩
    · obtain ⟨x, hx⟩ := hs.known c hc
      exact (hs.cls c x hx).2.1
  · have R0 := Rel.startR (N := d.N) (ns := d.N.length) R rfl (by omega)
    rw [hws] at R0
    exact ⟨_, Z, fs, R0, body_ends hlen h⟩
/-- by induction on the calls that are left -/
theorem pg_n (hs : Has P p C K mg) (hm : ∃ o, base.get? sysModules = some o) (hc : ∀ d ∈ p.ds, p.chk d = true)
    (prim : ∀ n i d, p.ds[i]? = some d → d.body = none → PgS P w K mg base C (n + 2) (callF p.prg n) → FnG P w K mg base (n + 3) (C.fa i) (C.fd i) d.ps (spF C (p.prim n i) d.ps.length)) : ∀ n, PgS P w K mg base C (n + 2) (callF p.prg n)
  | 0 => ⟨fun f hf => by
      obtain ⟨d, hd⟩ := hs.has f hf
      obtain ⟨F, q1, q2, q3, q4, q5⟩ := hs.fn f d hd
      rw [q4, q5]
      refine ⟨?_, q1, F.kp, q2⟩
      have : callF p.prg 0 f = fun _ => .fail := by funext ws; rfl
      rw [this]
      exact fail_fn, hs.kw⟩
  | n + 1 => ⟨fun f hf => by
      have ih := pg_n hs hm hc prim n
      obtain ⟨d, hd⟩ := hs.has f hf
      obtain ⟨F, q1, q2, q3, q4, q5⟩ := hs.fn f d hd
      rw [q4, q5]
      refine ⟨?_, q1, F.kp, q2⟩
      cases hb : d.body with
      | some b => exact def_ok (Nat.le_add_left 2 n) hs hm hd hb (hc d (List.mem_of_getElem? hd)) ih
      | none =>
        have hdf : p.prg.df f = none := by
          unfold PrT.prg
          simp only [hd, Option.bind_some, hb, Option.map_none]
        have : callF p.prg (n + 1) f = p.prim n f := by
          funext ws
          unfold callF
          rw [hdf]
          rfl
        rw [this]
        exact prim n f d hd hb ih, hs.kw⟩
end
end PY
set_option Elab.async false
set_option linter.all false
set_option maxRecDepth 100000
set_option maxHeartbeats 1000000
/-! # PySound20: the law, called -/
namespace PY
open PySem PySem.Spec PyProof.Rows L2

section
variable {P : Program} {w : World} {K : PySem.W.Frag} {mg mb : Str → Option Value} {k : Nat} {fa a : Addr} {fd : FuncData} {x : Str} {sp : Sp} {s₁ : Shared} {vs : List Value} {ns : List Int}
/-- only the script is hidden -/
theorem law_at {H : Hp} (KX : K.In s₁.heap) (hns : s₁.heap.Ns mainGlobals mg) (hbn : s₁.heap.Ns builtinsNs mb) (hbb : ∀ x : Str, x ≠ "__name__" → mb x = bootBuiltins x) (nol : s₁.heap.NoLimit) (nos : s₁.heap.NoSeer) (hg : s₁.gens = #[])
    (ha : s₁.heap.get? a = some { cls := .type "list", data := .seq vs.toArray }) (room : Room k callerA) (F : ∀ base : Heap, K.In base → base.Ns mainGlobals mg → (∃ o, base.get? sysModules = some o) → FnG P w K mg base k fa fd [x] sp)
    (hbind : ∀ (s : Shared) (u : Value), BindsTo s fd ⟨[u], []⟩ [(x, u)]) (hsp : sp [.ref a] H (fun v _ => v = .bl true) fun _ _ _ => False) (only : Only H) (hok : HOk P w H s₁.heap) (just : ∀ b, H b ≠ none → b = a) (notK : H a ≠ none → K.lookup a = none) :
    codeAny (model P w) callerA (.call (.ref fa) ⟨[.ref a], []⟩) (fun r s' => r = .ok (.ret (.bool true)) ∧ OldK s₁.heap s'.heap ∧ s'.os = s₁.os ∧ AllBare s'.gens) s₁ := by
  -- what is no list is not hidden
  have shown : ∀ {b : Addr} {o : Obj}, s₁.heap.get? b = some o → b ≠ a → (hidT s₁.heap H).get? b = some o := fun {b o} e hb => hidT_get e (by
    cases q : H b with
    | none => rfl
    | some u => exact absurd (just b (by rw [q]; exact Option.some_ne_none u)) hb)
  have nsB : ∀ {b : Addr} {m : Str → Option Value}, s₁.heap.Ns b m → (hidT s₁.heap H).Ns b m := by
    rintro b m ⟨o, es, ep, e, d, r⟩
    refine ⟨o, es, ep, shown e fun z => ?_, d, r⟩
    rw [z, ha] at e
    cases e
    cases d
  have kB : K.In (hidT s₁.heap H) := fun b o e => by
    by_cases z : b = a
    · refine hidT_get (KX b o e) ?_
      cases q : H b with
      | none => rfl
      | some u => rw [z] at q e; rw [notK (by rw [q]; exact Option.some_ne_none u)] at e; cases e
    · exact shown (KX b o e) z
  have md : Mod K mg (hidT s₁.heap H) := ⟨kB, nsB hns, ⟨mb, nsB hbn, hbb⟩, let ⟨mc, q1, q2⟩ := nol; ⟨mc, nsB q1, q2⟩⟩
  have env0 : Env0 P w K mg (hidT s₁.heap H) callerA [] s₁ H := ⟨rfl, md, fun _ _ e => of_hidT e, Nat.le_of_eq (hidT_size _ _), trivial, fun b hb => (nomatch hb), hok, .of_eq hg⟩
  have mods : ∃ o, (hidT s₁.heap H).get? sysModules = some o := by
    obtain ⟨mm, q, _⟩ := nos.mods
    obtain ⟨o, _, _, e, _⟩ := nsB q
    exact ⟨o, e⟩
  have run := (F _ kB (nsB hns) mods).go callerA [] s₁ H ⟨[.ref a], []⟩ [.ref a] [.ref a] _ _ room rfl env0 (hbind s₁ (.ref a)) (.cons rfl .nil) hsp
  refine codeAny_mono run fun r s2 q => ?_
  match r, q with
  | .error _, ⟨_, _, _, _, _, _, _, _, _, _, _, _, no⟩ => exact no.elim
  | .ok (.ret u), ⟨v, H2, os, bare, un, hok2, rv, hv⟩ =>
    have hv : v = .bl true := hv
    subst hv
    have hu : u = Value.bool true := rv
    subst hu
    refine ⟨rfl, OldK.of_keep fun b o e => ?_, os, bare⟩
    rcases only b with z | ⟨ob, xs, z⟩
    · exact un.keep b o e z (fun q => nomatch q) (fun q => nomatch q)
    · obtain ⟨e1, _⟩ := hok b _ z
      obtain ⟨e2, _⟩ := hok2 b _ (un.frzs b ob _ z)
      rw [e] at e1
      cases e1
      exact e2
theorem law_callG (KX : K.In s₁.heap) (hns : s₁.heap.Ns mainGlobals mg) (hbn : s₁.heap.Ns builtinsNs mb) (hbb : ∀ x : Str, x ≠ "__name__" → mb x = bootBuiltins x) (nol : s₁.heap.NoLimit) (nos : s₁.heap.NoSeer) (hg : s₁.gens = #[])
    (ha : s₁.heap.get? a = some { cls := .type "list", data := .seq vs.toArray }) (hi : IntsAre vs ns) (hl : ns.length ≤ sizeLine) (room : Room k callerA) (F : ∀ base : Heap, K.In base → base.Ns mainGlobals mg → (∃ o, base.get? sysModules = some o) → FnG P w K mg base k fa fd [x] sp)
    (hbind : ∀ (s : Shared) (u : Value), BindsTo s fd ⟨[u], []⟩ [(x, u)]) (hsp : ∀ H : Hp, Only H → SqL K H a (ns.map V.int) → sp [.ref a] H (fun v _ => v = .bl true) fun _ _ _ => False) :
    codeAny (model P w) callerA (.call (.ref fa) ⟨[.ref a], []⟩) (fun r s' => r = .ok (.ret (.bool true)) ∧ OldK s₁.heap s'.heap ∧ s'.os = s₁.os ∧ AllBare s'.gens) s₁ := by
  have rv := vals_ints hi
  have lv : vs.length = ns.length := hi.length
  cases hk : K.lookup a with
  | some o =>
    have e := KX a o hk
    rw [ha] at e
    cases e
    have only : Only fun _ => none := fun _ => .inl rfl
    refine law_at (H := fun _ => none) KX hns hbn hbb nol nos hg ha room F hbind (hsp _ only (.inr ⟨_, vs.toArray, _, hk, rfl, rfl, rfl, ?_, rv⟩)) only (fun b u z => nomatch z) (fun b z => absurd rfl z) fun z => absurd rfl z
    rw [List.size_toArray, lv]
    exact hl
  | none =>
    let H : Hp := fun b => if b = a then some (.frz { cls := .type "list", data := .seq vs.toArray } (.lst (ns.map V.int))) else none
    have at_a : H a = some (.frz { cls := .type "list", data := .seq vs.toArray } (.lst (ns.map V.int))) := if_pos rfl
    have off : ∀ {b}, b ≠ a → H b = none := fun hb => if_neg hb
    have only : Only H := fun b => by
      by_cases z : b = a
      · rw [z]; exact .inr ⟨_, _, at_a⟩
      · exact .inl (off z)
    refine law_at (H := H) KX hns hbn hbb nol nos hg ha room F hbind (hsp _ only (.inl (.inr ⟨_, at_a⟩))) only (fun b u z => ?_) (fun b z => Classical.byContradiction fun q => z (off q)) fun _ => hk
    by_cases q : b = a
    · rw [q, at_a] at z
      cases z
      rw [q]
      exact ⟨ha, by rw [List.length_map]; exact hl, vs, _, rv, ha⟩
    · rw [off q] at z
      cases z
end
/-- the goal that k_head leaves, by a promise that holds where nothing is shown around -/
theorem walk_G {l : PySem.W.OpenLaw} {n k : Nat} {q : Program} {loose : List Str} {XP : (Str → Option Value) → Heap → Prop} {YP : World → Heap → Prop} {d : DefRec} {K : Params → PySem.W.Frag} {sp : PySem.W.Frag → Sp} {x : Str}
    (hn : l.most = some n) (hn2 : n ≤ sizeLine) (hdf : d.params.defaults = []) (room : Room k callerA) (himp : importsNone q = true) (hY : ∀ (w : World) (h : Heap), YP w h → (K w.params).In h)
    (F : ∀ (w : World) (mg : Str → Option Value) (fa : Addr) (h : Heap), (K w.params).In h → h.Ns mainGlobals mg → mg d.name = some (.ref fa) →
      ∃ (fd : FuncData) (sp : Sp), (∀ (s : Shared) (u : Value), BindsTo s fd ⟨[u], []⟩ [(x, u)]) ∧ (∀ base : Heap, (K w.params).In base → base.Ns mainGlobals mg → (∃ o, base.get? sysModules = some o) → FnG l.prog w (K w.params) mg base k fa fd [x] sp) ∧
        ∀ (H : Hp) (a : Addr) (ns : List Int), ns.length ≤ n → Only H → SqL (K w.params) H a (ns.map V.int) → sp [.ref a] H (fun v _ => v = .bl true) fun _ _ _ => False) :
    PySem.W.WalkO q loose XP YP l.row.toRowW d [] (fun f vs => PySem.call f vs) := by
  refine Att.attach_call hn hdf fun w s₀ s₁ mg mb fa o pm cd doc a vs ns G Y ho hd hcd hmg hobj hints hlen hg => ?_
  have KX := hY w _ Y
  obtain ⟨fd, sp, hb, hF, hsp⟩ := F w mg fa _ KX G.T.g hmg
  exact law_callG KX G.T.g G.T.b G.T.builtins G.T.nolimit (G.T.seer himp) hg hobj hints (Nat.le_trans hlen hn2) room hF hb fun H hO hS => hsp H a ns hlen hO hS
/-- the law's promise: on a script the evaluation says True -/
theorem law_sp {C : Pl} {clf : List W → Out R} {a : Addr} {ns : List Int} {H : Hp} {σ : Sig} (only : Only H) (hS : SqL C.K H a (ns.map V.int)) (hev : clf [.val (.scr ns)] = .ok (.val (.bl true)) σ) : spF C clf 1 [.ref a] H (fun v _ => v = .bl true) fun _ _ _ => False := by
  refine ⟨rfl, [.val (.scr ns)], fun _ => False, fun _ => [], ⟨rfl, fun i w h => ?_, fun _ => List.nodup_nil, fun i j a h => (by cases h), fun i a h => (by cases h), fun a z => z.elim, fun i a h => (by cases h)⟩, ?_⟩
  · cases i with
    | zero =>
      cases h
      refine ⟨.ref a, rfl, .scr ?_⟩
      rcases hS with (h | ⟨o, h⟩) | h
      · rcases only a with z | ⟨o, xs, z⟩ <;> rw [h] at z <;> cases z
      · exact .inr (.inl ⟨o, h⟩)
      · exact .inr (.inr h)
    | succ i => simp at h
  · rw [hev]
    intro v H' Z' fs' F _ _ _ p
    cases p
    rfl
end PY
set_option Elab.async false
set_option linter.all false
set_option maxRecDepth 100000
set_option maxHeartbeats 400000
/-! # PlainEv: the evaluator's equations -/
namespace PY
open PySem L2
/-! parts of the equations, by name -/
def lstF (own : Bool) (ms : List M) (σ : Sig) : Out R := if ms.length ≤ sizeLine then .ok (if own then .own (.lst ms) else .val (.lst (ms.map M.er))) σ else .fail
def tupF (own : Bool) (ms : List M) (σ : Sig) : Out R := if ms.length ≤ sizeLine then .ok (if own then .own (.tup ms) else .val (.tup (ms.map M.er))) σ else .fail
def fnF (r : R) (k : Nat → Out R) : Out R := match r.t with | .fn f => k f | _ => .fail
@[simp] theorem fnF_fn {f : Nat} {k : Nat → Out R} : fnF (.val (.fn f)) k = k f := (rfl)
def dnewF (own : Bool) : R := if own then .own (.dK [] []) else .val (.dK [] [])
def negF (r : R) (σ : Sig) : Out R := match r.t with | .int i => .ok (.val (.int (-i))) σ | _ => .fail
def notF (r : R) (σ : Sig) : Out R := match r.t with | .bl b => .ok (.val (.bl (!b))) σ | _ => .fail
def andF (r : R) (k : Sig → Out R) (σ : Sig) : Out R := match r.t with | .bl true => k σ | .bl false => .ok (.val (.bl false)) σ | _ => .fail
def orF (r : R) (k : Sig → Out R) (σ : Sig) : Out R := match r.t with | .bl true => .ok (.val (.bl true)) σ | .bl false => k σ | _ => .fail
def iteF (r : R) (a b : Sig → Out R) (σ : Sig) : Out R := match r.t with | .bl true => a σ | .bl false => b σ | _ => .fail
def chainF (o : Option Bool) (k : Sig → Out R) (σ : Sig) : Out R := match o with | some true => k σ | some false => .ok (.val (.bl false)) σ | none => .fail
def rng1F (r : R) (σ : Sig) : Out (List T) := match r.t with | .int n => if big n then .ok (rangeT 0 n.toNat) σ else .fail | _ => .fail
def rng2F (r r' : R) (σ : Sig) : Out (List T) := match r.t, r'.t with | .int m, .int n => if big m && big n then .ok (rangeT m (n - m).toNat) σ else .fail | _, _ => .fail
def enumF (r : R) (σ : Sig) : Out (List T) := match r.t with | .lst ts => .ok (enumFrom 0 ts) σ | _ => .fail
def borF (o : Out R) (σ : Sig) : Out R := match o with
  | .ok r _ => if r.sc then .ok r σ else .fail
  | .ex c v σ => .ex c v σ
  | .fail => .fail
section
variable {σ : Sig} {ms : List M} {k k' : Sig → Out R} {t : T} {m : M} {i : Int} {r : R} {b : Bool}
theorem lstF_v (h : ms.length ≤ sizeLine) : lstF false ms σ = .ok (.val (.lst (ms.map M.er))) σ := if_pos h
theorem lstF_o (h : ms.length ≤ sizeLine) : lstF true ms σ = .ok (.own (.lst ms)) σ := if_pos h
theorem tupF_v (h : ms.length ≤ sizeLine) : tupF false ms σ = .ok (.val (.tup (ms.map M.er))) σ := if_pos h
theorem tupF_o (h : ms.length ≤ sizeLine) : tupF true ms σ = .ok (.own (.tup ms)) σ := if_pos h
@[simp] theorem dnewF_t : dnewF true = .own (.dK [] []) := (rfl)
@[simp] theorem dnewF_f : dnewF false = .val (.dK [] []) := (rfl)
@[simp] theorem negF_int : negF (.val (.int i)) σ = .ok (.val (.int (-i))) σ := (rfl)
@[simp] theorem notF_b : notF (.val (.bl b)) σ = .ok (.val (.bl (!b))) σ := (rfl)
@[simp] theorem andF_t : andF (.val (.bl true)) k σ = k σ := (rfl)
@[simp] theorem andF_f : andF (.val (.bl false)) k σ = .ok (.val (.bl false)) σ := (rfl)
@[simp] theorem orF_t : orF (.val (.bl true)) k σ = .ok (.val (.bl true)) σ := (rfl)
@[simp] theorem orF_f : orF (.val (.bl false)) k σ = k σ := (rfl)
@[simp] theorem iteF_t : iteF (.val (.bl true)) k k' σ = k σ := (rfl)
@[simp] theorem iteF_f : iteF (.val (.bl false)) k k' σ = k' σ := (rfl)
@[simp] theorem chainF_t : chainF (some true) k σ = k σ := (rfl)
@[simp] theorem chainF_f : chainF (some false) k σ = .ok (.val (.bl false)) σ := (rfl)
theorem rng1F_int (h : big i = true) : rng1F (.val (.int i)) σ = .ok (rangeT 0 i.toNat) σ := if_pos h
theorem rng2F_int {j : Int} (h : big i = true) (h' : big j = true) : rng2F (.val (.int i)) (.val (.int j)) σ = .ok (rangeT i (j - i).toNat) σ := if_pos (by rw [h, h']; rfl)
@[simp] theorem enumF_lst {ts : List T} : enumF (.val (.lst ts)) σ = .ok (enumFrom 0 ts) σ := (rfl)
theorem borF_ok {σ' : Sig} (h : r.sc = true) : borF (.ok r σ') σ = .ok r σ := if_pos h
@[simp] theorem borF_bl {σ' : Sig} : borF (.ok (.val (.bl b)) σ') σ = .ok (.val (.bl b)) σ := borF_ok (r := .val (.bl b)) rfl
@[simp] theorem borF_int {σ' : Sig} : borF (.ok (.val (.int i)) σ') σ = .ok (.val (.int i)) σ := borF_ok (r := .val (.int i)) rfl
@[simp] theorem borF_str {σ' : Sig} {x : Str} : borF (.ok (.val (.str x)) σ') σ = .ok (.val (.str x)) σ := borF_ok (r := .val (.str x)) rfl
end
section
variable {cl : Nat → List W → Out R}
@[simp] theorem ev_1 : ev cl (.sl i) σ = rd i σ := by
  first | (simp only [ev]; done) | (simp only [ev] <;> rfl)
@[simp] theorem ev_2 : ev cl (.mv i) σ = mvd i σ := by
  first | (simp only [ev]; done) | (simp only [ev] <;> rfl)
@[simp] theorem ev_3 : ev cl (.pop i) σ = popd i σ := by
  first | (simp only [ev]; done) | (simp only [ev] <;> rfl)
@[simp] theorem ev_4 : ev cl (.popAt i e) σ = (ev cl e σ).bind fun r σ => popA i r.t σ := by
  first | (simp only [ev]; done) | (simp only [ev] <;> rfl)
@[simp] theorem ev_5 : ev cl (.non) σ = .ok (.val .non) σ := by
  first | (simp only [ev]; done) | (simp only [ev] <;> rfl)
@[simp] theorem ev_6 : ev cl (.bl b) σ = .ok (.val (.bl b)) σ := by
  first | (simp only [ev]; done) | (simp only [ev] <;> rfl)
@[simp] theorem ev_7 : ev cl (.int i) σ = .ok (.val (.int i)) σ := by
  first | (simp only [ev]; done) | (simp only [ev] <;> rfl)
@[simp] theorem ev_8 : ev cl (.str x) σ = .ok (.val (.str x)) σ := by
  first | (simp only [ev]; done) | (simp only [ev] <;> rfl)
@[simp] theorem ev_9 : ev cl (.fnv f) σ = .ok (.val (.fn f)) σ := by
  first | (simp only [ev]; done) | (simp only [ev] <;> rfl)
@[simp] theorem ev_10 : ev cl (.lst own es) σ = (evM cl es σ).bind fun ms σ => lstF own ms σ := by
  first | (simp only [ev]; done) | (simp only [ev] <;> rfl)
@[simp] theorem ev_11 : ev cl (.tup own es) σ = (evM cl es σ).bind fun ms σ => tupF own ms σ := by
  first | (simp only [ev]; done) | (simp only [ev] <;> rfl)
@[simp] theorem ev_12 : ev cl (.dnew own) σ = .ok (dnewF own) σ := by
  first | (simp only [ev]; done) | (simp only [ev] <;> rfl)
@[simp] theorem ev_13 : ev cl (.bin op a b) σ = (ev cl a σ).bind fun x σ => (ev cl b σ).bind fun y σ => Out.of ((bop op x.t y.t).map .val) σ := by
  first | (simp only [ev]; done) | (simp only [ev] <;> rfl)
@[simp] theorem ev_14 : ev cl (.neg a) σ = (ev cl a σ).bind fun x σ => negF x σ := by
  first | (simp only [ev]; done) | (simp only [ev] <;> rfl)
@[simp] theorem ev_15 : ev cl (.not a) σ = (ev cl a σ).bind fun x σ => notF x σ := by
  first | (simp only [ev]; done) | (simp only [ev] <;> rfl)
@[simp] theorem ev_16 : ev cl (.and a b) σ = (ev cl a σ).bind fun x σ => andF x (ev cl b) σ := by
  first | (simp only [ev]; done) | (simp only [ev] <;> rfl)
@[simp] theorem ev_17 : ev cl (.or a b) σ = (ev cl a σ).bind fun x σ => orF x (ev cl b) σ := by
  first | (simp only [ev]; done) | (simp only [ev] <;> rfl)
@[simp] theorem ev_18 : ev cl (.cmp op a b) σ = (ev cl a σ).bind fun x σ => (ev cl b σ).bind fun y σ => Out.of ((cop op x.t y.t).map (.val <| .bl ·)) σ := by
  first | (simp only [ev]; done) | (simp only [ev] <;> rfl)
@[simp] theorem ev_19 : ev cl (.chain op op' a b c) σ = (ev cl a σ).bind fun x σ => (ev cl b σ).bind fun y σ => chainF (cop op x.t y.t) (fun σ => (ev cl c σ).bind fun z σ => Out.of ((cop op' y.t z.t).map (.val <| .bl ·)) σ) σ := by
  first | (simp only [ev]; done) | (simp only [ev] <;> rfl)
@[simp] theorem ev_20 : ev cl (.ite c a b) σ = (ev cl c σ).bind fun x σ => iteF x (ev cl a) (ev cl b) σ := by
  first | (simp only [ev]; done) | (simp only [ev] <;> rfl)
@[simp] theorem ev_21 : ev cl (.call f as) σ = (evA cl as σ).bind fun as σ => callA cl f as σ := by
  first | (simp only [ev]; done) | (simp only [ev] <;> rfl)
@[simp] theorem ev_22 : ev cl (.callk f ks as) σ = (evA cl as σ).bind fun as σ => match argTs as with
    | some ts => callA cl f (ks.filterMap fun k => (ts[k]?).map A.v) σ
    | none => .fail := by
  first | (simp only [ev]; done) | (simp only [ev] <;> rfl)
@[simp] theorem ev_23 : ev cl (.bi b as) σ = (evA cl as σ).bind fun as σ => Out.of ((argTs as).bind fun ts => (bi b ts).map .val) σ := by
  first | (simp only [ev]; done) | (simp only [ev] <;> rfl)
@[simp] theorem ev_24 : ev cl (.isi a ty) σ = (ev cl a σ).bind fun x σ => Out.of ((x.t.isTy ty).map (.val <| .bl ·)) σ := by
  first | (simp only [ev]; done) | (simp only [ev] <;> rfl)
@[simp] theorem ev_25 : ev cl (.isi2 a ty ty') σ = (ev cl a σ).bind fun x σ => match x.t.isTy ty, x.t.isTy ty' with
    | some p, some q => .ok (.val (.bl (p || q))) σ
    | _, _ => .fail := by
  first | (simp only [ev]; done) | (simp only [ev] <;> rfl)
@[simp] theorem ev_26 : ev cl (.ix a b) σ = (ev cl a σ).bind fun x σ => (ev cl b σ).bind fun y σ => Out.of ((tix x.t y.t).map .val) σ := by
  first | (simp only [ev]; done) | (simp only [ev] <;> rfl)
@[simp] theorem ev_27 : ev cl (.slice a lo hi) σ = (ev cl a σ).bind fun x σ => (evO cl lo σ).bind fun l σ => (evO cl hi σ).bind fun h σ => Out.of ((tsl x.t l h).map .val) σ := by
  first | (simp only [ev]; done) | (simp only [ev] <;> rfl)
@[simp] theorem ev_28 : ev cl (.pr1 p a) σ = (ev cl a σ).bind fun x σ => Out.of ((pf1 p x.t).map .val) σ := by
  first | (simp only [ev]; done) | (simp only [ev] <;> rfl)
@[simp] theorem ev_29 : ev cl (.pr2 p a b) σ = (ev cl a σ).bind fun x σ => if pre2 p x.t then (ev cl b σ).bind fun y σ => Out.of ((pf2 p x.t y.t).map .val) σ else .fail := by
  first | (simp only [ev]; done) | (simp only [ev] <;> rfl)
@[simp] theorem ev_30 : ev cl (.comp own vs tg it c e) σ = (evIt cl it σ).bind fun ts σ0 => onS (hide vs σ0) fun σ1 => (evL (fun t σ => onS (tg.put t σ) fun σ => ((evC cl c σ).bind fun b σ => keepIf b (fun σ => (ev cl e σ).bind fun r σ => .ok [r.m] (wipes vs σ)) vs σ).noex) ts σ1).bind fun ms σ => finL own ms (back vs σ0 σ) := by
  first | (simp only [ev]; done) | (simp only [ev] <;> rfl)
@[simp] theorem ev_31 : ev cl (.comp2 own vs vs1 tg it tg1 it1 e) σ = (evIt cl it σ).bind fun ts σ0 => onS (hide vs σ0) fun σ1 => (evL (fun t σ => onS (tg.put t σ) fun σ => (evIt cl it1 σ).noex.bind fun ts1 σ => (evL (fun t1 σ => onS (tg1.put t1 σ) fun σ => ((ev cl e σ).bind fun r σ => .ok [r.m] (wipes vs1 σ)).noex) ts1 (wipes vs1 σ)).bind fun ms σ => .ok ms (wipes vs σ)) ts σ1).bind fun ms σ => finL own ms (back vs σ0 σ) := by
  first | (simp only [ev]; done) | (simp only [ev] <;> rfl)
@[simp] theorem ev_32 : ev cl (.bor e) σ = borF (ev cl e σ.fz) σ := by
  first | (simp only [ev]; done) | (simp only [ev] <;> rfl)
@[simp] theorem ev_33 : ev cl (.dlit own ks es) σ = (evM cl es σ).bind fun ms σ => dlitF own ks ms σ := by
  first | (simp only [ev]; done) | (simp only [ev] <;> rfl)
@[simp] theorem ev_34 : ev cl (.lcp a) σ = (ev cl a σ).bind fun x σ => lcpF x.t σ := by
  first | (simp only [ev]; done) | (simp only [ev] <;> rfl)
@[simp] theorem ev_35 : ev cl (.isv a) σ = (ev cl a σ).bind fun x σ => Out.of (x.t.isv.map (.val <| .bl ·)) σ := by
  first | (simp only [ev]; done) | (simp only [ev] <;> rfl)
@[simp] theorem ev_36 : ev cl (.xval a) σ = (ev cl a σ).bind fun x σ => Out.of (x.t.xval.map .val) σ := by
  first | (simp only [ev]; done) | (simp only [ev] <;> rfl)
@[simp] theorem ev_37 : ev cl (.callv i fl as) σ = (rd i σ).bind fun r σ => fnF r fun f => if fl.contains f then (evA cl as σ).bind fun as σ => callA cl f as σ else .fail := by
  first | (simp only [ev]; done) | (simp only [ev] <;> rfl)
@[simp] theorem ev_isc {c : Nat} {cs : List Nat} : ev cl (.isc a c cs) σ = (ev cl a σ).bind fun x σ => Out.of ((x.t.isc cs).map (.val <| .bl ·)) σ := by simp only [ev]
@[simp] theorem ev_gi : ev cl (.gi x i) σ = .ok (.val (.int i)) σ := by simp only [ev]
@[simp] theorem evM_nil : evM cl .nil σ = .ok [] σ := by simp only [evM]
@[simp] theorem evM_cons : evM cl (.cons e es) σ = (ev cl e σ).bind fun r σ => (evM cl es σ).bind fun ms σ => .ok (r.m :: ms) σ := by simp only [evM]
@[simp] theorem evA_nil : evA cl .nil σ = .ok [] σ := by simp only [evA]
@[simp] theorem evA_io : evA cl (.cons (.io i) es) σ = if isOwn σ[i]? then (evA cl es σ).bind fun as σ => .ok (.io i :: as) σ else .fail := by
  simp only [evA, ← isOwn_iff] <;> rfl
@[simp] theorem evA_give : evA cl (.cons (.give e) es) σ = (ev cl e σ).bind fun r σ => (evA cl es σ).bind fun as σ => .ok (.gv r.m :: as) σ := by simp only [evA]
@[simp] theorem evO_none : evO cl .none σ = .ok none σ := by simp only [evO]
@[simp] theorem evC_none : evC cl .none σ = .ok true σ := by simp only [evC]
theorem evO_some (h : E.isNone e = false) : evO cl e σ = (ev cl e σ).bind R.int1 := by
  cases e <;> first | (simp [E.isNone] at h; done) | simp only [evO]
theorem evC_some (h : E.isNone e = false) : evC cl e σ = (ev cl e σ).bind R.bool := by
  cases e <;> first | (simp [E.isNone] at h; done) | simp only [evC]
@[simp] theorem evIt_rng1 : evIt cl (.rng1 a) σ = (ev cl a σ).bind fun r σ => rng1F r σ := by simp only [evIt] <;> rfl
@[simp] theorem evIt_rng2 : evIt cl (.rng2 a b) σ = (ev cl a σ).bind fun r σ => (ev cl b σ).bind fun r' σ => rng2F r r' σ := by simp only [evIt] <;> rfl
@[simp] theorem evIt_enum : evIt cl (.enum a) σ = (ev cl a σ).bind fun r σ => enumF r σ := by simp only [evIt] <;> rfl
@[simp] theorem evIt_zip : evIt cl (.zip strict a b) σ = (ev cl a σ).bind fun r σ => (ev cl b σ).bind fun r' σ => onS2 (zipS strict r.t r'.t) fun ts => .ok ts σ := by simp only [evIt]
@[simp] theorem evA_sl : evA cl (.cons (.sl x0) es) σ = (ev cl (.sl x0) σ).bind fun r σ => (evA cl es σ).bind fun as σ => .ok (.v r.t :: as) σ := evA_cons rfl σ
@[simp] theorem evO_sl : evO cl (.sl x0) σ = (ev cl (.sl x0) σ).bind R.int1 := evO_some rfl
@[simp] theorem evC_sl : evC cl (.sl x0) σ = (ev cl (.sl x0) σ).bind R.bool := evC_some rfl
@[simp] theorem evIt_sl : evIt cl (.sl x0) σ = (ev cl (.sl x0) σ).bind fun r σ => Out.of (itemsOf r.t) σ := evIt_plain rfl σ
@[simp] theorem evA_mv : evA cl (.cons (.mv x0) es) σ = (ev cl (.mv x0) σ).bind fun r σ => (evA cl es σ).bind fun as σ => .ok (.v r.t :: as) σ := evA_cons rfl σ
@[simp] theorem evO_mv : evO cl (.mv x0) σ = (ev cl (.mv x0) σ).bind R.int1 := evO_some rfl
@[simp] theorem evC_mv : evC cl (.mv x0) σ = (ev cl (.mv x0) σ).bind R.bool := evC_some rfl
@[simp] theorem evIt_mv : evIt cl (.mv x0) σ = (ev cl (.mv x0) σ).bind fun r σ => Out.of (itemsOf r.t) σ := evIt_plain rfl σ
@[simp] theorem evA_pop : evA cl (.cons (.pop x0) es) σ = (ev cl (.pop x0) σ).bind fun r σ => (evA cl es σ).bind fun as σ => .ok (.v r.t :: as) σ := evA_cons rfl σ
@[simp] theorem evO_pop : evO cl (.pop x0) σ = (ev cl (.pop x0) σ).bind R.int1 := evO_some rfl
@[simp] theorem evC_pop : evC cl (.pop x0) σ = (ev cl (.pop x0) σ).bind R.bool := evC_some rfl
@[simp] theorem evIt_pop : evIt cl (.pop x0) σ = (ev cl (.pop x0) σ).bind fun r σ => Out.of (itemsOf r.t) σ := evIt_plain rfl σ
@[simp] theorem evA_popAt : evA cl (.cons (.popAt x0 x1) es) σ = (ev cl (.popAt x0 x1) σ).bind fun r σ => (evA cl es σ).bind fun as σ => .ok (.v r.t :: as) σ := evA_cons rfl σ
@[simp] theorem evO_popAt : evO cl (.popAt x0 x1) σ = (ev cl (.popAt x0 x1) σ).bind R.int1 := evO_some rfl
@[simp] theorem evC_popAt : evC cl (.popAt x0 x1) σ = (ev cl (.popAt x0 x1) σ).bind R.bool := evC_some rfl
@[simp] theorem evIt_popAt : evIt cl (.popAt x0 x1) σ = (ev cl (.popAt x0 x1) σ).bind fun r σ => Out.of (itemsOf r.t) σ := evIt_plain rfl σ
@[simp] theorem evA_non : evA cl (.cons (.non) es) σ = (ev cl (.non) σ).bind fun r σ => (evA cl es σ).bind fun as σ => .ok (.v r.t :: as) σ := evA_cons rfl σ
@[simp] theorem evO_non : evO cl (.non) σ = (ev cl (.non) σ).bind R.int1 := evO_some rfl
@[simp] theorem evC_non : evC cl (.non) σ = (ev cl (.non) σ).bind R.bool := evC_some rfl
@[simp] theorem evIt_non : evIt cl (.non) σ = (ev cl (.non) σ).bind fun r σ => Out.of (itemsOf r.t) σ := evIt_plain rfl σ
@[simp] theorem evA_bl : evA cl (.cons (.bl x0) es) σ = (ev cl (.bl x0) σ).bind fun r σ => (evA cl es σ).bind fun as σ => .ok (.v r.t :: as) σ := evA_cons rfl σ
@[simp] theorem evO_bl : evO cl (.bl x0) σ = (ev cl (.bl x0) σ).bind R.int1 := evO_some rfl
@[simp] theorem evC_bl : evC cl (.bl x0) σ = (ev cl (.bl x0) σ).bind R.bool := evC_some rfl
@[simp] theorem evIt_bl : evIt cl (.bl x0) σ = (ev cl (.bl x0) σ).bind fun r σ => Out.of (itemsOf r.t) σ := evIt_plain rfl σ
@[simp] theorem evA_int : evA cl (.cons (.int x0) es) σ = (ev cl (.int x0) σ).bind fun r σ => (evA cl es σ).bind fun as σ => .ok (.v r.t :: as) σ := evA_cons rfl σ
@[simp] theorem evO_int : evO cl (.int x0) σ = (ev cl (.int x0) σ).bind R.int1 := evO_some rfl
@[simp] theorem evC_int : evC cl (.int x0) σ = (ev cl (.int x0) σ).bind R.bool := evC_some rfl
@[simp] theorem evIt_int : evIt cl (.int x0) σ = (ev cl (.int x0) σ).bind fun r σ => Out.of (itemsOf r.t) σ := evIt_plain rfl σ
@[simp] theorem evA_str : evA cl (.cons (.str x0) es) σ = (ev cl (.str x0) σ).bind fun r σ => (evA cl es σ).bind fun as σ => .ok (.v r.t :: as) σ := evA_cons rfl σ
@[simp] theorem evO_str : evO cl (.str x0) σ = (ev cl (.str x0) σ).bind R.int1 := evO_some rfl
@[simp] theorem evC_str : evC cl (.str x0) σ = (ev cl (.str x0) σ).bind R.bool := evC_some rfl
@[simp] theorem evIt_str : evIt cl (.str x0) σ = (ev cl (.str x0) σ).bind fun r σ => Out.of (itemsOf r.t) σ := evIt_plain rfl σ
@[simp] theorem evA_gi : evA cl (.cons (.gi x0 x1) es) σ = (ev cl (.gi x0 x1) σ).bind fun r σ => (evA cl es σ).bind fun as σ => .ok (.v r.t :: as) σ := evA_cons rfl σ
@[simp] theorem evO_gi : evO cl (.gi x0 x1) σ = (ev cl (.gi x0 x1) σ).bind R.int1 := evO_some rfl
@[simp] theorem evC_gi : evC cl (.gi x0 x1) σ = (ev cl (.gi x0 x1) σ).bind R.bool := evC_some rfl
@[simp] theorem evIt_gi : evIt cl (.gi x0 x1) σ = (ev cl (.gi x0 x1) σ).bind fun r σ => Out.of (itemsOf r.t) σ := evIt_plain rfl σ
@[simp] theorem evA_fnv : evA cl (.cons (.fnv x0) es) σ = (ev cl (.fnv x0) σ).bind fun r σ => (evA cl es σ).bind fun as σ => .ok (.v r.t :: as) σ := evA_cons rfl σ
@[simp] theorem evO_fnv : evO cl (.fnv x0) σ = (ev cl (.fnv x0) σ).bind R.int1 := evO_some rfl
@[simp] theorem evC_fnv : evC cl (.fnv x0) σ = (ev cl (.fnv x0) σ).bind R.bool := evC_some rfl
@[simp] theorem evIt_fnv : evIt cl (.fnv x0) σ = (ev cl (.fnv x0) σ).bind fun r σ => Out.of (itemsOf r.t) σ := evIt_plain rfl σ
@[simp] theorem evA_lst : evA cl (.cons (.lst x0 x1) es) σ = (ev cl (.lst x0 x1) σ).bind fun r σ => (evA cl es σ).bind fun as σ => .ok (.v r.t :: as) σ := evA_cons rfl σ
@[simp] theorem evO_lst : evO cl (.lst x0 x1) σ = (ev cl (.lst x0 x1) σ).bind R.int1 := evO_some rfl
@[simp] theorem evC_lst : evC cl (.lst x0 x1) σ = (ev cl (.lst x0 x1) σ).bind R.bool := evC_some rfl
@[simp] theorem evIt_lst : evIt cl (.lst x0 x1) σ = (ev cl (.lst x0 x1) σ).bind fun r σ => Out.of (itemsOf r.t) σ := evIt_plain rfl σ
@[simp] theorem evA_tup : evA cl (.cons (.tup x0 x1) es) σ = (ev cl (.tup x0 x1) σ).bind fun r σ => (evA cl es σ).bind fun as σ => .ok (.v r.t :: as) σ := evA_cons rfl σ
@[simp] theorem evO_tup : evO cl (.tup x0 x1) σ = (ev cl (.tup x0 x1) σ).bind R.int1 := evO_some rfl
@[simp] theorem evC_tup : evC cl (.tup x0 x1) σ = (ev cl (.tup x0 x1) σ).bind R.bool := evC_some rfl
@[simp] theorem evIt_tup : evIt cl (.tup x0 x1) σ = (ev cl (.tup x0 x1) σ).bind fun r σ => Out.of (itemsOf r.t) σ := evIt_plain rfl σ
@[simp] theorem evA_dnew : evA cl (.cons (.dnew x0) es) σ = (ev cl (.dnew x0) σ).bind fun r σ => (evA cl es σ).bind fun as σ => .ok (.v r.t :: as) σ := evA_cons rfl σ
@[simp] theorem evO_dnew : evO cl (.dnew x0) σ = (ev cl (.dnew x0) σ).bind R.int1 := evO_some rfl
@[simp] theorem evC_dnew : evC cl (.dnew x0) σ = (ev cl (.dnew x0) σ).bind R.bool := evC_some rfl
@[simp] theorem evIt_dnew : evIt cl (.dnew x0) σ = (ev cl (.dnew x0) σ).bind fun r σ => Out.of (itemsOf r.t) σ := evIt_plain rfl σ
@[simp] theorem evA_bin : evA cl (.cons (.bin x0 x1 x2) es) σ = (ev cl (.bin x0 x1 x2) σ).bind fun r σ => (evA cl es σ).bind fun as σ => .ok (.v r.t :: as) σ := evA_cons rfl σ
@[simp] theorem evO_bin : evO cl (.bin x0 x1 x2) σ = (ev cl (.bin x0 x1 x2) σ).bind R.int1 := evO_some rfl
@[simp] theorem evC_bin : evC cl (.bin x0 x1 x2) σ = (ev cl (.bin x0 x1 x2) σ).bind R.bool := evC_some rfl
@[simp] theorem evIt_bin : evIt cl (.bin x0 x1 x2) σ = (ev cl (.bin x0 x1 x2) σ).bind fun r σ => Out.of (itemsOf r.t) σ := evIt_plain rfl σ
@[simp] theorem evA_neg : evA cl (.cons (.neg x0) es) σ = (ev cl (.neg x0) σ).bind fun r σ => (evA cl es σ).bind fun as σ => .ok (.v r.t :: as) σ := evA_cons rfl σ
@[simp] theorem evO_neg : evO cl (.neg x0) σ = (ev cl (.neg x0) σ).bind R.int1 := evO_some rfl
@[simp] theorem evC_neg : evC cl (.neg x0) σ = (ev cl (.neg x0) σ).bind R.bool := evC_some rfl
@[simp] theorem evIt_neg : evIt cl (.neg x0) σ = (ev cl (.neg x0) σ).bind fun r σ => Out.of (itemsOf r.t) σ := evIt_plain rfl σ
@[simp] theorem evA_not : evA cl (.cons (.not x0) es) σ = (ev cl (.not x0) σ).bind fun r σ => (evA cl es σ).bind fun as σ => .ok (.v r.t :: as) σ := evA_cons rfl σ
@[simp] theorem evO_not : evO cl (.not x0) σ = (ev cl (.not x0) σ).bind R.int1 := evO_some rfl
@[simp] theorem evC_not : evC cl (.not x0) σ = (ev cl (.not x0) σ).bind R.bool := evC_some rfl
@[simp] theorem evIt_not : evIt cl (.not x0) σ = (ev cl (.not x0) σ).bind fun r σ => Out.of (itemsOf r.t) σ := evIt_plain rfl σ
@[simp] theorem evA_and : evA cl (.cons (.and x0 x1) es) σ = (ev cl (.and x0 x1) σ).bind fun r σ => (evA cl es σ).bind fun as σ => .ok (.v r.t :: as) σ := evA_cons rfl σ
@[simp] theorem evO_and : evO cl (.and x0 x1) σ = (ev cl (.and x0 x1) σ).bind R.int1 := evO_some rfl
@[simp] theorem evC_and : evC cl (.and x0 x1) σ = (ev cl (.and x0 x1) σ).bind R.bool := evC_some rfl
@[simp] theorem evIt_and : evIt cl (.and x0 x1) σ = (ev cl (.and x0 x1) σ).bind fun r σ => Out.of (itemsOf r.t) σ := evIt_plain rfl σ
@[simp] theorem evA_or : evA cl (.cons (.or x0 x1) es) σ = (ev cl (.or x0 x1) σ).bind fun r σ => (evA cl es σ).bind fun as σ => .ok (.v r.t :: as) σ := evA_cons rfl σ
@[simp] theorem evO_or : evO cl (.or x0 x1) σ = (ev cl (.or x0 x1) σ).bind R.int1 := evO_some rfl
@[simp] theorem evC_or : evC cl (.or x0 x1) σ = (ev cl (.or x0 x1) σ).bind R.bool := evC_some rfl
@[simp] theorem evIt_or : evIt cl (.or x0 x1) σ = (ev cl (.or x0 x1) σ).bind fun r σ => Out.of (itemsOf r.t) σ := evIt_plain rfl σ
@[simp] theorem evA_cmp : evA cl (.cons (.cmp x0 x1 x2) es) σ = (ev cl (.cmp x0 x1 x2) σ).bind fun r σ => (evA cl es σ).bind fun as σ => .ok (.v r.t :: as) σ := evA_cons rfl σ
@[simp] theorem evO_cmp : evO cl (.cmp x0 x1 x2) σ = (ev cl (.cmp x0 x1 x2) σ).bind R.int1 := evO_some rfl
@[simp] theorem evC_cmp : evC cl (.cmp x0 x1 x2) σ = (ev cl (.cmp x0 x1 x2) σ).bind R.bool := evC_some rfl
@[simp] theorem evIt_cmp : evIt cl (.cmp x0 x1 x2) σ = (ev cl (.cmp x0 x1 x2) σ).bind fun r σ => Out.of (itemsOf r.t) σ := evIt_plain rfl σ
@[simp] theorem evA_chain : evA cl (.cons (.chain x0 x1 x2 x3 x4) es) σ = (ev cl (.chain x0 x1 x2 x3 x4) σ).bind fun r σ => (evA cl es σ).bind fun as σ => .ok (.v r.t :: as) σ := evA_cons rfl σ
@[simp] theorem evO_chain : evO cl (.chain x0 x1 x2 x3 x4) σ = (ev cl (.chain x0 x1 x2 x3 x4) σ).bind R.int1 := evO_some rfl
@[simp] theorem evC_chain : evC cl (.chain x0 x1 x2 x3 x4) σ = (ev cl (.chain x0 x1 x2 x3 x4) σ).bind R.bool := evC_some rfl
@[simp] theorem evIt_chain : evIt cl (.chain x0 x1 x2 x3 x4) σ = (ev cl (.chain x0 x1 x2 x3 x4) σ).bind fun r σ => Out.of (itemsOf r.t) σ := evIt_plain rfl σ
@[simp] theorem evA_ite : evA cl (.cons (.ite x0 x1 x2) es) σ = (ev cl (.ite x0 x1 x2) σ).bind fun r σ => (evA cl es σ).bind fun as σ => .ok (.v r.t :: as) σ := evA_cons rfl σ
@[simp] theorem evO_ite : evO cl (.ite x0 x1 x2) σ = (ev cl (.ite x0 x1 x2) σ).bind R.int1 := evO_some rfl
@[simp] theorem evC_ite : evC cl (.ite x0 x1 x2) σ = (ev cl (.ite x0 x1 x2) σ).bind R.bool := evC_some rfl
@[simp] theorem evIt_ite : evIt cl (.ite x0 x1 x2) σ = (ev cl (.ite x0 x1 x2) σ).bind fun r σ => Out.of (itemsOf r.t) σ := evIt_plain rfl σ
@[simp] theorem evA_call : evA cl (.cons (.call x0 x1) es) σ = (ev cl (.call x0 x1) σ).bind fun r σ => (evA cl es σ).bind fun as σ => .ok (.v r.t :: as) σ := evA_cons rfl σ
@[simp] theorem evO_call : evO cl (.call x0 x1) σ = (ev cl (.call x0 x1) σ).bind R.int1 := evO_some rfl
@[simp] theorem evC_call : evC cl (.call x0 x1) σ = (ev cl (.call x0 x1) σ).bind R.bool := evC_some rfl
@[simp] theorem evIt_call : evIt cl (.call x0 x1) σ = (ev cl (.call x0 x1) σ).bind fun r σ => Out.of (itemsOf r.t) σ := evIt_plain rfl σ
@[simp] theorem evA_callk : evA cl (.cons (.callk x0 x1 x2) es) σ = (ev cl (.callk x0 x1 x2) σ).bind fun r σ => (evA cl es σ).bind fun as σ => .ok (.v r.t :: as) σ := evA_cons rfl σ
@[simp] theorem evO_callk : evO cl (.callk x0 x1 x2) σ = (ev cl (.callk x0 x1 x2) σ).bind R.int1 := evO_some rfl
@[simp] theorem evC_callk : evC cl (.callk x0 x1 x2) σ = (ev cl (.callk x0 x1 x2) σ).bind R.bool := evC_some rfl
@[simp] theorem evIt_callk : evIt cl (.callk x0 x1 x2) σ = (ev cl (.callk x0 x1 x2) σ).bind fun r σ => Out.of (itemsOf r.t) σ := evIt_plain rfl σ
@[simp] theorem evA_bi : evA cl (.cons (.bi x0 x1) es) σ = (ev cl (.bi x0 x1) σ).bind fun r σ => (evA cl es σ).bind fun as σ => .ok (.v r.t :: as) σ := evA_cons rfl σ
@[simp] theorem evO_bi : evO cl (.bi x0 x1) σ = (ev cl (.bi x0 x1) σ).bind R.int1 := evO_some rfl
@[simp] theorem evC_bi : evC cl (.bi x0 x1) σ = (ev cl (.bi x0 x1) σ).bind R.bool := evC_some rfl
@[simp] theorem evIt_bi : evIt cl (.bi x0 x1) σ = (ev cl (.bi x0 x1) σ).bind fun r σ => Out.of (itemsOf r.t) σ := evIt_plain rfl σ
@[simp] theorem evA_isi : evA cl (.cons (.isi x0 x1) es) σ = (ev cl (.isi x0 x1) σ).bind fun r σ => (evA cl es σ).bind fun as σ => .ok (.v r.t :: as) σ := evA_cons rfl σ
@[simp] theorem evO_isi : evO cl (.isi x0 x1) σ = (ev cl (.isi x0 x1) σ).bind R.int1 := evO_some rfl
@[simp] theorem evC_isi : evC cl (.isi x0 x1) σ = (ev cl (.isi x0 x1) σ).bind R.bool := evC_some rfl
@[simp] theorem evIt_isi : evIt cl (.isi x0 x1) σ = (ev cl (.isi x0 x1) σ).bind fun r σ => Out.of (itemsOf r.t) σ := evIt_plain rfl σ
@[simp] theorem evA_isi2 : evA cl (.cons (.isi2 x0 x1 x2) es) σ = (ev cl (.isi2 x0 x1 x2) σ).bind fun r σ => (evA cl es σ).bind fun as σ => .ok (.v r.t :: as) σ := evA_cons rfl σ
@[simp] theorem evO_isi2 : evO cl (.isi2 x0 x1 x2) σ = (ev cl (.isi2 x0 x1 x2) σ).bind R.int1 := evO_some rfl
@[simp] theorem evC_isi2 : evC cl (.isi2 x0 x1 x2) σ = (ev cl (.isi2 x0 x1 x2) σ).bind R.bool := evC_some rfl
@[simp] theorem evIt_isi2 : evIt cl (.isi2 x0 x1 x2) σ = (ev cl (.isi2 x0 x1 x2) σ).bind fun r σ => Out.of (itemsOf r.t) σ := evIt_plain rfl σ
@[simp] theorem evA_ix : evA cl (.cons (.ix x0 x1) es) σ = (ev cl (.ix x0 x1) σ).bind fun r σ => (evA cl es σ).bind fun as σ => .ok (.v r.t :: as) σ := evA_cons rfl σ
@[simp] theorem evO_ix : evO cl (.ix x0 x1) σ = (ev cl (.ix x0 x1) σ).bind R.int1 := evO_some rfl
@[simp] theorem evC_ix : evC cl (.ix x0 x1) σ = (ev cl (.ix x0 x1) σ).bind R.bool := evC_some rfl
@[simp] theorem evIt_ix : evIt cl (.ix x0 x1) σ = (ev cl (.ix x0 x1) σ).bind fun r σ => Out.of (itemsOf r.t) σ := evIt_plain rfl σ
@[simp] theorem evA_slice : evA cl (.cons (.slice x0 x1 x2) es) σ = (ev cl (.slice x0 x1 x2) σ).bind fun r σ => (evA cl es σ).bind fun as σ => .ok (.v r.t :: as) σ := evA_cons rfl σ
@[simp] theorem evO_slice : evO cl (.slice x0 x1 x2) σ = (ev cl (.slice x0 x1 x2) σ).bind R.int1 := evO_some rfl
@[simp] theorem evC_slice : evC cl (.slice x0 x1 x2) σ = (ev cl (.slice x0 x1 x2) σ).bind R.bool := evC_some rfl
@[simp] theorem evIt_slice : evIt cl (.slice x0 x1 x2) σ = (ev cl (.slice x0 x1 x2) σ).bind fun r σ => Out.of (itemsOf r.t) σ := evIt_plain rfl σ
@[simp] theorem evA_pr1 : evA cl (.cons (.pr1 x0 x1) es) σ = (ev cl (.pr1 x0 x1) σ).bind fun r σ => (evA cl es σ).bind fun as σ => .ok (.v r.t :: as) σ := evA_cons rfl σ
@[simp] theorem evO_pr1 : evO cl (.pr1 x0 x1) σ = (ev cl (.pr1 x0 x1) σ).bind R.int1 := evO_some rfl
@[simp] theorem evC_pr1 : evC cl (.pr1 x0 x1) σ = (ev cl (.pr1 x0 x1) σ).bind R.bool := evC_some rfl
@[simp] theorem evIt_pr1 : evIt cl (.pr1 x0 x1) σ = (ev cl (.pr1 x0 x1) σ).bind fun r σ => Out.of (itemsOf r.t) σ := evIt_plain rfl σ
@[simp] theorem evA_pr2 : evA cl (.cons (.pr2 x0 x1 x2) es) σ = (ev cl (.pr2 x0 x1 x2) σ).bind fun r σ => (evA cl es σ).bind fun as σ => .ok (.v r.t :: as) σ := evA_cons rfl σ
@[simp] theorem evO_pr2 : evO cl (.pr2 x0 x1 x2) σ = (ev cl (.pr2 x0 x1 x2) σ).bind R.int1 := evO_some rfl
@[simp] theorem evC_pr2 : evC cl (.pr2 x0 x1 x2) σ = (ev cl (.pr2 x0 x1 x2) σ).bind R.bool := evC_some rfl
@[simp] theorem evIt_pr2 : evIt cl (.pr2 x0 x1 x2) σ = (ev cl (.pr2 x0 x1 x2) σ).bind fun r σ => Out.of (itemsOf r.t) σ := evIt_plain rfl σ
@[simp] theorem evA_comp : evA cl (.cons (.comp x0 x1 x2 x3 x4 x5) es) σ = (ev cl (.comp x0 x1 x2 x3 x4 x5) σ).bind fun r σ => (evA cl es σ).bind fun as σ => .ok (.v r.t :: as) σ := evA_cons rfl σ
@[simp] theorem evO_comp : evO cl (.comp x0 x1 x2 x3 x4 x5) σ = (ev cl (.comp x0 x1 x2 x3 x4 x5) σ).bind R.int1 := evO_some rfl
@[simp] theorem evC_comp : evC cl (.comp x0 x1 x2 x3 x4 x5) σ = (ev cl (.comp x0 x1 x2 x3 x4 x5) σ).bind R.bool := evC_some rfl
@[simp] theorem evIt_comp : evIt cl (.comp x0 x1 x2 x3 x4 x5) σ = (ev cl (.comp x0 x1 x2 x3 x4 x5) σ).bind fun r σ => Out.of (itemsOf r.t) σ := evIt_plain rfl σ
@[simp] theorem evA_comp2 : evA cl (.cons (.comp2 x0 x1 x2 x3 x4 x5 x6 x7) es) σ = (ev cl (.comp2 x0 x1 x2 x3 x4 x5 x6 x7) σ).bind fun r σ => (evA cl es σ).bind fun as σ => .ok (.v r.t :: as) σ := evA_cons rfl σ
@[simp] theorem evO_comp2 : evO cl (.comp2 x0 x1 x2 x3 x4 x5 x6 x7) σ = (ev cl (.comp2 x0 x1 x2 x3 x4 x5 x6 x7) σ).bind R.int1 := evO_some rfl
@[simp] theorem evC_comp2 : evC cl (.comp2 x0 x1 x2 x3 x4 x5 x6 x7) σ = (ev cl (.comp2 x0 x1 x2 x3 x4 x5 x6 x7) σ).bind R.bool := evC_some rfl
@[simp] theorem evIt_comp2 : evIt cl (.comp2 x0 x1 x2 x3 x4 x5 x6 x7) σ = (ev cl (.comp2 x0 x1 x2 x3 x4 x5 x6 x7) σ).bind fun r σ => Out.of (itemsOf r.t) σ := evIt_plain rfl σ
@[simp] theorem evA_bor : evA cl (.cons (.bor x0) es) σ = (ev cl (.bor x0) σ).bind fun r σ => (evA cl es σ).bind fun as σ => .ok (.v r.t :: as) σ := evA_cons rfl σ
@[simp] theorem evO_bor : evO cl (.bor x0) σ = (ev cl (.bor x0) σ).bind R.int1 := evO_some rfl
@[simp] theorem evC_bor : evC cl (.bor x0) σ = (ev cl (.bor x0) σ).bind R.bool := evC_some rfl
@[simp] theorem evIt_bor : evIt cl (.bor x0) σ = (ev cl (.bor x0) σ).bind fun r σ => Out.of (itemsOf r.t) σ := evIt_plain rfl σ
@[simp] theorem evA_isc : evA cl (.cons (.isc x0 x1 x2) es) σ = (ev cl (.isc x0 x1 x2) σ).bind fun r σ => (evA cl es σ).bind fun as σ => .ok (.v r.t :: as) σ := evA_cons rfl σ
@[simp] theorem evO_isc : evO cl (.isc x0 x1 x2) σ = (ev cl (.isc x0 x1 x2) σ).bind R.int1 := evO_some rfl
@[simp] theorem evC_isc : evC cl (.isc x0 x1 x2) σ = (ev cl (.isc x0 x1 x2) σ).bind R.bool := evC_some rfl
@[simp] theorem evIt_isc : evIt cl (.isc x0 x1 x2) σ = (ev cl (.isc x0 x1 x2) σ).bind fun r σ => Out.of (itemsOf r.t) σ := evIt_plain rfl σ
@[simp] theorem evA_isv : evA cl (.cons (.isv x0) es) σ = (ev cl (.isv x0) σ).bind fun r σ => (evA cl es σ).bind fun as σ => .ok (.v r.t :: as) σ := evA_cons rfl σ
@[simp] theorem evO_isv : evO cl (.isv x0) σ = (ev cl (.isv x0) σ).bind R.int1 := evO_some rfl
@[simp] theorem evC_isv : evC cl (.isv x0) σ = (ev cl (.isv x0) σ).bind R.bool := evC_some rfl
@[simp] theorem evIt_isv : evIt cl (.isv x0) σ = (ev cl (.isv x0) σ).bind fun r σ => Out.of (itemsOf r.t) σ := evIt_plain rfl σ
@[simp] theorem evA_xval : evA cl (.cons (.xval x0) es) σ = (ev cl (.xval x0) σ).bind fun r σ => (evA cl es σ).bind fun as σ => .ok (.v r.t :: as) σ := evA_cons rfl σ
@[simp] theorem evO_xval : evO cl (.xval x0) σ = (ev cl (.xval x0) σ).bind R.int1 := evO_some rfl
@[simp] theorem evC_xval : evC cl (.xval x0) σ = (ev cl (.xval x0) σ).bind R.bool := evC_some rfl
@[simp] theorem evIt_xval : evIt cl (.xval x0) σ = (ev cl (.xval x0) σ).bind fun r σ => Out.of (itemsOf r.t) σ := evIt_plain rfl σ
@[simp] theorem evA_callv : evA cl (.cons (.callv x0 x1 x2) es) σ = (ev cl (.callv x0 x1 x2) σ).bind fun r σ => (evA cl es σ).bind fun as σ => .ok (.v r.t :: as) σ := evA_cons rfl σ
@[simp] theorem evO_callv : evO cl (.callv x0 x1 x2) σ = (ev cl (.callv x0 x1 x2) σ).bind R.int1 := evO_some rfl
@[simp] theorem evC_callv : evC cl (.callv x0 x1 x2) σ = (ev cl (.callv x0 x1 x2) σ).bind R.bool := evC_some rfl
@[simp] theorem evIt_callv : evIt cl (.callv x0 x1 x2) σ = (ev cl (.callv x0 x1 x2) σ).bind fun r σ => Out.of (itemsOf r.t) σ := evIt_plain rfl σ
@[simp] theorem evA_dlit : evA cl (.cons (.dlit x0 x1 x2) es) σ = (ev cl (.dlit x0 x1 x2) σ).bind fun r σ => (evA cl es σ).bind fun as σ => .ok (.v r.t :: as) σ := evA_cons rfl σ
@[simp] theorem evO_dlit : evO cl (.dlit x0 x1 x2) σ = (ev cl (.dlit x0 x1 x2) σ).bind R.int1 := evO_some rfl
@[simp] theorem evC_dlit : evC cl (.dlit x0 x1 x2) σ = (ev cl (.dlit x0 x1 x2) σ).bind R.bool := evC_some rfl
@[simp] theorem evIt_dlit : evIt cl (.dlit x0 x1 x2) σ = (ev cl (.dlit x0 x1 x2) σ).bind fun r σ => Out.of (itemsOf r.t) σ := evIt_plain rfl σ
@[simp] theorem evA_lcp : evA cl (.cons (.lcp x0) es) σ = (ev cl (.lcp x0) σ).bind fun r σ => (evA cl es σ).bind fun as σ => .ok (.v r.t :: as) σ := evA_cons rfl σ
@[simp] theorem evO_lcp : evO cl (.lcp x0) σ = (ev cl (.lcp x0) σ).bind R.int1 := evO_some rfl
@[simp] theorem evC_lcp : evC cl (.lcp x0) σ = (ev cl (.lcp x0) σ).bind R.bool := evC_some rfl
@[simp] theorem evIt_lcp : evIt cl (.lcp x0) σ = (ev cl (.lcp x0) σ).bind fun r σ => Out.of (itemsOf r.t) σ := evIt_plain rfl σ
@[simp] theorem evS_1 : evS cl (.nil) σ = .nx σ := by
  first | (simp only [evS]; done) | (simp only [evS] <;> rfl)
@[simp] theorem evS_2 : evS cl (.pass) σ = .nx σ := by
  first | (simp only [evS]; done) | (simp only [evS] <;> rfl)
@[simp] theorem evS_3 : evS cl (.seq a b) σ = (evS cl a σ).thn fun σ => evS cl b σ := by
  first | (simp only [evS]; done) | (simp only [evS] <;> rfl)
@[simp] theorem evS_4 : evS cl (.set i e) σ = (ev cl e σ).fl fun r σ => .of (put i r σ) := by
  first | (simp only [evS]; done) | (simp only [evS] <;> rfl)
@[simp] theorem evS_5 : evS cl (.setT is e) σ = (ev cl e σ).fl fun r σ => .of (r.parts.bind fun ms => putsM is ms σ) := by
  first | (simp only [evS]; done) | (simp only [evS] <;> rfl)
@[simp] theorem evS_6 : evS cl (.par is es) σ = (evM cl es σ).fl fun ms σ => .of (putsM is ms σ) := by
  first | (simp only [evS]; done) | (simp only [evS] <;> rfl)
@[simp] theorem evS_7 : evS cl (.setIx i k e) σ = (ev cl e σ).fl fun r σ => if (slotT σ[i]?).isSome then (ev cl k σ).fl fun k σ => .of (upS i (M.putIx k.t r.m) σ) else .fail := by
  first | (simp only [evS]; done) | (simp only [evS] <;> rfl)
@[simp] theorem evS_8 : evS cl (.setAt i p k e) σ = (ev cl e σ).fl fun r σ => if isC σ[i]? then (ev cl p σ).fl fun p σ => if isK p.t σ[i]? then (evH cl i k σ).fl fun k σ => .of (upS i (M.mod (M.putIx k.t r.m) p.t) σ) else .fail else .fail := by
  first | (simp only [evS]; done) | (simp only [evS] <;> rfl)
@[simp] theorem evS_9 : evS cl (.augIx i k op e) σ = if isL σ[i]? then (ev cl k σ).fl fun k σ => match k.t, slotT σ[i]? with
    | .int j, some (.lst ts) => match atI ts j with
      | some (.int a) => (ev cl e σ).fl fun r σ => match r.t with
        | .int b => .of (upS i (M.putIx (.int j) (.fr (.int (a + b)))) σ)
        | _ => .fail
      | _ => .fail
    | _, _ => .fail
    else .fail := by
  first | (simp only [evS]; done) | (simp only [evS] <;> rfl)
@[simp] theorem evS_10 : evS cl (.expr e) σ = (ev cl e σ).fl fun _ σ => .nx σ := by
  first | (simp only [evS]; done) | (simp only [evS] <;> rfl)
@[simp] theorem evS_11 : evS cl (.app i e) σ = if isL σ[i]? then (ev cl e σ).fl fun r σ => .of (upS i (M.app r.m) σ) else .fail := by
  first | (simp only [evS]; done) | (simp only [evS] <;> rfl)
@[simp] theorem evS_12 : evS cl (.appAt i p e) σ = if isC σ[i]? then (ev cl p σ).fl fun p σ => if isKL p.t σ[i]? then (evH cl i e σ).fl fun r σ => .of (upS i (M.mod (M.app r.m) p.t) σ) else .fail else .fail := by
  first | (simp only [evS]; done) | (simp only [evS] <;> rfl)
@[simp] theorem evS_13 : evS cl (.sdApp i k e) σ = if isD σ[i]? then (ev cl k σ).fl fun k σ => onF (upS i (M.sdDef k.t) σ) fun σ => if isKL k.t σ[i]? then (evH cl i e σ).fl fun r σ => .of (upS i (M.mod (M.app r.m) k.t) σ) else .fail else .fail := by
  first | (simp only [evS]; done) | (simp only [evS] <;> rfl)
@[simp] theorem evS_14 : evS cl (.ret e) σ = (ev cl e σ).fl fun r σ => .rt r σ := by
  first | (simp only [evS]; done) | (simp only [evS] <;> rfl)
@[simp] theorem evS_15 : evS cl (.retN) σ = .rt (.val .non) σ := by
  first | (simp only [evS]; done) | (simp only [evS] <;> rfl)
@[simp] theorem evS_16 : evS cl (.iff c a b) σ = (ev cl c σ).fl fun r σ => iffF r (evS cl a σ) (evS cl b σ) := by
  first | (simp only [evS]; done) | (simp only [evS] <;> rfl)
@[simp] theorem evS_17 : evS cl (.for tg it b) σ = (evIt cl it σ).fl fun ts σ => evF (fun t σ => onF (tg.put t σ) fun σ => evS cl b σ) ts σ := by
  first | (simp only [evS]; done) | (simp only [evS] <;> rfl)
@[simp] theorem evS_18 : evS cl (.while c b) σ = evW (ev cl c) (evS cl b) fuel σ := by
  first | (simp only [evS]; done) | (simp only [evS] <;> rfl)
@[simp] theorem evS_19 : evS cl (.brk) σ = .bk σ := by
  first | (simp only [evS]; done) | (simp only [evS] <;> rfl)
@[simp] theorem evS_20 : evS cl (.cnt) σ = .ct σ := by
  first | (simp only [evS]; done) | (simp only [evS] <;> rfl)
@[simp] theorem evS_21 : evS cl (.never) σ = .fail := by
  first | (simp only [evS]; done) | (simp only [evS] <;> rfl)
@[simp] theorem evS_22 : evS cl (.raise c e) σ = (ev cl e σ).fl fun r σ => .ex c r.t σ := by
  first | (simp only [evS]; done) | (simp only [evS] <;> rfl)
@[simp] theorem evS_23 : evS cl (.tryS b n k) σ = tryF n k (evS cl b σ) := by
  first | (simp only [evS]; done) | (simp only [evS] <;> rfl)
end
end PY
set_option Elab.async false
set_option linter.all false
set_option maxRecDepth 100000
set_option maxHeartbeats 400000
/-! # PlainOps: operators on plain data, case by case -/
namespace PY
open PySem L2
section
variable {t u : T} {ts us : List T} {i j : Int} {b c : Bool} {x y : Str} {ks : List Ky} {ns ms : List Int}
@[simp] theorem isTy_non_int : T.isTy .non .int = some false := (rfl)
@[simp] theorem isTy_non_bool : T.isTy .non .bool = some false := (rfl)
@[simp] theorem isTy_non_str : T.isTy .non .str = some false := (rfl)
@[simp] theorem isTy_non_list : T.isTy .non .list = some false := (rfl)
@[simp] theorem isTy_non_tuple : T.isTy .non .tuple = some false := (rfl)
@[simp] theorem isTy_non_dict : T.isTy .non .dict = some false := (rfl)
@[simp] theorem isTy_bl_int : T.isTy (.bl b) .int = some true := (rfl)
@[simp] theorem isTy_bl_bool : T.isTy (.bl b) .bool = some true := (rfl)
@[simp] theorem isTy_bl_str : T.isTy (.bl b) .str = some false := (rfl)
@[simp] theorem isTy_bl_list : T.isTy (.bl b) .list = some false := (rfl)
@[simp] theorem isTy_bl_tuple : T.isTy (.bl b) .tuple = some false := (rfl)
@[simp] theorem isTy_bl_dict : T.isTy (.bl b) .dict = some false := (rfl)
@[simp] theorem isTy_int_int : T.isTy (.int i) .int = some true := (rfl)
@[simp] theorem isTy_int_bool : T.isTy (.int i) .bool = some false := (rfl)
@[simp] theorem isTy_int_str : T.isTy (.int i) .str = some false := (rfl)
@[simp] theorem isTy_int_list : T.isTy (.int i) .list = some false := (rfl)
@[simp] theorem isTy_int_tuple : T.isTy (.int i) .tuple = some false := (rfl)
@[simp] theorem isTy_int_dict : T.isTy (.int i) .dict = some false := (rfl)
@[simp] theorem isTy_str_int : T.isTy (.str x) .int = some false := (rfl)
@[simp] theorem isTy_str_bool : T.isTy (.str x) .bool = some false := (rfl)
@[simp] theorem isTy_str_str : T.isTy (.str x) .str = some true := (rfl)
@[simp] theorem isTy_str_list : T.isTy (.str x) .list = some false := (rfl)
@[simp] theorem isTy_str_tuple : T.isTy (.str x) .tuple = some false := (rfl)
@[simp] theorem isTy_str_dict : T.isTy (.str x) .dict = some false := (rfl)
@[simp] theorem isTy_lst_int : T.isTy (.lst ts) .int = some false := (rfl)
@[simp] theorem isTy_lst_bool : T.isTy (.lst ts) .bool = some false := (rfl)
@[simp] theorem isTy_lst_str : T.isTy (.lst ts) .str = some false := (rfl)
@[simp] theorem isTy_lst_list : T.isTy (.lst ts) .list = some true := (rfl)
@[simp] theorem isTy_lst_tuple : T.isTy (.lst ts) .tuple = some false := (rfl)
@[simp] theorem isTy_lst_dict : T.isTy (.lst ts) .dict = some false := (rfl)
@[simp] theorem isTy_tup_int : T.isTy (.tup ts) .int = some false := (rfl)
@[simp] theorem isTy_tup_bool : T.isTy (.tup ts) .bool = some false := (rfl)
@[simp] theorem isTy_tup_str : T.isTy (.tup ts) .str = some false := (rfl)
@[simp] theorem isTy_tup_list : T.isTy (.tup ts) .list = some false := (rfl)
@[simp] theorem isTy_tup_tuple : T.isTy (.tup ts) .tuple = some true := (rfl)
@[simp] theorem isTy_tup_dict : T.isTy (.tup ts) .dict = some false := (rfl)
@[simp] theorem isTy_dK_int : T.isTy (.dK ks ts) .int = some false := (rfl)
@[simp] theorem isTy_dK_bool : T.isTy (.dK ks ts) .bool = some false := (rfl)
@[simp] theorem isTy_dK_str : T.isTy (.dK ks ts) .str = some false := (rfl)
@[simp] theorem isTy_dK_list : T.isTy (.dK ks ts) .list = some false := (rfl)
@[simp] theorem isTy_dK_tuple : T.isTy (.dK ks ts) .tuple = some false := (rfl)
@[simp] theorem isTy_dK_dict : T.isTy (.dK ks ts) .dict = some true := (rfl)
@[simp] theorem isTy_scr_int : T.isTy (.scr ns) .int = some false := (rfl)
@[simp] theorem isTy_scr_bool : T.isTy (.scr ns) .bool = some false := (rfl)
@[simp] theorem isTy_scr_str : T.isTy (.scr ns) .str = some false := (rfl)
@[simp] theorem isTy_scr_list : T.isTy (.scr ns) .list = some true := (rfl)
@[simp] theorem isTy_scr_tuple : T.isTy (.scr ns) .tuple = some false := (rfl)
@[simp] theorem isTy_scr_dict : T.isTy (.scr ns) .dict = some false := (rfl)
@[simp] theorem isT_non_non : isT .non .non = some true := (rfl)
@[simp] theorem isT_non_bl : isT .non (.bl c) = some false := (rfl)
@[simp] theorem isT_bl_non : isT (.bl b) .non = some false := (rfl)
@[simp] theorem isT_int_non : isT (.int i) .non = some false := (rfl)
@[simp] theorem isT_int_bl : isT (.int i) (.bl c) = some false := (rfl)
@[simp] theorem isT_str_non : isT (.str x) .non = some false := (rfl)
@[simp] theorem isT_str_bl : isT (.str x) (.bl c) = some false := (rfl)
@[simp] theorem isT_lst_non : isT (.lst ts) .non = some false := (rfl)
@[simp] theorem isT_lst_bl : isT (.lst ts) (.bl c) = some false := (rfl)
@[simp] theorem isT_tup_non : isT (.tup ts) .non = some false := (rfl)
@[simp] theorem isT_tup_bl : isT (.tup ts) (.bl c) = some false := (rfl)
@[simp] theorem isT_dK_non : isT (.dK ks ts) .non = some false := (rfl)
@[simp] theorem isT_bl_bl : isT (.bl b) (.bl c) = some (decide (b = c)) := (rfl)
@[simp] theorem cop_eq : cop .eq t u = teq t u := (rfl)
@[simp] theorem cop_ne : cop .ne t u = (teq t u).map (!·) := (rfl)
@[simp] theorem cop_is : cop .is t u = isT t u := by cases t <;> cases u <;> rfl
@[simp] theorem cop_isnot : cop .isnot t u = (isT t u).map (!·) := by cases t <;> cases u <;> rfl
@[simp] theorem cop_mem : cop .mem t u = tmem t u := by cases t <;> cases u <;> rfl
@[simp] theorem cop_nmem : cop .nmem t u = (tmem t u).map (!·) := by cases t <;> cases u <;> rfl
@[simp] theorem cop_lt : cop .lt (.int i) (.int j) = some (decide (i < j)) := (rfl)
@[simp] theorem cop_le : cop .le (.int i) (.int j) = some (decide (i ≤ j)) := (rfl)
@[simp] theorem cop_gt : cop .gt (.int i) (.int j) = some (decide (j < i)) := (rfl)
@[simp] theorem cop_ge : cop .ge (.int i) (.int j) = some (decide (j ≤ i)) := (rfl)
@[simp] theorem teq_int : teq (.int i) (.int j) = some (i == j) := (rfl)
theorem teq_str (hx : PyData.canLay0 (.str x) = true) (hy : PyData.canLay0 (.str y) = true) : teq (.str x) (.str y) = some (x == y) := by
  unfold teq
  simp only [T.pd, SeqAt.shaped, hx, hy, PyData.depth, PyData.eqv]
  rfl
@[simp] theorem bop_add_int : bop .add (.int i) (.int j) = some (.int (i + j)) := (rfl)
@[simp] theorem bop_sub_int : bop .sub (.int i) (.int j) = some (.int (i - j)) := (rfl)
theorem bop_add_lst (h : ts.length + us.length ≤ sizeLine) : bop .add (.lst ts) (.lst us) = some (.lst (ts ++ us)) := if_pos h
theorem bop_add_str (h : x.length + y.length ≤ sizeLine) : bop .add (.str x) (.str y) = some (.str (x ++ y)) := if_pos h
theorem bop_mul_int (h : mulOk i j = true) : bop .mul (.int i) (.int j) = some (.int (i * j)) := if_pos h
theorem bop_mod_int (h : 0 < j) : bop .mod (.int i) (.int j) = some (.int (i % j)) := if_pos h
theorem bop_fdiv_int (h : 0 < j) (h' : j < 1073741824) : bop .fdiv (.int i) (.int j) = some (.int (i / j)) := if_pos ⟨h, h'⟩
@[simp] theorem tix_lst : tix (.lst ts) (.int i) = atI ts i := (rfl)
@[simp] theorem tix_tup : tix (.tup ts) (.int i) = atI ts i := (rfl)
@[simp] theorem tix_scr : tix (.scr ns) (.int i) = (atI ns i).map .int := (rfl)
theorem tix_str (h : x.length ≤ sizeLine) : tix (.str x) (.int i) = (atI x.cps.toList i).map fun c => .str ⟨#[c]⟩ := if_pos h
@[simp] theorem tmem_str : tmem (.str x) (.str y) = some (!(Builtin.Str.occurrences y x 0 y.length 1).isEmpty) := (rfl)
@[simp] theorem tsl_lst {l h : Option Int} : tsl (.lst ts) l h = some (.lst (cutT ts l h)) := (rfl)
@[simp] theorem tsl_scr {l h : Option Int} : tsl (.scr ns) l h = some (.lst ((cutT ns l h).map .int)) := (rfl)
@[simp] theorem bi_len_lst : bi .len [.lst ts] = some (.int ts.length) := (rfl)
@[simp] theorem bi_len_tup : bi .len [.tup ts] = some (.int ts.length) := (rfl)
@[simp] theorem bi_len_scr : bi .len [.scr ns] = some (.int ns.length) := (rfl)
@[simp] theorem bi_int_int : bi .int [.int i] = some (.int i) := (rfl)
@[simp] theorem bi_int_bl : bi .int [.bl b] = some (.int (if b then 1 else 0)) := (rfl)
@[simp] theorem bi_sum : bi .sum [.lst ts] = (intsOf ts).map fun ns => .int ns.sum := (rfl)
@[simp] theorem bi_all : bi .all [.lst ts] = (blsOf ts).map fun bs => .bl (bs.all id) := (rfl)
@[simp] theorem bi_any : bi .any [.lst ts] = (blsOf ts).map fun bs => .bl (bs.any id) := (rfl)
@[simp] theorem bi_list_lst : bi .list [.lst ts] = some (.lst ts) := (rfl)
@[simp] theorem bi_list_tup : bi .list [.tup ts] = some (.lst ts) := (rfl)
@[simp] theorem bi_tuple_lst : bi .tuple [.lst ts] = some (.tup ts) := (rfl)
@[simp] theorem bi_tuple_tup : bi .tuple [.tup ts] = some (.tup ts) := (rfl)
@[simp] theorem bi_min2 : bi .min2 [.int i, .int j] = some (.int (if j < i then j else i)) := (rfl)
@[simp] theorem bi_max2 : bi .max2 [.int i, .int j] = some (.int (if j > i then j else i)) := (rfl)
@[simp] theorem bi_abs : bi .abs [.int i] = some (.int (if i < 0 then -i else i)) := (rfl)
@[simp] theorem bi_repr : bi .repr [t] = (shown? t).map .str := by cases t <;> rfl
@[simp] theorem bi_maxL : bi .maxL [.lst ts] = (intsOf ts).bind fun ns => ns.max?.map .int := (rfl)
@[simp] theorem bi_minL : bi .minL [.lst ts] = (intsOf ts).bind fun ns => ns.min?.map .int := (rfl)
theorem pf1_sset (h : intsOf ts = some ns) (h1 : ns.length < 4095) (h2 : (sortD ns).length < 64) : pf1 .sset (.lst ts) = some (.lst ((sortD ns).map .int)) := by
  show ((intsOf ts).bind fun ns => if ns.length < 4095 ∧ (sortD ns).length < 64 then some (T.lst ((sortD ns).map .int)) else none) = _
  rw [h, Option.bind_some, if_pos ⟨h1, h2⟩]
theorem pf1_lrng (h : big i = true) (h' : i.toNat ≤ sizeLine) : pf1 .lrng (.int i) = some (.lst (rangeT 0 i.toNat)) := if_pos ⟨h, h'⟩
@[simp] theorem pf2_count : pf2 .count (.lst ts) (.int i) = (intsOf ts).map fun ns => .int (ns.count i) := (rfl)
@[simp] theorem pre2_count : pre2 .count (.lst ts) = true := (rfl)
@[simp] theorem zipS_lst : zipS false (.lst ts) (.lst us) = some (zipT ts us) := by simp [zipS]
@[simp] theorem zipS_tup : zipS false (.tup ts) (.tup us) = some (zipT ts us) := by simp [zipS]
@[simp] theorem keyOf_int : keyOf (.int i) = some (.inl i) := (rfl)
@[simp] theorem keyOf_str : keyOf (.str x) = some (.inr x) := (rfl)
end
end PY
set_option Elab.async false
set_option linter.all false
set_option maxRecDepth 100000
set_option maxHeartbeats 400000
/-! # PlainLib: the evaluator on plain data, step by step -/
namespace PY
open PySem L2

def eP (p : Int × Int) : T := .tup [.int p.1, .int p.2]
def eC (p : Nat × Nat) : T := .tup [.int p.1, .int p.2]
def eIs (l : List Int) : T := .lst (l.map .int)
def eLn (l : List (Nat × Nat)) : T := .lst (l.map eC)
def eLns (l : List (List (Nat × Nat))) : T := .lst (l.map eLn)
def ePic (p : List (List Int)) : T := .lst (p.map eIs)
theorem evL_map {α : Type} {F : T → Sig → Out (List M)} {f : α → T} {g : α → M} {σ : Sig} : ∀ {xs : List α}, (∀ x ∈ xs, F (f x) σ = .ok [g x] σ) → evL F (xs.map f) σ = .ok (xs.map g) σ
  | [], _ => rfl
  | x :: xs, h => by
    show (F (f x) σ).bind _ = _
    rw [h x List.mem_cons_self, Out.bind_ok, evL_map (xs := xs) fun y hy => h y (List.mem_cons_of_mem _ hy)]
    rfl
theorem evL_inv {α : Type} {F : T → Sig → Out (List M)} {f : α → T} {g : α → M} {I : Sig → Prop} : ∀ {xs : List α} {σ : Sig}, I σ → (∀ x ∈ xs, ∀ σ, I σ → ∃ σ', F (f x) σ = .ok [g x] σ' ∧ I σ') → ∃ σ', evL F (xs.map f) σ = .ok (xs.map g) σ' ∧ I σ'
  | [], σ, h, _ => ⟨σ, rfl, h⟩
  | x :: xs, σ, h, k => by
    obtain ⟨σ1, e1, h1⟩ := k x List.mem_cons_self σ h
    obtain ⟨σ2, e2, h2⟩ := evL_inv (xs := xs) h1 fun y hy => k y (List.mem_cons_of_mem _ hy)
    refine ⟨σ2, ?_, h2⟩
    show (F (f x) σ).bind _ = _
    rw [e1, Out.bind_ok, e2]
    rfl
/-- a comprehension's items, the state held by I -/
theorem evL_comp {α : Type} {F : T → Sig → Out (List M)} {f : α → T} {xs : List α} {σ : Sig} {β : Type} {k : List M → Sig → Out β} (g : α → M) (I : Sig → Prop) (P : Out β → Prop) (h0 : I σ) (h : ∀ x ∈ xs, ∀ σ, I σ → ∃ σ', F (f x) σ = .ok [g x] σ' ∧ I σ')
    (hk : ∀ σ', I σ' → P (k (xs.map g) σ')) : P ((evL F (xs.map f) σ).bind k) := by
  obtain ⟨σ', e, hI⟩ := evL_inv h0 h
  rw [e]
  exact hk σ' hI
theorem evL_flat {α : Type} {F : T → Sig → Out (List M)} {f : α → T} {g : α → List M} {σ : Sig} : ∀ {xs : List α}, (∀ x ∈ xs, F (f x) σ = .ok (g x) σ) → evL F (xs.map f) σ = .ok (xs.flatMap g) σ
  | [], _ => rfl
  | x :: xs, h => by
    show (F (f x) σ).bind _ = _
    rw [h x List.mem_cons_self, Out.bind_ok, evL_flat (xs := xs) fun y hy => h y (List.mem_cons_of_mem _ hy)]
    rfl
@[simp] theorem evL_nil {F : T → Sig → Out (List M)} {σ : Sig} : evL F [] σ = .ok [] σ := (rfl)
theorem evL_two {F : T → Sig → Out (List M)} {σ : Sig} {t : T} {ts : List T} : evL F (t :: ts) σ = (F t σ).bind fun a σ => (evL F ts σ).bind fun b σ => .ok (a ++ b) σ := rfl
theorem evL_filter {α : Type} {F : T → Sig → Out (List M)} {f : α → T} {g : α → M} {p : α → Bool} {σ : Sig} : ∀ {xs : List α}, (∀ x ∈ xs, F (f x) σ = .ok (if p x then [g x] else []) σ) → evL F (xs.map f) σ = .ok ((xs.filter p).map g) σ
  | [], _ => rfl
  | x :: xs, h => by
    show (F (f x) σ).bind _ = _
    rw [h x List.mem_cons_self, Out.bind_ok, evL_filter (xs := xs) fun y hy => h y (List.mem_cons_of_mem _ hy)]
    cases hp : p x <;> simp [hp]
theorem evF_fold {α β : Type} {B : T → Sig → Fl} {f : α → T} {I : β → Sig → Prop} {step : β → α → β} : ∀ {xs : List α} {a : β} {σ : Sig}, (∀ x ∈ xs, ∀ a σ, I a σ → ∃ σ', B (f x) σ = .nx σ' ∧ I (step a x) σ') → I a σ → ∃ σ', evF B (xs.map f) σ = .nx σ' ∧ I (xs.foldl step a) σ'
  | [], a, σ, _, h => ⟨σ, rfl, h⟩
  | x :: xs, a, σ, k, h => by
    obtain ⟨σ1, e1, h1⟩ := k x List.mem_cons_self a σ h
    obtain ⟨σ2, e2, h2⟩ := evF_fold (xs := xs) (fun y hy => k y (List.mem_cons_of_mem _ hy)) h1
    refine ⟨σ2, ?_, h2⟩
    show loopF (B (f x) σ) (evF B (xs.map f)) = _
    rw [e1]
    exact e2
theorem evF_pre {α : Type} {B : T → Sig → Fl} {f : α → T} {I : List α → Sig → Prop} {xs : List α} : ∀ {pre post : List α} {σ : Sig}, xs = pre ++ post → I pre σ → (∀ pre x post σ, xs = pre ++ x :: post → I pre σ → ∃ σ', B (f x) σ = .nx σ' ∧ I (pre ++ [x]) σ') →
    ∃ σ', evF B (post.map f) σ = .nx σ' ∧ I xs σ'
  | pre, [], σ, e, h, _ => ⟨σ, rfl, by rw [e, List.append_nil]; exact h⟩
  | pre, x :: post, σ, e, h, k => by
    obtain ⟨σ1, e1, h1⟩ := k pre x post σ e h
    obtain ⟨σ2, e2, h2⟩ := evF_pre (pre := pre ++ [x]) (post := post) (by rw [e]; simp) h1 k
    refine ⟨σ2, ?_, h2⟩
    show loopF (B (f x) σ) (evF B (post.map f)) = _
    rw [e1]
    exact e2
/-- a loop that ends at its end; I: what holds behind a part -/
theorem evF_for {α : Type} {B : T → Sig → Fl} {f : α → T} {xs : List α} {σ : Sig} {k : Sig → Fl} (I : List α → Sig → Prop) (P : Fl → Prop) (h0 : I [] σ) (h : ∀ pre x post σ, xs = pre ++ x :: post → I pre σ → ∃ σ', B (f x) σ = .nx σ' ∧ I (pre ++ [x]) σ')
    (hk : ∀ σ', I xs σ' → P (k σ')) : P ((evF B (xs.map f) σ).thn k) := by
  obtain ⟨σ', e, hI⟩ := evF_pre (B := B) (f := f) (xs := xs) (pre := []) (post := xs) rfl h0 h
  rw [e]
  exact hk σ' hI
/-- it goes on, and J holds -/
def Nx (fl : Fl) (J : Sig → Prop) : Prop := ∃ σ', fl = .nx σ' ∧ J σ'
@[simp] theorem Nx_nx {σ : Sig} {J : Sig → Prop} : Nx (.nx σ) J = J σ := by
  unfold Nx
  refine propext ⟨fun ⟨σ', e, h⟩ => ?_, fun h => ⟨σ, rfl, h⟩⟩
  cases e
  exact h
theorem evF_forN {α : Type} {B : T → Sig → Fl} {f : α → T} {xs : List α} {σ : Sig} {k : Sig → Fl} {J : Sig → Prop} (I : List α → Sig → Prop) (h0 : I [] σ) (h : ∀ pre x post σ, xs = pre ++ x :: post → I pre σ → Nx (B (f x) σ) (I (pre ++ [x])))
    (hk : ∀ σ', I xs σ' → Nx (k σ') J) : Nx ((evF B (xs.map f) σ).thn k) J :=
  evF_for (B := B) (f := f) I (fun fl => Nx fl J) h0 h hk
theorem evL_compN {α : Type} {F : T → Sig → Out (List M)} {f : α → T} {xs : List α} {σ : Sig} {β : Type} {k : List M → Sig → Out β} (g : α → M) (I : Sig → Prop) (P : Out β → Prop) (h0 : I σ) (h : ∀ x ∈ xs, ∀ σ, I σ → ∃ σ', F (f x) σ = .ok [g x] σ' ∧ I σ')
    (hk : ∀ σ', I σ' → P (k (xs.map g) σ')) : P ((evL F (xs.map f) σ).bind k) := by
  obtain ⟨σ', e, hI⟩ := evL_inv h0 h
  rw [e]
  exact hk σ' hI
theorem evF_thn {α β : Type} {B : T → Sig → Fl} {f : α → T} {I : β → Sig → Prop} {step : β → α → β} {xs : List α} {a : β} {σ : Sig} {k : Sig → Fl} (P : Fl → Prop) (h0 : I a σ) (h : ∀ x ∈ xs, ∀ a σ, I a σ → ∃ σ', B (f x) σ = .nx σ' ∧ I (step a x) σ')
    (hk : ∀ σ', I (xs.foldl step a) σ' → P (k σ')) : P ((evF B (xs.map f) σ).thn k) := by
  obtain ⟨σ', e, hI⟩ := evF_fold h h0
  rw [e]
  exact hk σ' hI
theorem foldl_flatMap {α β : Type} (g : α → List β) : ∀ (xs : List α) (a : List β), xs.foldl (fun a x => a ++ g x) a = a ++ xs.flatMap g
  | [], a => by simp
  | x :: xs, a => by rw [List.foldl_cons, foldl_flatMap g xs, List.flatMap_cons, List.append_assoc]
theorem rangeT_eq : ∀ (n lo : Nat), rangeT lo n = (List.range' lo n).map fun i : Nat => T.int i
  | 0, _ => rfl
  | n + 1, lo => by
    rw [rangeT, List.range'_succ, List.map_cons]
    congr 1
    exact rangeT_eq n (lo + 1)
theorem rangeT0 (n : Nat) : rangeT 0 n = (List.range n).map fun i : Nat => T.int i := by
  rw [List.range_eq_range']
  exact rangeT_eq n 0
theorem intsOf_map {α : Type} (f : α → Int) : ∀ xs : List α, intsOf (xs.map fun x => T.int (f x)) = some (xs.map f)
  | [] => rfl
  | x :: xs => by
    show (intsOf _).map _ = _
    rw [intsOf_map f xs]
    rfl
theorem blsOf_map {α : Type} (f : α → Bool) : ∀ xs : List α, blsOf (xs.map fun x => T.bl (f x)) = some (xs.map f)
  | [] => rfl
  | x :: xs => by
    show (blsOf _).map _ = _
    rw [blsOf_map f xs]
    rfl
@[simp] theorem atI_0 {α : Type} {x : α} {xs : List α} : atI (x :: xs) 0 = some x := by
  unfold atI ixN
  rw [if_pos (Int.le_refl 0), if_pos (by simp)]
  rfl
@[simp] theorem atI_1 {α : Type} {x y : α} {xs : List α} : atI (x :: y :: xs) 1 = some y := by
  unfold atI ixN
  rw [if_pos (by omega), if_pos (by simp; omega)]
  rfl
@[simp] theorem atI_2 {α : Type} {x y z : α} {xs : List α} : atI (x :: y :: z :: xs) 2 = some z := by
  unfold atI ixN
  rw [if_pos (by omega), if_pos (by simp; omega)]
  rfl
@[simp] theorem atI_3 {α : Type} {x y z w : α} {xs : List α} : atI (x :: y :: z :: w :: xs) 3 = some w := by
  unfold atI ixN
  rw [if_pos (by omega), if_pos (by simp; omega)]
  rfl
@[simp] theorem atI_4 {α : Type} {x y z w v : α} {xs : List α} : atI (x :: y :: z :: w :: v :: xs) 4 = some v := by
  unfold atI ixN
  rw [if_pos (by omega), if_pos (by simp; omega)]
  rfl
theorem le_line {n : Nat} (h : n ≤ 1000000) : n ≤ sizeLine := by rw [sizeLine_eq]; omega
@[simp] theorem line_0 : (0 ≤ sizeLine) = True := eq_true (Nat.zero_le _)
@[simp] theorem line_1 : (1 ≤ sizeLine) = True := eq_true (le_line (by omega))
@[simp] theorem line_2 : (2 ≤ sizeLine) = True := eq_true (le_line (by omega))
@[simp] theorem line_3 : (3 ≤ sizeLine) = True := eq_true (le_line (by omega))
@[simp] theorem line_4 : (4 ≤ sizeLine) = True := eq_true (le_line (by omega))
@[simp] theorem line_5 : (5 ≤ sizeLine) = True := eq_true (le_line (by omega))
theorem pds_ints : ∀ ns : List Int, T.pds (ns.map .int) = some (ns.map .int)
  | [] => rfl
  | n :: ns => by
    show (match T.pd (.int n), T.pds (ns.map .int) with | some d, some ds => some (d :: ds) | _, _ => none) = _
    rw [pds_ints ns]
    rfl
theorem lay_ints : ∀ ns : List Int, PyData.canLayAll0 (ns.map .int) = true
  | [] => rfl
  | n :: ns => by
    show (PyData.canLay0 (.int n) && PyData.canLayAll0 (ns.map .int)) = true
    rw [lay_ints ns]
    rfl
theorem dep_ints : ∀ ns : List Int, PyData.depthAll (ns.map .int) = 0
  | [] => rfl
  | n :: ns => by
    show max (PyData.depth (.int n)) (PyData.depthAll (ns.map .int)) = 0
    rw [dep_ints ns]
    rfl
theorem tmem_ints (k : Int) (ns : List Int) : tmem (.int k) (.lst (ns.map .int)) = some (decide (k ∈ ns)) := by
  show (match T.pd (.int k), T.pds (ns.map .int) with
    | some x, some ys => if SeqAt.shaped x && SeqAt.shaped (.list ys) then some (ys.any fun z => PyData.eqv z x) else none
    | _, _ => none) = _
  rw [pds_ints]
  have h : (SeqAt.shaped (.int k) && SeqAt.shaped (.list (ns.map .int))) = true := by
    show (SeqAt.shaped (.int k) && (PyData.canLayAll0 (ns.map .int) && decide (PyData.depthAll (ns.map .int) + 1 ≤ 64))) = true
    rw [lay_ints, dep_ints]
    rfl
  show (if (SeqAt.shaped (.int k) && SeqAt.shaped (.list (ns.map .int))) = true then some ((ns.map PyData.int).any fun z => PyData.eqv z (.int k)) else none) = _
  rw [if_pos h]
  congr 1
  rw [Bool.eq_iff_iff, List.any_eq_true, decide_eq_true_eq]
  constructor
  · rintro ⟨z, hz, e⟩
    obtain ⟨i, hi, rfl⟩ := List.mem_map.mp hz
    have : i = k := by simpa [PyData.eqv] using e
    rw [← this]; exact hi
  · intro hk
    exact ⟨.int k, List.mem_map_of_mem hk, by simp [PyData.eqv]⟩
theorem atI_nat' {α : Type} {xs : List α} {j : Nat} : atI xs (j : Int) = xs[j]? := by
  unfold atI ixN
  rw [if_pos (Int.natCast_nonneg j)]
  by_cases h : j < xs.length
  · rw [if_pos (by omega), Option.bind_some, Int.toNat_natCast]
  · rw [if_neg (by omega), Option.bind_none, List.getElem?_eq_none (by omega)]
/-! ### the state's own steps -/
section
variable {σ : Sig} {o : Option W} {i : Nat} {t : T} {m : M} {r : R} {is : List Nat} {j : Option T}
@[simp] theorem R.t_val : (R.val t).t = t := (rfl)
@[simp] theorem R.t_own : (R.own m).t = m.er := (rfl)
@[simp] theorem R.m_val : (R.val t).m = .fr t := (rfl)
@[simp] theorem R.m_own : (R.own m).m = m := (rfl)
@[simp] theorem R.w_val : (R.val t).w = .val t := (rfl)
@[simp] theorem R.w_own : (R.own m).w = .own m := (rfl)
@[simp] theorem M.er_fr : (M.fr t).er = t := (rfl)
@[simp] theorem M.er_lst {ms : List M} : (M.lst ms).er = .lst (ms.map M.er) := by rw [M.er, M.ers_map]
@[simp] theorem M.er_tup {ms : List M} : (M.tup ms).er = .tup (ms.map M.er) := by rw [M.er, M.ers_map]
theorem rd_val (h : (o :: σ)[i]? = some (some (.val t))) : rd i (o :: σ) = .ok (.val t) (o :: σ) := by unfold rd; rw [h]
theorem rd_own (h : (o :: σ)[i]? = some (some (.own m))) : rd i (o :: σ) = .ok (.val m.er) ((o :: σ).set i (some (.val m.er))) := by unfold rd; rw [h]
theorem rd_io (h : (o :: σ)[i]? = some (some (.io m))) : rd i (o :: σ) = .ok (.val m.er) ((o :: σ).set i (some (.val m.er))) := by unfold rd; rw [h]
theorem mvd_own (h : (o :: σ)[i]? = some (some (.own m))) : mvd i (o :: σ) = .ok (.own m) ((o :: σ).set i none) := by unfold mvd; rw [h]
theorem putW_none (h : (o :: σ)[i]? = some none) : PY.put i r (o :: σ) = some ((o :: σ).set i (some r.w)) := by unfold PY.put; rw [h]
theorem putW_val (h : (o :: σ)[i]? = some (some (.val t))) : PY.put i r (o :: σ) = some ((o :: σ).set i (some r.w)) := by unfold PY.put; rw [h]
theorem putW_own (h : (o :: σ)[i]? = some (some (.own m))) : PY.put i r (o :: σ) = some ((o :: σ).set i (some r.w)) := by unfold PY.put; rw [h]
theorem putW_opt (h : (o :: σ)[i]? = some (j.map W.val)) : PY.put i r (o :: σ) = some ((o :: σ).set i (some r.w)) := by
  unfold PY.put; rw [h]
  cases j <;> rfl
/-- a slot that holds fixed data, or nothing -/
def jk (j : Option T) : Option W := j.map W.val
@[simp] theorem jk_val : jk (some t) = some (.val t) := (rfl)
@[simp] theorem jk_none : jk none = none := (rfl)
theorem putW_jk (h : (o :: σ)[i]? = some (jk j)) : PY.put i r (o :: σ) = some ((o :: σ).set i (some r.w)) := putW_opt h
@[simp] theorem hide_nil : hide [] σ = some σ := (rfl)
theorem hide_none (h : (o :: σ)[i]? = some none) : hide (i :: is) (o :: σ) = hide is (o :: σ) := by rw [hide, h]
theorem hide_val (h : (o :: σ)[i]? = some (some (.val t))) : hide (i :: is) (o :: σ) = (hide is (o :: σ)).map fun σ => σ.set i none := by
  rw [hide, h]
theorem hide_keep : ∀ {is : List Nat} {σ σ' : Sig}, σ[i]? = some none → hide is σ = some σ' → σ'[i]? = some none
  | [], σ, σ', h, e => by cases e; exact h
  | l :: is, σ, σ', h, e => by
    unfold hide at e
    split at e
    · exact hide_keep h e
    · simp only [Option.map_eq_some_iff] at e
      obtain ⟨σ2, e1, rfl⟩ := e
      have h2 := hide_keep h e1
      by_cases hl : l = i
      · subst hl
        rw [List.getElem?_set_self (List.getElem?_eq_some_iff.mp h2).1]
      · rw [List.getElem?_set_ne hl]
        exact h2
    · cases e
theorem hide_jk (h : (o :: σ)[i]? = some (jk j)) : hide (i :: is) (o :: σ) = (hide is (o :: σ)).map fun σ => σ.set i none := by
  cases j with
  | some t => exact hide_val h
  | none =>
    rw [hide_none h]
    cases e : hide is (o :: σ) with
    | none => rfl
    | some σ' => exact congrArg some (set_same (hide_keep h e)).symm
/-- the slot takes a value -/
def okPut : Sig → Nat → Bool
  | [], _ => false
  | some (.io _) :: _, 0 => false
  | _ :: _, 0 => true
  | _ :: σ, i + 1 => okPut σ i
@[simp] theorem okPut_s : okPut (o :: σ) (i + 1) = okPut σ i := by cases o with | none => rfl | some w => cases w <;> rfl
@[simp] theorem okPut_n : okPut (none :: σ) 0 = true := (rfl)
@[simp] theorem okPut_v : okPut (some (.val t) :: σ) 0 = true := (rfl)
@[simp] theorem okPut_o : okPut (some (.own m) :: σ) 0 = true := (rfl)
@[simp] theorem okPut_j : okPut (jk j :: σ) 0 = true := by cases j <;> rfl
theorem okPut_ok : ∀ {σ : Sig} {i : Nat}, okPut σ i = true → PY.put i r σ = some (σ.set i (some r.w))
  | [], _, h => by cases h
  | none :: σ, 0, _ => rfl
  | some (.val t) :: σ, 0, _ => rfl
  | some (.own m) :: σ, 0, _ => rfl
  | some (.io m) :: σ, 0, h => by cases h
  | o :: σ, i + 1, h => by
    have ih := okPut_ok (σ := σ) (i := i) (by simpa using h)
    unfold PY.put at ih ⊢
    rw [List.getElem?_cons_succ]
    split at ih <;> rename_i hq <;> first | (cases ih; done) | (rw [hq]; simpa using ih)
theorem putS (h : okPut (o :: σ) i = true) : PY.put i r (o :: σ) = some ((o :: σ).set i (some r.w)) := okPut_ok h
def okHide : Sig → Nat → Bool
  | [], _ => false
  | none :: _, 0 => true
  | some (.val _) :: _, 0 => true
  | some _ :: _, 0 => false
  | _ :: σ, i + 1 => okHide σ i
@[simp] theorem okHide_s : okHide (o :: σ) (i + 1) = okHide σ i := by cases o with | none => rfl | some w => cases w <;> rfl
@[simp] theorem okHide_n : okHide (none :: σ) 0 = true := (rfl)
@[simp] theorem okHide_v : okHide (some (.val t) :: σ) 0 = true := (rfl)
@[simp] theorem okHide_j : okHide (jk j :: σ) 0 = true := by cases j <;> rfl
theorem okHide_at : ∀ {σ : Sig} {i : Nat}, okHide σ i = true → ∃ j, σ[i]? = some (jk j)
  | [], _, h => by cases h
  | none :: σ, 0, _ => ⟨none, rfl⟩
  | some (.val t) :: σ, 0, _ => ⟨some t, rfl⟩
  | some (.own m) :: σ, 0, h => by cases h
  | some (.io m) :: σ, 0, h => by cases h
  | o :: σ, i + 1, h => by
    obtain ⟨j, hj⟩ := okHide_at (σ := σ) (i := i) (by simpa using h)
    exact ⟨j, by simpa using hj⟩
theorem hideS (h : okHide (o :: σ) i = true) : hide (i :: is) (o :: σ) = (hide is (o :: σ)).map fun σ => σ.set i none := by
  obtain ⟨j, hj⟩ := okHide_at h
  exact hide_jk hj
theorem len_flatMap {α β : Type} {g : α → List β} {k : Nat} : ∀ {xs : List α}, (∀ x ∈ xs, (g x).length = k) → (xs.flatMap g).length = xs.length * k
  | [], _ => by simp
  | x :: xs, h => by
    rw [List.flatMap_cons, List.length_append, h x List.mem_cons_self, len_flatMap fun y hy => h y (List.mem_cons_of_mem _ hy), List.length_cons, Nat.succ_mul, Nat.add_comm]
@[simp] theorem Out.of_v {α : Type} {a : α} : Out.of (some a) σ = .ok a σ := (rfl)
@[simp] theorem itemsOf_lst {ts : List T} : itemsOf (.lst ts) = some ts := (rfl)
@[simp] theorem itemsOf_tup {ts : List T} : itemsOf (.tup ts) = some ts := (rfl)
@[simp] theorem itemsOf_scr {ns : List Int} : itemsOf (.scr ns) = some (ns.map .int) := (rfl)
@[simp] theorem tgput_nm : (Tg.nm i).put t σ = PY.put i (.val t) σ := (rfl)
@[simp] theorem tgput_tp {ts : List T} : (Tg.tp is).put (.tup ts) σ = puts is ts σ := (rfl)
@[simp] theorem puts_nil : puts [] [] σ = some σ := (rfl)
@[simp] theorem puts_cons {ts : List T} : puts (i :: is) (t :: ts) σ = (PY.put i (.val t) σ).bind fun σ => puts is ts σ := (rfl)
@[simp] theorem putsM_nil : putsM [] [] σ = some σ := (rfl)
@[simp] theorem putsM_cons {ms : List M} : putsM (i :: is) (m :: ms) σ = (PY.put i m.r σ).bind fun σ => putsM is ms σ := (rfl)
@[simp] theorem M.r_fr : (M.fr t).r = .val t := (rfl)
@[simp] theorem M.r_lst {ms : List M} : (M.lst ms).r = .own (.lst ms) := (rfl)
@[simp] theorem M.r_dK {ks : List Ky} {ms : List M} : (M.dK ks ms).r = .own (.dK ks ms) := (rfl)
@[simp] theorem parts_val {ts : List T} : (R.val (.tup ts)).parts = some (ts.map .fr) := (rfl)
@[simp] theorem parts_own {ms : List M} : (R.own (.tup ms)).parts = some ms := (rfl)
@[simp] theorem iffF_t {a b : Fl} : iffF (.val (.bl true)) a b = a := (rfl)
@[simp] theorem iffF_f {a b : Fl} : iffF (.val (.bl false)) a b = b := (rfl)
theorem iffF_b {a b : Fl} {c : Bool} : iffF (.val (.bl c)) a b = if c then a else b := by cases c <;> rfl
@[simp] theorem argTs_nil : argTs [] = some [] := (rfl)
@[simp] theorem argTs_v {as : List A} : argTs (.v t :: as) = (argTs as).map (t :: ·) := (rfl)
@[simp] theorem R.bool_val {b : Bool} : R.bool (.val (.bl b)) σ = .ok b σ := (rfl)
@[simp] theorem R.int1_val {k : Int} : R.int1 (.val (.int k)) σ = .ok (some k) σ := (rfl)
@[simp] theorem keepIf_t {f : Sig → Out (List M)} {vs : List Nat} : keepIf true f vs σ = f σ := (rfl)
@[simp] theorem keepIf_f {f : Sig → Out (List M)} {vs : List Nat} : keepIf false f vs σ = .ok [] (wipes vs σ) := (rfl)
@[simp] theorem wipes_nil : wipes [] σ = σ := (rfl)
@[simp] theorem wipes_cons : wipes (i :: is) σ = (wipes is σ).set i none := (rfl)
@[simp] theorem back_nil {σ0 : Sig} : back [] σ0 σ = σ := (rfl)
@[simp] theorem back_cons {σ0 : Sig} : back (i :: is) σ0 σ = (back is σ0 σ).set i ((σ0[i]?).getD none) := (rfl)
theorem finL_ok {ms : List M} {own : Bool} (h : ms.length ≤ sizeLine) : finL own ms σ = .ok (if own then .own (.lst ms) else .val (.lst (ms.map M.er))) σ := if_pos h
end
section
variable {σ : Sig} {o : Option W} {i : Nat} {t : T} {m : M} {ks : List Ky} {ms : List M} {f : M → Option M} {cl : Nat → List W → Out R} {e : E}
@[simp] theorem isD_o : isD (some (some (.own (.dK ks ms)))) = true := (rfl)
@[simp] theorem isD_i : isD (some (some (.io (.dK ks ms)))) = true := (rfl)
@[simp] theorem isL_o : isL (some (some (.own (.lst ms)))) = true := (rfl)
@[simp] theorem isL_i : isL (some (some (.io (.lst ms)))) = true := (rfl)
@[simp] theorem isC_l : isC (some (some (.own (.lst ms)))) = true := (rfl)
@[simp] theorem isC_d : isC (some (some (.own (.dK ks ms)))) = true := (rfl)
@[simp] theorem slotT_v : slotT (some (some (.val t))) = some t := (rfl)
@[simp] theorem slotT_o : slotT (some (some (.own m))) = some m.er := (rfl)
@[simp] theorem slotT_i : slotT (some (some (.io m))) = some m.er := (rfl)
@[simp] theorem isOwn_o : isOwn (some (some (.own m))) = true := (rfl)
@[simp] theorem isOwn_i : isOwn (some (some (.io m))) = true := (rfl)
theorem upS_o (h : (o :: σ)[i]? = some (some (.own m))) : upS i f (o :: σ) = (f m).map fun m => (o :: σ).set i (some (.own m)) := by unfold upS; rw [h]
theorem upS_i (h : (o :: σ)[i]? = some (some (.io m))) : upS i f (o :: σ) = (f m).map fun m => (o :: σ).set i (some (.io m)) := by unfold upS; rw [h]
theorem evH_o (h : (o :: σ)[i]? = some (some (.own m))) : evH cl i e (o :: σ) = (ev cl e ((o :: σ).set i none)).bind fun r σ => .ok r (σ.set i (some (.own m))) := by unfold evH; rw [h]
theorem evH_i (h : (o :: σ)[i]? = some (some (.io m))) : evH cl i e (o :: σ) = (ev cl e ((o :: σ).set i none)).bind fun r σ => .ok r (σ.set i (some (.io m))) := by unfold evH; rw [h]
@[simp] theorem fz_nil : Sig.fz [] = [] := (rfl)
@[simp] theorem fz_n : Sig.fz (none :: σ) = none :: Sig.fz σ := (rfl)
@[simp] theorem fz_v : Sig.fz (some (.val t) :: σ) = some (.val t) :: Sig.fz σ := (rfl)
@[simp] theorem fz_o : Sig.fz (some (.own m) :: σ) = some (.val m.er) :: Sig.fz σ := (rfl)
@[simp] theorem fz_i : Sig.fz (some (.io m) :: σ) = some (.val m.er) :: Sig.fz σ := (rfl)
@[simp] theorem fz_j {j : Option T} : Sig.fz (jk j :: σ) = jk j :: Sig.fz σ := by cases j <;> rfl
end
/-! ### a def's run -/
def finD (np : Nat) : Fl → Out R
  | .rt r σ => .ok r (ends np σ)
  | .nx σ => .ok (.val .non) (ends np σ)
  | .ex c v σ => .ex c v (ends np σ)
  | _ => .fail
@[simp] theorem finD_rt {np : Nat} {r : R} {σ : Sig} : finD np (.rt r σ) = .ok r (ends np σ) := (rfl)
@[simp] theorem finD_nx {np : Nat} {σ : Sig} : finD np (.nx σ) = .ok (.val .non) (ends np σ) := (rfl)
@[simp] theorem ends_0 {σ : Sig} : ends 0 σ = [] := (rfl)
theorem ends_s {n : Nat} {σ : Sig} : ends (n + 1) σ = ioOf σ[0]? :: List.replicate n none := rfl
@[simp] theorem ioOf_val {t : T} : ioOf (some (some (.val t))) = none := (rfl)
@[simp] theorem ioOf_own {m : M} : ioOf (some (some (.own m))) = none := (rfl)
@[simp] theorem ioOf_none : ioOf (some none) = none := (rfl)
@[simp] theorem ioOf_io {m : M} : ioOf (some (some (.io m))) = some (.io m) := (rfl)
theorem run_def {p : Prg} {f n : Nat} {d : Def} {ws : List W} (h : p.df f = some d) (hl : ws.length = d.np) (hn : d.np ≤ d.ns) :
    callF p (n + 1) f ws = finD d.np (evS (callF p n) d.body (ws.map some ++ List.replicate (d.ns - d.np) none)) := by
  unfold callF
  rw [h]
  simp only [hl, hn, and_self, if_true]
  rfl
def retF (o : Out R) (σ : Sig) : Out R := match o with
  | .ok r _ => .ok r σ
  | .ex c v _ => .ex c v σ
  | .fail => .fail
theorem callA_v {cl : Nat → List W → Out R} {f : Nat} {as : List A} {σ : Sig} {ts : List T} (h : argTs as = some ts) : callA cl f as σ = retF (cl f (ts.map .val)) σ := by
  cases as with
  | nil => simp only [argTs, Option.some.injEq] at h; subst h; rfl
  | cons a as =>
    cases a with
    | v t => simp only [callA, h]; rfl
    | io i => simp [argTs] at h
    | gv m => simp [argTs] at h
/-! ### calls -/
@[simp] theorem retF_ok {r : R} {σ σ' : Sig} : retF (.ok r σ') σ = .ok r σ := (rfl)
section
variable {cl : Nat → List W → Out R} {f : Nat} {σ : Sig} {a b c d e : T} {o : Option W} {i : Nat} {m : M} {k : Bool}
@[simp] theorem callA_0 : callA cl f [] σ = retF (cl f []) σ := callA_v (ts := []) rfl
@[simp] theorem callA_1 : callA cl f [.v a] σ = retF (cl f [.val a]) σ := callA_v (ts := [a]) rfl
@[simp] theorem callA_2 : callA cl f [.v a, .v b] σ = retF (cl f [.val a, .val b]) σ := callA_v (ts := [a, b]) rfl
@[simp] theorem callA_3 : callA cl f [.v a, .v b, .v c] σ = retF (cl f [.val a, .val b, .val c]) σ := callA_v (ts := [a, b, c]) rfl
@[simp] theorem callA_4 : callA cl f [.v a, .v b, .v c, .v d] σ = retF (cl f [.val a, .val b, .val c, .val d]) σ := callA_v (ts := [a, b, c, d]) rfl
@[simp] theorem callA_5 : callA cl f [.v a, .v b, .v c, .v d, .v e] σ = retF (cl f [.val a, .val b, .val c, .val d, .val e]) σ := callA_v (ts := [a, b, c, d, e]) rfl
def ioK (k : Bool) (i : Nat) (o : Out R) (σ : Sig) : Out R := match o with
  | .ok r σ' => .ok r (σ.set i (wbk k σ'[0]?))
  | .ex c v σ' => .ex c v (σ.set i (wbk k σ'[0]?))
  | .fail => .fail
@[simp] theorem ioK_ok {r : R} {σ σ' : Sig} : ioK k i (.ok r σ') σ = .ok r (σ.set i (wbk k σ'[0]?)) := (rfl)
@[simp] theorem wbk_t : wbk true (some (some (.io m))) = some (.io m) := (rfl)
@[simp] theorem wbk_f : wbk false (some (some (.io m))) = some (.own m) := (rfl)
theorem callA_oo {as : List A} {ts : List T} (ha : argTs as = some ts) (h : σ[i]? = some (some (.own m))) : callA cl f (.io i :: as) σ = ioK false i (cl f (.io m :: ts.map .val)) σ := by
  simp only [callA, ha, h]
  rfl
theorem callA_ii {as : List A} {ts : List T} (ha : argTs as = some ts) (h : σ[i]? = some (some (.io m))) : callA cl f (.io i :: as) σ = ioK true i (cl f (.io m :: ts.map .val)) σ := by
  simp only [callA, ha, h]
  rfl
theorem callA_o0 (h : (o :: σ)[i]? = some (some (.own m))) : callA cl f [.io i] (o :: σ) = ioK false i (cl f [.io m]) (o :: σ) := callA_oo (ts := []) rfl h
theorem callA_o1 (h : (o :: σ)[i]? = some (some (.own m))) : callA cl f [.io i, .v a] (o :: σ) = ioK false i (cl f [.io m, .val a]) (o :: σ) := callA_oo (ts := [a]) rfl h
theorem callA_o2 (h : (o :: σ)[i]? = some (some (.own m))) : callA cl f [.io i, .v a, .v b] (o :: σ) = ioK false i (cl f [.io m, .val a, .val b]) (o :: σ) := callA_oo (ts := [a, b]) rfl h
theorem callA_o3 (h : (o :: σ)[i]? = some (some (.own m))) : callA cl f [.io i, .v a, .v b, .v c] (o :: σ) = ioK false i (cl f [.io m, .val a, .val b, .val c]) (o :: σ) := callA_oo (ts := [a, b, c]) rfl h
theorem callA_i0 (h : (o :: σ)[i]? = some (some (.io m))) : callA cl f [.io i] (o :: σ) = ioK true i (cl f [.io m]) (o :: σ) := callA_ii (ts := []) rfl h
theorem callA_i1 (h : (o :: σ)[i]? = some (some (.io m))) : callA cl f [.io i, .v a] (o :: σ) = ioK true i (cl f [.io m, .val a]) (o :: σ) := callA_ii (ts := [a]) rfl h
theorem callA_i2 (h : (o :: σ)[i]? = some (some (.io m))) : callA cl f [.io i, .v a, .v b] (o :: σ) = ioK true i (cl f [.io m, .val a, .val b]) (o :: σ) := callA_ii (ts := [a, b]) rfl h
theorem callA_i3 (h : (o :: σ)[i]? = some (some (.io m))) : callA cl f [.io i, .v a, .v b, .v c] (o :: σ) = ioK true i (cl f [.io m, .val a, .val b, .val c]) (o :: σ) := callA_ii (ts := [a, b, c]) rfl h
end
theorem evL_seq {α : Type} {F : T → Sig → Out (List M)} {f : α → T} {I : List M → Sig → Prop} : ∀ {xs : List α} {ms : List M} {σ : Sig}, I ms σ → (∀ x ∈ xs, ∀ ms σ, I ms σ → ∃ m σ', F (f x) σ = .ok [m] σ' ∧ I (ms ++ [m]) σ') → ∃ ns σ', evL F (xs.map f) σ = .ok ns σ' ∧ I (ms ++ ns) σ' ∧ ns.length = xs.length
  | [], ms, σ, h, _ => ⟨[], σ, rfl, by simpa using h, rfl⟩
  | x :: xs, ms, σ, h, k => by
    obtain ⟨m, σ1, e1, h1⟩ := k x List.mem_cons_self ms σ h
    obtain ⟨ns, σ2, e2, h2, hl⟩ := evL_seq (xs := xs) h1 fun y hy => k y (List.mem_cons_of_mem _ hy)
    refine ⟨m :: ns, σ2, ?_, by simpa using h2, by simp [hl]⟩
    show (F (f x) σ).bind _ = _
    rw [e1, Out.bind_ok, e2]
    rfl
/-- one item comes, and J holds -/
def Ok1 (o : Out (List M)) (J : M → Sig → Prop) : Prop := ∃ m σ', o = .ok [m] σ' ∧ J m σ'
@[simp] theorem Ok1_ok {m : M} {σ : Sig} {J : M → Sig → Prop} : Ok1 (.ok [m] σ) J = J m σ := by
  unfold Ok1
  refine propext ⟨fun ⟨m', σ', e, h⟩ => ?_, fun h => ⟨m, σ, rfl, h⟩⟩
  cases e
  exact h
theorem evL_seqN {α : Type} {F : T → Sig → Out (List M)} {f : α → T} {I : List M → Sig → Prop} {N : Nat} : ∀ {xs : List α} {ms : List M} {σ : Sig}, ms.length + xs.length = N → I ms σ → (∀ x ∈ xs, ∀ ms σ, ms.length < N → I ms σ → ∃ m σ', F (f x) σ = .ok [m] σ' ∧ I (ms ++ [m]) σ') →
    ∃ ns σ', evL F (xs.map f) σ = .ok ns σ' ∧ I (ms ++ ns) σ' ∧ ns.length = xs.length
  | [], ms, σ, _, h, _ => ⟨[], σ, rfl, by simpa using h, rfl⟩
  | x :: xs, ms, σ, hN, h, k => by
    rw [List.length_cons] at hN
    obtain ⟨m, σ1, e1, h1⟩ := k x List.mem_cons_self ms σ (by omega) h
    obtain ⟨ns, σ2, e2, h2, hl⟩ := evL_seqN (xs := xs) (ms := ms ++ [m]) (by simp; omega) h1 fun y hy => k y (List.mem_cons_of_mem _ hy)
    refine ⟨m :: ns, σ2, ?_, by simpa using h2, by simp [hl]⟩
    show (F (f x) σ).bind _ = _
    rw [e1, Out.bind_ok, e2]
    rfl
theorem evL_acc {α β : Type} {F : T → Sig → Out (List M)} {f : α → T} {xs : List α} {σ : Sig} {k : List M → Sig → Out β} (I : List M → Sig → Prop) (P : Out β → Prop) (h0 : I [] σ)
    (h : ∀ x ∈ xs, ∀ ms σ, ms.length < xs.length → I ms σ → Ok1 (F (f x) σ) fun m σ' => I (ms ++ [m]) σ') (hk : ∀ ns σ', I ns σ' → ns.length = xs.length → P (k ns σ')) : P ((evL F (xs.map f) σ).bind k) := by
  obtain ⟨ns, σ', e, hI, hl⟩ := evL_seqN (F := F) (f := f) (I := I) (xs := xs) (ms := []) (N := xs.length) (by simp) h0 fun x hx ms σ hl hI => h x hx ms σ hl hI
  rw [e]
  exact hk ns σ' (by simpa using hI) hl
/-! ### what the kernel runs -/
def givesV (p : Prg) (n f : Nat) (ws : List T) (t : T) : Bool := match callG p n f (ws.map .val) with
  | .ok (.val u) _ => T.beq u t
  | _ => false
theorem givesV_ok {p : Prg} {n f : Nat} {ws : List T} {t : T} (h : givesV p n f ws t = true) : ∃ σ', callF p n f (ws.map .val) = .ok (.val t) σ' := by
  unfold givesV at h
  rw [callG_ok] at h
  split at h
  · rename_i u σ' e
    exact ⟨σ', by rw [e, T.beq_eq h]⟩
  · cases h
theorem cut_to {α : Type} {xs : List α} {i : Nat} (h : i ≤ xs.length) : cutT xs none (some (i : Int)) = xs.take i := by
  unfold cutT
  have h0 : HT.sIx xs.length 0 none = 0 := rfl
  have h1 : HT.sIx xs.length xs.length (some (i : Int)) = i := by
    rw [HT.sIx_nat]
    exact Nat.min_eq_left h
  rw [h0, h1]
  simp
theorem enumFrom_eq {α : Type} {f : α → T} : ∀ (xs : List α) (k : Nat), enumFrom k (xs.map f) = (xs.zipIdx k).map fun x => .tup [.int (x.2 : Nat), f x.1]
  | [], _ => rfl
  | x :: xs, k => by
    rw [List.map_cons, enumFrom, enumFrom_eq xs (k + 1), List.zipIdx_cons, List.map_cons]
end PY
set_option Elab.async false
set_option linter.all false
set_option maxRecDepth 100000
set_option maxHeartbeats 800000
/-! # PlainShow: texts that repr shows -/
namespace PY
open PySem L2
theorem mulOk_r {i j : Int} (h1 : -1000000 ≤ j) (h2 : j ≤ 1000000) : mulOk i j = true := by
  unfold mulOk
  simp only [Bool.or_eq_true, Bool.and_eq_true, decide_eq_true_eq]
  omega
theorem big_nat {n : Nat} (h : n ≤ 1000000) : big (n : Int) = true := by
  unfold big
  rw [Bool.and_eq_true, decide_eq_true_eq, decide_eq_true_eq]
  omega
theorem app_ok {x : M} {ms : List M} (h : ms.length < 1000000) : M.app x (.lst ms) = some (.lst (ms ++ [x])) := by
  show (if ms.length < sizeLine then _ else _) = _
  rw [if_pos (by rw [sizeLine_eq]; omega)]
theorem nx_thn {σ σ' : Sig} {cl : Nat → List W → Out R} {s t : S} (h : evS cl s σ = .nx σ') : evS cl (.seq s t) σ = evS cl t σ' := by
  have e : evS cl (.seq s t) σ = (evS cl s σ).thn fun σ => evS cl t σ := by rw [evS_3]
  rw [e, h]
  rfl
structure Sh (n : Nat) (t : Str) : Prop where
  ok : PyData.strOk t = true
  len : t.length ≤ n
theorem Sh.app {a b : Nat} {x y : Str} (h : Sh a x) (k : Sh b y) : Sh (a + b) (x ++ y) := by
  refine ⟨?_, ?_⟩
  · have h1 := h.ok
    have h2 := k.ok
    unfold PyData.strOk at h1 h2 ⊢
    show (x.cps ++ y.cps).all _ = true
    rw [Array.all_append, h1, h2]
    rfl
  · show (x ++ y).length ≤ _
    have e : (x ++ y).length = x.length + y.length := Array.size_append
    have := h.len
    have := k.len
    omega
theorem Sh.mono {a b : Nat} {x : Str} (h : Sh a x) (k : a ≤ b) : Sh b x := ⟨h.ok, Nat.le_trans h.len k⟩
def shB (n : Nat) (t : Str) : Bool := PyData.strOk t && decide (t.length ≤ n)
theorem sh_of {n : Nat} {t : Str} (h : shB n t = true) : Sh n t := by
  unfold shB at h
  rw [Bool.and_eq_true, decide_eq_true_eq] at h
  exact ⟨h.1, h.2⟩
theorem sh_comma : Sh 2 (", " : String) := sh_of (by decide +kernel)
theorem sh_nix : Sh 0 ("" : String) := sh_of (by decide +kernel)
theorem sh_from {m : Nat} : ∀ {ts : List Str} {k a : Nat} {acc : Str}, Sh a acc → (∀ t ∈ ts, Sh m t) → Sh (a + ts.length * (m + 2)) (textFrom k acc ts)
  | [], k, a, acc, h, _ => by
    rw [List.length_nil, Nat.zero_mul]
    exact h
  | t :: ts, k, a, acc, h, ht => by
    have hc : Sh 2 (if k > 0 then ", " else "" : String) := by
      by_cases hk : k > 0
      · rw [if_pos hk]; exact sh_comma
      · rw [if_neg hk]; exact sh_nix.mono (by omega)
    have := sh_from (k := k + 1) ((h.app hc).app (ht t List.mem_cons_self)) fun u hu => ht u (List.mem_cons_of_mem _ hu)
    rw [List.length_cons, Nat.succ_mul]
    exact this.mono (by omega)
theorem sh_join {m : Nat} : ∀ {ts : List Str}, (∀ t ∈ ts, Sh m t) → Sh (ts.length * (m + 2)) (Str.join ", " ts)
  | [], _ => sh_nix.mono (Nat.zero_le _)
  | [t], h => (h t List.mem_cons_self).mono (by simp)
  | t :: u :: ts, h => by
    have h1 := sh_join (ts := u :: ts) fun v hv => h v (List.mem_cons_of_mem _ hv)
    have h2 := ((h t List.mem_cons_self).app sh_comma).app h1
    rw [List.length_cons, Nat.succ_mul, Nat.add_comm]
    exact h2
def Shd (k n : Nat) (t : T) : Prop := ∃ d, t.pd = some d ∧ d.showable = true ∧ d.depth ≤ k ∧ Sh n d.shown
theorem Shd.mono {k l n m : Nat} {t : T} (h : Shd k n t) (hk : k ≤ l) (hn : n ≤ m) : Shd l m t := by
  obtain ⟨d, h1, h2, h3, h4⟩ := h
  exact ⟨d, h1, h2, Nat.le_trans h3 hk, h4.mono hn⟩
theorem shd_all {k n : Nat} : ∀ {ts : List T}, (∀ t ∈ ts, Shd k n t) → ∃ ds, T.pds ts = some ds ∧ PyData.showableAll ds = true ∧ PyData.depthAll ds ≤ k ∧ ds.length = ts.length ∧ (PyData.shownAll ds).length = ts.length ∧ ∀ x ∈ PyData.shownAll ds, Sh n x
  | [], _ => ⟨[], rfl, rfl, Nat.zero_le _, rfl, rfl, fun x hx => by cases hx⟩
  | t :: ts, h => by
    obtain ⟨d, d1, d2, d3, d4⟩ := h t List.mem_cons_self
    obtain ⟨ds, e1, e2, e3, e4, e5, e6⟩ := shd_all (ts := ts) fun u hu => h u (List.mem_cons_of_mem _ hu)
    refine ⟨d :: ds, ?_, ?_, ?_, by simp [e4], ?_, ?_⟩
    · rw [T.pds, d1, e1]
    · rw [PyData.showableAll, d2, e2]; rfl
    · rw [PyData.depthAll]; omega
    · rw [PyData.shownAll, List.length_cons, e5, List.length_cons]
    · intro x hx
      rw [PyData.shownAll] at hx
      rcases List.mem_cons.mp hx with rfl | hx
      · exact d4
      · exact e6 x hx
theorem shd_lst {k n c : Nat} {ts : List T} (h : ∀ t ∈ ts, Shd k n t) (hc : ts.length ≤ c) : Shd (k + 1) (2 + c * (n + 2)) (.lst ts) := by
  obtain ⟨ds, e1, e2, e3, e4, e5, e6⟩ := shd_all h
  refine ⟨.list ds, by rw [T.pd, e1]; rfl, by rw [PyData.showable]; exact e2, by rw [PyData.depth]; omega, ?_⟩
  rw [PyData.shown]
  have h1 : Sh 1 ("[" : String) := sh_of (by decide +kernel)
  have h2 : Sh 1 ("]" : String) := sh_of (by decide +kernel)
  have := (sh_from (k := 0) h1 e6).app h2
  refine Sh.mono this ?_
  rw [e5]
  have := Nat.mul_le_mul_right (n + 2) hc
  omega
theorem shd_tup {k n c : Nat} {ts : List T} (h : ∀ t ∈ ts, Shd k n t) (hc : ts.length ≤ c) : Shd (k + 1) (3 + c * (n + 2)) (.tup ts) := by
  obtain ⟨ds, e1, e2, e3, e4, e5, e6⟩ := shd_all h
  refine ⟨.tuple ds, by rw [T.pd, e1]; rfl, by rw [PyData.showable]; exact e2, by rw [PyData.depth]; omega, ?_⟩
  rw [PyData.shown]
  have h1 : Sh 1 ("(" : String) := sh_of (by decide +kernel)
  have h2 : Sh 2 (if (PyData.shownAll ds).length == 1 then ",)" else ")" : String) := by
    by_cases hk : ((PyData.shownAll ds).length == 1) = true
    · rw [if_pos hk]; exact sh_of (by decide +kernel)
    · rw [if_neg hk]; exact sh_of (by decide +kernel)
  have := (h1.app (sh_join e6)).app h2
  refine Sh.mono this ?_
  rw [e5]
  have := Nat.mul_le_mul_right (n + 2) hc
  omega
def shdB (k n : Nat) (t : T) : Bool := match t.pd with
  | some d => d.showable && decide (d.depth ≤ k) && shB n d.shown
  | none => false
theorem shd_of {k n : Nat} {t : T} (h : shdB k n t = true) : Shd k n t := by
  unfold shdB at h
  split at h
  · rename_i d hd
    rw [Bool.and_eq_true, Bool.and_eq_true, decide_eq_true_eq] at h
    exact ⟨d, hd, h.1.1, h.1.2, sh_of h.2⟩
  · cases h
theorem shown_of {k n : Nat} {t : T} (h : Shd k n t) (hk : k ≤ 60) (hn : n ≤ 1000000) : ∃ x, shown? t = some x ∧ teq (.str x) (.str x) = some true := by
  obtain ⟨d, d1, d2, d3, d4⟩ := h
  refine ⟨d.shown, ?_, ?_⟩
  · unfold shown?
    rw [d1]
    have e : (d.showable && decide (d.depth ≤ 60) && decide (d.shown.length ≤ sizeLine)) = true := by
      rw [Bool.and_eq_true, Bool.and_eq_true, decide_eq_true_eq, decide_eq_true_eq]
      have := d4.len
      exact ⟨⟨d2, by omega⟩, le_line (by omega)⟩
    show (if _ = true then _ else _) = _
    rw [if_pos e]
  · rw [teq_str d4.ok d4.ok]
    simp
/-! ### a bound of what is shown, read off the data -/
mutual
def shz : T → Option (Nat × Nat)
  | .non => some (0, 10)
  | .bl _ => some (0, 10)
  | .int i => if -100 ≤ i ∧ i ≤ 100 then some (0, 10) else none
  | .str x => if shdB 0 60 (.str x) then some (0, 60) else none
  | .lst ts => (shzs ts).map fun x => (x.1 + 1, 3 + x.2.2 * (x.2.1 + 2))
  | .tup ts => (shzs ts).map fun x => (x.1 + 1, 3 + x.2.2 * (x.2.1 + 2))
  | .dK [] [] => some (1, 10)
  | _ => none
def shzs : List T → Option (Nat × Nat × Nat)
  | [] => some (0, 0, 0)
  | t :: ts => (shz t).bind fun x => (shzs ts).map fun y => (max x.1 y.1, max x.2 y.2.1, y.2.2 + 1)
end
theorem shz_ints : ((List.range 201).all fun i => shdB 0 10 (.int ((i : Int) - 100))) = true := by decide +kernel
theorem shz_few : shdB 0 10 .non = true ∧ shdB 0 10 (.bl true) = true ∧ shdB 0 10 (.bl false) = true ∧ shdB 1 10 (.dK [] []) = true := by decide +kernel
mutual
theorem shz_ok : ∀ {t : T} {k n : Nat}, shz t = some (k, n) → Shd k n t
  | .non, k, n, h => by simp only [shz, Option.some.injEq, Prod.mk.injEq] at h; rw [← h.1, ← h.2]; exact shd_of shz_few.1
  | .bl b, k, n, h => by
    simp only [shz, Option.some.injEq, Prod.mk.injEq] at h
    rw [← h.1, ← h.2]
    cases b
    · exact shd_of shz_few.2.2.1
    · exact shd_of shz_few.2.1
  | .int i, k, n, h => by
    simp only [shz] at h
    split at h
    · rename_i hi
      simp only [Option.some.injEq, Prod.mk.injEq] at h
      rw [← h.1, ← h.2]
      have := List.all_eq_true.mp shz_ints (i + 100).toNat (List.mem_range.mpr (by omega))
      rw [show (((i + 100).toNat : Int) - 100) = i by omega] at this
      exact shd_of this
    · cases h
  | .str x, k, n, h => by
    simp only [shz] at h
    split at h
    · rename_i hx
      simp only [Option.some.injEq, Prod.mk.injEq] at h
      rw [← h.1, ← h.2]
      exact shd_of hx
    · cases h
  | .lst ts, k, n, h => by
    simp only [shz, Option.map_eq_some_iff] at h
    obtain ⟨⟨a, b, c⟩, h1, h2⟩ := h
    simp only [Prod.mk.injEq] at h2
    rw [← h2.1, ← h2.2]
    obtain ⟨q1, q2⟩ := shzs_ok h1
    exact (shd_lst q1 (Nat.le_of_eq q2)).mono (Nat.le_refl _) (by omega)
  | .tup ts, k, n, h => by
    simp only [shz, Option.map_eq_some_iff] at h
    obtain ⟨⟨a, b, c⟩, h1, h2⟩ := h
    simp only [Prod.mk.injEq] at h2
    rw [← h2.1, ← h2.2]
    obtain ⟨q1, q2⟩ := shzs_ok h1
    exact shd_tup q1 (Nat.le_of_eq q2)
  | .dK [] [], k, n, h => by simp only [shz, Option.some.injEq, Prod.mk.injEq] at h; rw [← h.1, ← h.2]; exact shd_of shz_few.2.2.2
  | .dK (_ :: _) _, k, n, h => by simp [shz] at h
  | .dK [] (_ :: _), k, n, h => by simp [shz] at h
  | .dT _ _, k, n, h => by simp [shz] at h
  | .fn _, k, n, h => by simp [shz] at h
  | .scr _, k, n, h => by simp [shz] at h
  | .exc _ _, k, n, h => by simp [shz] at h
theorem shzs_ok : ∀ {ts : List T} {k n c : Nat}, shzs ts = some (k, n, c) → (∀ t ∈ ts, Shd k n t) ∧ ts.length = c
  | [], k, n, c, h => by
    simp only [shzs, Option.some.injEq, Prod.mk.injEq] at h
    exact ⟨fun t ht => (by cases ht), h.2.2⟩
  | t :: ts, k, n, c, h => by
    simp only [shzs, Option.bind_eq_some_iff, Option.map_eq_some_iff] at h
    obtain ⟨⟨a, b⟩, h1, ⟨d, e, f⟩, h2, h3⟩ := h
    simp only [Prod.mk.injEq] at h3
    obtain ⟨q1, q2⟩ := shzs_ok h2
    have q0 := shz_ok h1
    rw [← h3.1, ← h3.2.1, ← h3.2.2]
    refine ⟨fun u hu => ?_, by rw [List.length_cons, q2]⟩
    rcases List.mem_cons.mp hu with rfl | hu
    · exact q0.mono (Nat.le_max_left _ _) (Nat.le_max_left _ _)
    · exact (q1 u hu).mono (Nat.le_max_right _ _) (Nat.le_max_right _ _)
end
def shOk (k n : Nat) (t : T) : Bool := match shz t with
  | some x => decide (x.1 ≤ k ∧ x.2 ≤ n)
  | none => false
theorem shOk_ok {k n : Nat} {t : T} (h : shOk k n t = true) : Shd k n t := by
  unfold shOk at h
  split at h
  · rename_i x hx
    obtain ⟨a, b⟩ := x
    have := of_decide_eq_true h
    exact (shz_ok hx).mono this.1 this.2
  · cases h
theorem Shd.str {k n : Nat} {t : T} (h : Shd k n t) (hk : k ≤ 60) (hn : n ≤ 1000000) : ∃ x, shown? t = some x ∧ PyData.canLay0 (.str x) = true := by
  obtain ⟨d, d1, d2, d3, d4⟩ := h
  refine ⟨d.shown, ?_, d4.ok⟩
  unfold shown?
  rw [d1]
  have e : (d.showable && decide (d.depth ≤ 60) && decide (d.shown.length ≤ sizeLine)) = true := by
    rw [Bool.and_eq_true, Bool.and_eq_true, decide_eq_true_eq, decide_eq_true_eq]
    have := d4.len
    exact ⟨⟨d2, by omega⟩, le_line (by omega)⟩
  show (if _ = true then _ else _) = _
  rw [if_pos e]
theorem teq_two {x : Str} (h : PyData.canLay0 (.str x) = true) : teq (.lst [.str x, .bl true]) (.lst [.str x, .bl true]) = some true := by
  have h' : PyData.strOk x = true := h
  unfold teq
  simp [T.pd, T.pds, SeqAt.shaped, PyData.canLay0, PyData.canLayAll0, h', PyData.depth, PyData.depthAll, PyData.eqv, PyData.eqvAll]
theorem teq_three {x y : Str} (h : PyData.canLay0 (.str x) = true) (k : PyData.canLay0 (.str y) = true) : teq (.lst [.str x, .bl true, .str y]) (.lst [.str x, .bl true, .str y]) = some true := by
  have h' : PyData.strOk x = true := h
  have k' : PyData.strOk y = true := k
  unfold teq
  simp [T.pd, T.pds, SeqAt.shaped, PyData.canLay0, PyData.canLayAll0, h', k', PyData.depth, PyData.depthAll, PyData.eqv, PyData.eqvAll]
end PY
set_option Elab.async false
set_option linter.all false
set_option maxRecDepth 100000
set_option maxHeartbeats 1000000
namespace PY
open PySem PySem.Spec PyProof.Rows L2
theorem all_nil {α : Type} {Q : α → Prop} : ∀ x ∈ ([] : List α), Q x := fun _ h => by cases h
theorem all_cons {α : Type} {Q : α → Prop} {x : α} {xs : List α} (h : Q x) (k : ∀ y ∈ xs, Q y) : ∀ y ∈ x :: xs, Q y := fun y hy => by
  rcases List.mem_cons.mp hy with rfl | hy
  · exact h
  · exact k y hy
def BindB (x : Str) (st : Stmt) (ps : List Str) : Prop := ∀ (kV doc pm : Value) (an : Option Addr) (cdv ct : Value) (us : List Value), us.length = ps.length → bindArgs (PySem.W.fnOf x x (defArgs st) (defBody st) (defScope st) .none kV doc pm an cdv ct) ⟨us, []⟩ = pure (ps.zip us)
def KBB (x : Str) (st : Stmt) (ps ks : List Str) (ix : List Nat) : Prop := ∀ (kV doc pm : Value) (an : Option Addr) (cdv ct : Value) (us : List Value), us.length = ks.length → bindArgs (PySem.W.fnOf x x (defArgs st) (defBody st) (defScope st) .none kV doc pm an cdv ct) ⟨[], ks.zip us⟩ = pure (ps.zip (ix.filterMap fun i => us[i]?))
structure DF (K : PySem.W.Frag) (mg : Str → Option Value) (d : DefT) (f : Addr) (fd : FuncData) : Prop where
  fn : L2.Fun K d.nm d.nm d.st f fd
  mgf : mg d.nm = some (.ref f)
  bi : Binds K fd d.ps []
theorem df_mk {K : PySem.W.Frag} {h : Heap} {mg : Str → Option Value} {x : Str} {st : Stmt} {N ps : List Str} {b : Option S} {f : Addr} {oc : Value} {od an : Option Addr} {osl : Array (Option Value)} {kV doc pm cdv ct : Value} (X : K.In h) (G : h.Ns mainGlobals mg)
    (a : PySem.W.nsIn K mainGlobals x = some (some (.ref f))) (l : K.lookup f = some ⟨oc, od, .func (PySem.W.fnOf x x (defArgs st) (defBody st) (defScope st) .none kV doc pm an cdv ct), osl⟩) (c : PySem.W.codeIn K cdv x = true) (k : PySem.W.keepIn K (.ref f) = true) (hb : BindB x st ps) :
    ∃ f fd, DF K mg ⟨x, st, N, ps, b⟩ f fd :=
  have F := fun_mk (st := st) l c k
  ⟨f, _, F, PySem.W.mg_of X G a, F.binds hb⟩
theorem gi_mk {K : PySem.W.Frag} {h : Heap} {mg : Str → Option Value} {n : Str} {i : Int} {t : Tok} (X : K.In h) (G : h.Ns mainGlobals mg) (z : PySem.W.nsIn K mainGlobals n = some (some (.int i t))) : ∃ u, mg (n, i).1 = some u ∧ RelV (.int (n, i).2) u :=
  ⟨_, PySem.W.mg_of X G z, _, rfl⟩
theorem pick_all {α : Type} {Q : α → Addr → FuncData → Prop} : ∀ {ds : List α}, (∀ d ∈ ds, ∃ f fd, Q d f fd) → ∃ (fas : List Addr) (fds : List FuncData), ∀ i d, ds[i]? = some d → Q d (fas.getD i 0) (fds.getD i default)
  | [], _ => ⟨[], [], fun i d h => by simp at h⟩
  | d :: ds, h => by
    obtain ⟨f, fd, q⟩ := h d List.mem_cons_self
    obtain ⟨fas, fds, r⟩ := pick_all (ds := ds) fun e he => h e (List.mem_cons_of_mem _ he)
    refine ⟨f :: fas, fd :: fds, fun i e hi => ?_⟩
    cases i with
    | zero =>
      cases hi
      exact q
    | succ i => exact r i e (by simpa using hi)
theorem Fun_kb {K : PySem.W.Frag} {x : Str} {st : Stmt} {f : Addr} {fd : FuncData} {ps ks : List Str} {ix : List Nat} (F : L2.Fun K x x st f fd) (h : KBB x st ps ks ix) (h1 : ks.length = ps.length) (h2 : ix.length = ps.length) (h3 : ∀ i ∈ ix, i < ks.length) : KB K fd ps ks ix := by
  obtain ⟨oc, od, kV, doc, pm, an, cdv, ct, osl, rfl, lk, hcd⟩ := F.ex
  exact ⟨h1, h2, h3, fun s ws _ hl => .of_eq (h kV doc pm an cdv ct ws hl)⟩
/-! ### own exception classes -/
structure XCls (K : PySem.W.Frag) (mg : Str → Option Value) (x : Str) (C D fI : Addr) : Prop where
  mgx : mg x = some (.ref C)
  exk : ExK K C
  ini : IniC K D C
  find : PySem.W.findIn K (.ref C) "__init__" = some (some (.ref fI))
  ty : PySem.W.typeIn K (.ref fI) = some (.type "function")
theorem xcls_mk {K : PySem.W.Frag} {h : Heap} {mg : Str → Option Value} {x : Str} {C D fI : Addr} (X : K.In h) (G : h.Ns mainGlobals mg)
    {nm q : Str} {N : Addr} {bs bm : List Value} {sn : List Str} {sub : List Value} {ab : Bool} {col : Option Bool} {dd : Option Addr} {k0 k1 k2 k3 k5 : Option Value}
    (a : PySem.W.nsIn K mainGlobals x = some (some (.ref C))) (L : K.lookup C = some (excClassObj nm q C N bs bm true sn sub ab col dd k0 k1 k2 k3 k5 "ValueError.__new__")) (rf : PySem.HandSPX.refsVE bm = true)
    (sa : PySem.W.findIn K (.ref C) "__setattr__" = some (some (.builtin "object.__setattr__"))) (exC : PySem.W.subIn K (.ref C) (.type "BaseException") = some true) (tyC : PySem.W.typeIn K (.ref C) = some (.type "type")) (kC : PySem.W.keepIn K (.ref C) = true)
    (sup : PySem.W.ks_superIn K C D "__init__" = some (some (.builtin "ValueError.__init__"))) (mro : PySem.W.mroIn K C (.ref D) = some true) (subV : PySem.W.subIn K (.ref C) (.type "ValueError") = some true) (noF : PySem.W.findIn K (.ref C) "value" = some none)
    (isC : PySem.W.isClsIn K C = true) (ga : PySem.W.findIn K (.ref C) "__getattribute__" = some (some (.builtin "BaseException.__getattribute__"))) (gg : PySem.W.findIn K (.ref C) "__getattr__" = some none) (hd : PySem.W.hasDictIn K C = true)
    (cl : PySem.W.findIn K (.ref C) "__class__" = some (some (.builtin "object.__class__"))) (get : PySem.W.specialIn K (.builtin "object.__class__") "__get__" = some (some (.builtin "getset_descriptor.__get__"))) (tk : PySem.W.takesIn K (.builtin "object.__class__") = some true) (ob : PySem.W.mroIn K C (.type "object") = some true)
    (fi : PySem.W.findIn K (.ref C) "__init__" = some (some (.ref fI))) (ty : PySem.W.typeIn K (.ref fI) = some (.type "function")) : XCls K mg x C D fI :=
  ⟨PySem.W.mg_of X G a, ⟨isC, ⟨ga, gg, exC, hd⟩, noF, cl, get, tk, ob, subV⟩, ⟨⟨⟨nm, q, N, bs, bm, sn, sub, ab, col, dd, k0, k1, k2, k3, k5, L, rf⟩, sa, exC, tyC, kC⟩, sup, mro, subV, noF⟩, fi, ty⟩
theorem inif_mk {P : Program} {K : PySem.W.Frag} {D f : Addr} {oc dV kV doc pm ct ccl cl : Value} {od an cdd cld : Option Addr} {osl ccs csl : Array (Option Value)} {params : Arguments} {scope : Scope} {cda cc : Addr} {vs : Array Value} {file : Str} {tf : Tok} {cdD : ClassData} {p0 p1 p2 p3 p4 p5 p6 p7 p8 p9 : Pos} {ar : Arg}
    (l : K.lookup f = some ⟨oc, od, .func (PySem.W.ksFn "__init__" "PictureError.__init__" params (iniBody p0 p1 p2 p3 p4 p5 p6 p7 p8 p9) scope dV kV doc pm an (.ref cda) ct cc), osl⟩) (c : PySem.W.codeIn K (.ref cda) "PictureError.__init__" = true)
    (lc : K.lookup cda = some ⟨ccl, cdd, .fields vs, ccs⟩) (hv : vs[2]? = some (.str file tf)) (hf : ((P.main.file : Str) == file) = true) (lcc : K.lookup cc = some ⟨cl, cld, .cell (some (.ref D)), csl⟩) (hD : PySem.W.clsIn K D = some cdD)
    (h1 : (params.posonlyargs ++ params.args).head? = some ar) (h2 : ar.arg = "self") (h3 : scope.kind = .function) (h4 : scope.isCoroutine = false) (h5 : scope.isGenerator = false)
    (h6 : scope.names.lookup ("super" : Str) = some .globalImplicit) (h7 : scope.names.lookup ("__class__" : Str) = some .free) (h8 : scope.names.lookup ("self" : Str) = some .local) (h9 : scope.names.lookup ("value" : Str) = some .local)
    (h10 : ∀ x ∈ scope.names, x.2 ≠ .cell) (h11 : ∀ x ∈ scope.names, x.2 = .free → x.1 = "__class__") (h12 : (p2.endLine == p4.line) = true)
    (sup : PySem.W.nsIn K mainGlobals "super" = some none) (st : PySem.W.nsIn K cStatics "thirdparty.any" = some none) (top : (P.main.scope.names.lookup ("super" : Str)).isSome = false) :
    IniF P K D f (PySem.W.ksFn "__init__" "PictureError.__init__" params (iniBody p0 p1 p2 p3 p4 p5 p6 p7 p8 p9) scope dV kV doc pm an (.ref cda) ct cc) :=
  ⟨⟨oc, dV, kV, doc, pm, ct, ccl, cl, od, an, cdd, cld, osl, ccs, csl, params, scope, cda, cc, vs, file, tf, cdD, p0, p1, p2, p3, p4, p5, p6, p7, p8, p9, ar, rfl, l, c, lc, hv, hf, lcc, hD, h1, h2, h3, h4, h5, h6, h7, h8, h9, h10, h11, h12⟩, sup, st, top⟩
theorem inib_mk {K : PySem.W.Frag} {fd : FuncData} {T : Addr} {cl : Value} {d : Option Addr} {its : Array Value} {n : Nat} {sl : Array (Option Value)} (lT : K.lookup T = some ⟨cl, d, .seq its n, sl⟩)
    (h : ∀ us : List Value, us.length = 2 → ∃ k, bindArgs fd ⟨us, []⟩ = seqItems? (.ref T) >>= k ∧ k (some its) = pure (iniN.zip us)) : Binds K fd iniN [] := fun s us X hl => by
  rw [List.append_nil] at hl ⊢
  obtain ⟨k, e1, e2⟩ := h us hl
  have lk : ∀ M, PySem.W.Looks M s.heap (bindArgs fd ⟨us, []⟩) (iniN.zip us) := fun M => by
    rw [e1]
    exact fun A Q E s kp q => wpAny_bind (wpAny_seqItems (kp _ _ (X _ _ lT)) rfl ((PySem.W.Looks.of_pure e2) A Q E s kp q))
  exact fun M _ _ _ q => (lk M).here q
theorem inib_bind {body : List Stmt} {scope : Scope} {T : Addr} {kV doc pm cdv ct v : Value} {an : Option Addr} {cc : Addr} {q1 q2 : Pos} {ds : List Expr} : ∀ us : List Value, us.length = 2 → ∃ k, bindArgs (PySem.W.ksFn "__init__" "PictureError.__init__" { posonlyargs := [], args := [{ arg := "self", annotation := none, pos := q1 }, { arg := "value", annotation := none, pos := q2 }], vararg := none, kwonlyargs := [], kw_defaults := [], kwarg := none, defaults := ds } body scope (.ref T) kV doc pm an cdv ct cc) ⟨us, []⟩ = seqItems? (.ref T) >>= k ∧ k (some #[v]) = pure (iniN.zip us)
  | [_, _], _ => ⟨_, rfl, rfl⟩
theorem kit_mk {K : PySem.W.Frag} {C B : Addr} {b : Bool} (h2 : (PySem.W.clsIn K B).isSome = true) (h3 : PySem.W.typeIn K (.ref B) = some (.type "type")) (h4 : PySem.W.subIn K (.ref C) (.ref B) = some b) (h5 : C = B → b = true) : PySem.W.kitOne K (.ref C) (.ref B) = some b := by
  have e2 : ((PySem.W.clsIn K B).isSome && PySem.W.typeIn K (.ref B) == some (.type "type")) = true := by rw [h2, h3] <;> rfl
  show (if (Value.ref C == Value.ref B) = true then some true else (if ((PySem.W.clsIn K B).isSome && PySem.W.typeIn K (.ref B) == some (.type "type")) = true then PySem.W.subIn K (.ref C) (.ref B) else none)) = some b
  rw [if_pos e2]
  by_cases e : C = B
  · subst e
    rw [if_pos (by simp), h5 rfl]
  · rw [if_neg (by simpa using e), h4]
theorem exm_mk {K : PySem.W.Frag} {C B : Addr} (h1 : PySem.W.subIn K (.ref B) (.type "BaseException") = some true) (h2 : (PySem.W.clsIn K B).isSome = true) (h3 : PySem.W.typeIn K (.ref B) = some (.type "type")) (h4 : PySem.W.subIn K (.ref C) (.ref B) = some true) : PySem.W.exmOne K (.ref C) (.ref B) = some true := by
  have e1 : (PySem.W.subIn K (.ref B) (.type "BaseException") == some true) = true := by rw [h1] <;> rfl
  have e2 : ((PySem.W.clsIn K B).isSome && PySem.W.typeIn K (.ref B) == some (.type "type")) = true := by rw [h2, h3] <;> rfl
  show (if (PySem.W.subIn K (.ref B) (.type "BaseException") == some true) = true then (if ((PySem.W.clsIn K B).isSome && PySem.W.typeIn K (.ref B) == some (.type "type")) = true then PySem.W.subIn K (.ref C) (.ref B) else none) else none) = some true
  rw [if_pos e1, if_pos e2]
  exact h4
/-- what is known of a program's own exception classes: cas their places -/
structure XAll (P : Program) (K : PySem.W.Frag) (mg : Str → Option Value) (p : PrT) (cas : List Addr) (D fI : Addr) (fdI : FuncData) : Prop where
  cl : ∀ c x, p.cls[c]? = some x → XCls K mg x (cas.getD c 0) D fI
  ini : p.cls ≠ [] → IniF P K D fI fdI ∧ Binds K fdI iniN []
  sub : ∀ q ∈ p.cns, q.1 < p.cls.length ∧ ∀ c, c < p.cls.length → PySem.W.subIn K (.ref (cas.getD c 0)) (.ref (cas.getD q.1 0)) = some (q.2.contains c) ∧ (cas.getD c 0 = cas.getD q.1 0 → q.2.contains c = true)
  base : ∀ x ∈ p.base, ∃ j, p.cls[j]? = some x ∧ ∀ c, c < p.cls.length → PySem.W.subIn K (.ref (cas.getD c 0)) (.ref (cas.getD j 0)) = some true
theorem has_of {P : Program} {p : PrT} {K : PySem.W.Frag} {mg : Str → Option Value} {fas cas : List Addr} {fds : List FuncData} {D fI : Addr} {fdI : FuncData} (h : ∀ i d, p.ds[i]? = some d → DF K mg d (fas.getD i 0) (fds.getD i default)) (hb : ∀ x ∈ p.blt, mg x = none) (hg : ∀ q ∈ p.gis, ∃ u, mg q.1 = some u ∧ RelV (.int q.2) u)
    (hk : ∀ f ks ix, (f, ks, ix) ∈ p.kws → KB K (fds.getD f default) (((p.ds[f]?).map (·.ps)).getD []) ks ix) (hx : XAll P K mg p cas D fI fdI) : Has P p (plOf p K fas cas fds) K mg where
  hK := rfl
  fn := fun i d hd => by
    have D := h i d hd
    have hi := (List.getElem?_eq_some_iff.mp hd).1
    refine ⟨D.fn, D.mgf, D.bi, decide_eq_true hi, ?_, ?_⟩
    · show ((p.ds[i]?).map (·.nm)).getD default = _
      rw [hd]; rfl
    · show ((p.ds[i]?).map (·.ps)).getD [] = _
      rw [hd]; rfl
  has := fun i hi => ⟨_, List.getElem?_eq_getElem (of_decide_eq_true hi)⟩
  blt := hb
  gis := hg
  kw := fun f ks ix hkw => hk f ks ix (of_decide_eq_true hkw)
  kws := fun d hd => decide_eq_true hd
  cls := fun c x hc => by
    have hlt := (List.getElem?_eq_some_iff.mp hc).1
    have X := hx.cl c x hc
    obtain ⟨i1, i2⟩ := hx.ini (fun z => by rw [z] at hlt; cases hlt)
    exact ⟨X.mgx, X.exk, D, fI, fdI, ⟨decide_eq_true hlt, X.ini, i1, X.find, X.ty, i2⟩⟩
  known := fun c hc => ⟨_, List.getElem?_eq_getElem (of_decide_eq_true hc)⟩
  cns := fun q hq c hc => by
    have hlt : c < p.cls.length := of_decide_eq_true hc
    obtain ⟨q0, q1⟩ := hx.sub q hq
    obtain ⟨q1, q2⟩ := q1 c hlt
    have B := hx.cl q.1 _ (List.getElem?_eq_getElem q0)
    exact kit_mk B.exk.cl B.ini.oex.tyC q1 q2
  base := fun x hx' => by
    obtain ⟨j, hj, q⟩ := hx.base x hx'
    have B := hx.cl j x hj
    refine ⟨_, B.mgx, fun c hc => ?_⟩
    have hlt : c < p.cls.length := of_decide_eq_true hc
    have Cc := hx.cl c _ (List.getElem?_eq_getElem hlt)
    exact exm_mk B.ini.oex.exC B.exk.cl B.ini.oex.tyC (q c hlt)
end PY
set_option Elab.async false
set_option linter.all false
set_option maxRecDepth 100000
/-! # the defs of k90 -/
namespace PY.k90
open PySem L2 PY
def top (i : Nat) : Stmt := PySem.Challenge.pw_linepictures_k90_asking_refused.main.body.getD i (.Pass ⟨0, 0, 0, 0⟩)
def b_is_whole : S := (.seq (.ret (.and (.isi (.sl 0) .int) (.not (.isi (.sl 0) .bool))))
  .nil)
def d_is_whole : DefT := ⟨"is_whole", top 9, ["value"], ["value"], some b_is_whole⟩
def b_common_divisor : S := (.seq (.par [0, 1] (.cons (.bi .abs (.cons (.sl 0) .nil)) (.cons (.bi .abs (.cons (.sl 1) .nil)) .nil)))
  (.seq (.while (.cmp .gt (.sl 1) (.int 0)) (.seq (.par [0, 1] (.cons (.sl 1) (.cons (.bin .mod (.sl 0) (.sl 1)) .nil)))
  .nil))
  (.seq (.ret (.sl 0))
  .nil)))
def d_common_divisor : DefT := ⟨"common_divisor", top 10, ["one", "other"], ["one", "other"], some b_common_divisor⟩
def b_is_board_by : S := (.seq (.iff (.or (.not (.isi (.sl 0) .tuple)) (.or (.cmp .ne (.bi .len (.cons (.sl 0) .nil)) (.int 2)) (.not (.bi .all (.cons (.comp false [1] (.nm 1) (.sl 0) .none (.call 0 (.cons (.sl 1) .nil))) .nil))))) (.seq (.ret (.bl false))
  .nil) .nil)
  (.seq (.ret (.and (.chain .le .le (.int 1) (.ix (.sl 0) (.int 0)) (.gi "MOST_SIDE" 6)) (.and (.chain .le .le (.int 1) (.ix (.sl 0) (.int 1)) (.gi "MOST_SIDE" 6)) (.cmp .le (.bin .mul (.ix (.sl 0) (.int 0)) (.ix (.sl 0) (.int 1))) (.gi "MOST_CELLS" 25)))))
  .nil))
def d_is_board_by : DefT := ⟨"is_board_by", top 16, ["value", "one"], ["value"], some b_is_board_by⟩
def b_check_board : S := (.seq (.iff (.not (.call 2 (.cons (.sl 0) .nil))) (.seq (.raise 1 (.sl 0))
  .nil) .nil)
  .nil)
def d_check_board : DefT := ⟨"check_board", top 17, ["board"], ["board"], some b_check_board⟩
def b_cells_of : S := (.seq (.set 1 (.lst false .nil))
  (.seq (.for (.nm 2) (.rng1 (.ix (.sl 0) (.int 0))) (.seq (.set 1 (.bin .add (.sl 1) (.comp false [3] (.nm 3) (.rng1 (.ix (.sl 0) (.int 1))) .none (.tup false (.cons (.sl 2) (.cons (.sl 3) .nil))))))
  .nil))
  (.seq (.ret (.sl 1))
  .nil)))
def d_cells_of : DefT := ⟨"cells_of", top 18, ["board", "found", "row", "column"], ["board"], some b_cells_of⟩
def b_is_square_by : S := (.seq (.iff (.or (.not (.isi (.sl 1) .list)) (.cmp .ne (.bi .len (.cons (.sl 1) .nil)) (.ix (.sl 0) (.int 0)))) (.seq (.ret (.bl false))
  .nil) .nil)
  (.seq (.ret (.bi .all (.cons (.comp false [2] (.nm 2) (.sl 1) .none (.and (.isi (.sl 2) .list) (.cmp .eq (.bi .len (.cons (.sl 2) .nil)) (.ix (.sl 0) (.int 1))))) .nil)))
  .nil))
def d_is_square_by : DefT := ⟨"is_square_by", top 19, ["board", "value", "row"], ["board", "value"], some b_is_square_by⟩
def b_is_picture_on : S := (.seq (.iff (.not (.call 5 (.cons (.sl 0) (.cons (.sl 1) .nil)))) (.seq (.ret (.bl false))
  .nil) .nil)
  (.seq (.ret (.bi .all (.cons (.comp false [2] (.nm 2) (.sl 1) .none (.bi .all (.cons (.comp false [3] (.nm 3) (.sl 2) .none (.and (.call 0 (.cons (.sl 3) .nil)) (.chain .le .le (.int 0) (.sl 3) (.int 1)))) .nil))) .nil)))
  .nil))
def d_is_picture_on : DefT := ⟨"is_picture_on", top 20, ["board", "value", "row", "one"], ["board", "value"], some b_is_picture_on⟩
def b_is_direction_by : S := (.seq (.iff (.or (.not (.isi (.sl 0) .tuple)) (.or (.cmp .ne (.bi .len (.cons (.sl 0) .nil)) (.int 2)) (.not (.bi .all (.cons (.comp false [3] (.nm 3) (.sl 0) .none (.call 0 (.cons (.sl 3) .nil))) .nil))))) (.seq (.ret (.bl false))
  .nil) .nil)
  (.seq (.setT [1, 2] (.sl 0))
  (.seq (.iff (.or (.not (.chain .le .le (.int 0) (.sl 1) (.gi "MOST_STEP" 3))) (.or (.not (.chain .le .le (.neg (.gi "MOST_STEP" 3)) (.sl 2) (.gi "MOST_STEP" 3))) (.cmp .ne (.call 1 (.cons (.sl 1) (.cons (.sl 2) .nil))) (.int 1)))) (.seq (.ret (.bl false))
  .nil) .nil)
  (.seq (.ret (.or (.cmp .gt (.sl 1) (.int 0)) (.cmp .eq (.sl 2) (.int 1))))
  .nil))))
def d_is_direction_by : DefT := ⟨"is_direction_by", top 21, ["value", "down", "across", "one"], ["value"], some b_is_direction_by⟩
def b_are_directions_by : S := (.seq (.iff (.or (.not (.isi (.sl 0) .list)) (.not (.chain .le .le (.int 1) (.bi .len (.cons (.sl 0) .nil)) (.gi "MOST_DIRECTIONS" 4)))) (.seq (.ret (.bl false))
  .nil) .nil)
  (.seq (.iff (.not (.bi .all (.cons (.comp false [1] (.nm 1) (.sl 0) .none (.call 7 (.cons (.sl 1) .nil))) .nil))) (.seq (.ret (.bl false))
  .nil) .nil)
  (.seq (.ret (.bi .all (.cons (.comp false [2, 1] (.tp [2, 1]) (.enum (.sl 0)) .none (.cmp .nmem (.sl 1) (.slice (.sl 0) .none (.sl 2)))) .nil)))
  .nil)))
def d_are_directions_by : DefT := ⟨"are_directions_by", top 22, ["value", "one", "at"], ["value"], some b_are_directions_by⟩
def b_check_directions : S := (.seq (.iff (.not (.call 8 (.cons (.sl 0) .nil))) (.seq (.raise 2 (.sl 0))
  .nil) .nil)
  .nil)
def d_check_directions : DefT := ⟨"check_directions", top 23, ["directions"], ["directions"], some b_check_directions⟩
def b_number_of : S := (.seq (.ret (.bin .sub (.bin .mul (.ix (.sl 0) (.int 1)) (.ix (.sl 1) (.int 0))) (.bin .mul (.ix (.sl 0) (.int 0)) (.ix (.sl 1) (.int 1)))))
  .nil)
def d_number_of : DefT := ⟨"number_of", top 24, ["direction", "cell"], ["direction", "cell"], some b_number_of⟩
def b_lines_by : S := (.seq (.set 2 (.dnew true))
  (.seq (.for (.nm 3) (.call 4 (.cons (.sl 0) .nil)) (.seq (.sdApp 2 (.call 10 (.cons (.sl 1) (.cons (.sl 3) .nil))) (.sl 3))
  .nil))
  (.seq (.ret (.pr1 .dvals (.sl 2)))
  .nil)))
def d_lines_by : DefT := ⟨"lines_by", top 25, ["board", "direction", "told", "cell"], ["board", "direction"], some b_lines_by⟩
def b_all_lines : S := (.seq (.set 2 (.lst false .nil))
  (.seq (.for (.nm 3) (.sl 1) (.seq (.set 2 (.bin .add (.sl 2) (.call 11 (.cons (.sl 0) (.cons (.sl 3) .nil)))))
  .nil))
  (.seq (.ret (.sl 2))
  .nil)))
def d_all_lines : DefT := ⟨"all_lines", top 26, ["board", "directions", "found", "direction"], ["board", "directions"], some b_all_lines⟩
def b_sum_along : S := (.seq (.ret (.bi .sum (.cons (.comp false [2, 3] (.tp [2, 3]) (.sl 1) .none (.ix (.ix (.sl 0) (.sl 2)) (.sl 3))) .nil)))
  .nil)
def d_sum_along : DefT := ⟨"sum_along", top 27, ["table", "line", "row", "column"], ["table", "line"], some b_sum_along⟩
def b_is_cell_of : S := (.seq (.iff (.or (.not (.isi (.sl 1) .tuple)) (.or (.cmp .ne (.bi .len (.cons (.sl 1) .nil)) (.int 2)) (.not (.bi .all (.cons (.comp false [2] (.nm 2) (.sl 1) .none (.call 0 (.cons (.sl 2) .nil))) .nil))))) (.seq (.ret (.bl false))
  .nil) .nil)
  (.seq (.ret (.and (.chain .le .lt (.int 0) (.ix (.sl 1) (.int 0)) (.ix (.sl 0) (.int 0))) (.chain .le .lt (.int 0) (.ix (.sl 1) (.int 1)) (.ix (.sl 0) (.int 1)))))
  .nil))
def d_is_cell_of : DefT := ⟨"is_cell_of", top 31, ["board", "value", "one"], ["board", "value"], some b_is_cell_of⟩
def b_is_fact_by : S := (.seq (.iff (.or (.not (.isi (.sl 2) .tuple)) (.or (.cmp .ne (.bi .len (.cons (.sl 2) .nil)) (.int 3)) (.or (.not (.isi (.ix (.sl 2) (.int 0)) .str)) (.not (.call 0 (.cons (.ix (.sl 2) (.int 2)) .nil)))))) (.seq (.ret (.bl false))
  .nil) .nil)
  (.seq (.iff (.cmp .eq (.ix (.sl 2) (.int 0)) (.str "line")) (.seq (.ret (.and (.call 0 (.cons (.ix (.sl 2) (.int 1)) .nil)) (.and (.chain .le .lt (.int 0) (.ix (.sl 2) (.int 1)) (.bi .len (.cons (.sl 1) .nil))) (.chain .le .le (.int 0) (.ix (.sl 2) (.int 2)) (.bi .len (.cons (.ix (.sl 1) (.ix (.sl 2) (.int 1))) .nil))))))
  .nil) .nil)
  (.seq (.ret (.and (.cmp .eq (.ix (.sl 2) (.int 0)) (.str "cell")) (.and (.call 14 (.cons (.sl 0) (.cons (.ix (.sl 2) (.int 1)) .nil))) (.chain .le .le (.int 0) (.ix (.sl 2) (.int 2)) (.int 1)))))
  .nil)))
def d_is_fact_by : DefT := ⟨"is_fact_by", top 32, ["board", "lines", "value"], ["board", "lines", "value"], some b_is_fact_by⟩
def b_are_facts_by : S := (.seq (.iff (.or (.not (.isi (.sl 2) .list)) (.cmp .gt (.bi .len (.cons (.sl 2) .nil)) (.gi "MOST_FACTS" 40))) (.seq (.ret (.bl false))
  .nil) .nil)
  (.seq (.ret (.bi .all (.cons (.comp false [3] (.nm 3) (.sl 2) .none (.call 15 (.cons (.sl 0) (.cons (.sl 1) (.cons (.sl 3) .nil))))) .nil)))
  .nil))
def d_are_facts_by : DefT := ⟨"are_facts_by", top 33, ["board", "lines", "value", "fact"], ["board", "lines", "value"], some b_are_facts_by⟩
def b_check_small : S := (.seq (.expr (.call 3 (.cons (.sl 0) .nil)))
  (.seq (.iff (.cmp .gt (.bin .mul (.ix (.sl 0) (.int 0)) (.ix (.sl 0) (.int 1))) (.gi "MOST_ASKED" 12)) (.seq (.raise 6 (.bin .mul (.ix (.sl 0) (.int 0)) (.ix (.sl 0) (.int 1))))
  .nil) .nil)
  (.seq (.expr (.call 9 (.cons (.sl 1) .nil)))
  .nil)))
def d_check_small : DefT := ⟨"check_small", top 34, ["board", "directions"], ["board", "directions"], some b_check_small⟩
def b_are_facts : S := (.seq (.expr (.call 17 (.cons (.sl 0) (.cons (.sl 1) .nil))))
  (.seq (.ret (.call 16 (.cons (.sl 0) (.cons (.call 12 (.cons (.sl 0) (.cons (.sl 1) .nil))) (.cons (.sl 2) .nil)))))
  .nil))
def d_are_facts : DefT := ⟨"are_facts", top 35, ["board", "directions", "value"], ["board", "directions", "value"], some b_are_facts⟩
def b_check_facts : S := (.seq (.expr (.call 17 (.cons (.sl 0) (.cons (.sl 1) .nil))))
  (.seq (.set 3 (.call 12 (.cons (.sl 0) (.cons (.sl 1) .nil))))
  (.seq (.iff (.not (.call 16 (.cons (.sl 0) (.cons (.sl 3) (.cons (.sl 2) .nil))))) (.seq (.raise 4 (.sl 2))
  .nil) .nil)
  (.seq (.ret (.sl 3))
  .nil))))
def d_check_facts : DefT := ⟨"check_facts", top 36, ["board", "directions", "facts", "lines"], ["board", "directions", "facts"], some b_check_facts⟩
def b_keeps : S := (.seq (.iff (.cmp .eq (.ix (.sl 2) (.int 0)) (.str "line")) (.seq (.ret (.cmp .eq (.call 13 (.cons (.sl 1) (.cons (.ix (.sl 0) (.ix (.sl 2) (.int 1))) .nil))) (.ix (.sl 2) (.int 2))))
  .nil) .nil)
  (.seq (.ret (.cmp .eq (.ix (.ix (.sl 1) (.ix (.ix (.sl 2) (.int 1)) (.int 0))) (.ix (.ix (.sl 2) (.int 1)) (.int 1))) (.ix (.sl 2) (.int 2))))
  .nil))
def d_keeps : DefT := ⟨"keeps", top 37, ["lines", "picture", "fact"], ["lines", "picture", "fact"], some b_keeps⟩
def b_every_picture : S := (.seq (.set 1 (.lst false (.cons (.lst false .nil) .nil)))
  (.seq (.for (.nm 2) (.rng1 (.ix (.sl 0) (.int 1))) (.seq (.set 1 (.comp2 false [4, 5] [5] (.nm 4) (.sl 1) (.nm 5) (.tup false (.cons (.int 0) (.cons (.int 1) .nil))) (.bin .add (.sl 4) (.lst false (.cons (.sl 5) .nil)))))
  .nil))
  (.seq (.set 3 (.lst false (.cons (.lst false .nil) .nil)))
  (.seq (.for (.nm 2) (.rng1 (.ix (.sl 0) (.int 0))) (.seq (.set 3 (.comp2 false [6, 4] [4] (.nm 6) (.sl 3) (.nm 4) (.sl 1) (.bin .add (.sl 6) (.lst false (.cons (.sl 4) .nil)))))
  .nil))
  (.seq (.ret (.sl 3))
  .nil)))))
def d_every_picture : DefT := ⟨"every_picture", top 38, ["board", "rows", "_", "found", "row", "one", "picture"], ["board"], some b_every_picture⟩
def b_left_by : S := (.seq (.set 3 (.comp false [4] (.nm 4) (.call 21 (.cons (.sl 0) .nil)) (.bi .all (.cons (.comp false [6] (.nm 6) (.sl 2) .none (.call 20 (.cons (.sl 1) (.cons (.sl 4) (.cons (.sl 6) .nil))))) .nil)) (.sl 4)))
  (.seq (.ret (.comp false [4] (.nm 4) (.sl 3) .none (.comp false [5] (.nm 5) (.sl 4) .none (.bi .list (.cons (.sl 5) .nil)))))
  .nil))
def d_left_by : DefT := ⟨"left_by", top 39, ["board", "lines", "facts", "found", "picture", "row", "fact"], ["board", "lines", "facts"], some b_left_by⟩
def b_left_pictures : S := (.seq (.ret (.call 22 (.cons (.sl 0) (.cons (.call 19 (.cons (.sl 0) (.cons (.sl 1) (.cons (.sl 2) .nil)))) (.cons (.sl 2) .nil)))))
  .nil)
def d_left_pictures : DefT := ⟨"left_pictures", top 40, ["board", "directions", "facts"], ["board", "directions", "facts"], some b_left_pictures⟩
def b_how_many_left : S := (.seq (.ret (.bi .len (.cons (.call 22 (.cons (.sl 0) (.cons (.call 19 (.cons (.sl 0) (.cons (.sl 1) (.cons (.sl 2) .nil)))) (.cons (.sl 2) .nil)))) .nil)))
  .nil)
def d_how_many_left : DefT := ⟨"how_many_left", top 41, ["board", "directions", "facts"], ["board", "directions", "facts"], some b_how_many_left⟩
def b_sure_by : S := (.seq (.iff (.cmp .eq (.sl 1) (.lst false .nil)) (.seq (.ret .non)
  .nil) .nil)
  (.seq (.set 2 (.comp true [3] (.nm 3) (.ix (.sl 1) (.int 0)) .none (.lcp (.sl 3))))
  (.seq (.for (.tp [3, 4]) (.call 4 (.cons (.sl 0) .nil)) (.seq (.iff (.bor (.bi .any (.cons (.comp false [5] (.nm 5) (.sl 1) .none (.cmp .ne (.ix (.ix (.sl 5) (.sl 3)) (.sl 4)) (.ix (.ix (.sl 2) (.sl 3)) (.sl 4)))) .nil))) (.seq (.setAt 2 (.sl 3) (.sl 4) .non)
  .nil) .nil)
  .nil))
  (.seq (.ret (.sl 2))
  .nil))))
def d_sure_by : DefT := ⟨"sure_by", top 42, ["board", "pictures", "found", "row", "column", "picture"], ["board", "pictures"], some b_sure_by⟩
def b_sure_left : S := (.seq (.set 3 (.call 19 (.cons (.sl 0) (.cons (.sl 1) (.cons (.sl 2) .nil)))))
  (.seq (.ret (.call 25 (.cons (.sl 0) (.cons (.call 22 (.cons (.sl 0) (.cons (.sl 3) (.cons (.sl 2) .nil)))) .nil))))
  .nil))
def d_sure_left : DefT := ⟨"sure_left", top 43, ["board", "directions", "facts", "lines"], ["board", "directions", "facts"], some b_sure_left⟩
def b_counted : S := (.seq (.ret (.comp false [1] (.nm 1) (.pr1 .sset (.sl 0)) .none (.tup false (.cons (.sl 1) (.cons (.pr2 .count (.sl 0) (.sl 1)) .nil)))))
  .nil)
def d_counted : DefT := ⟨"counted", top 44, ["numbers", "number"], ["numbers"], some b_counted⟩
def b_parts_by_line : S := (.seq (.set 4 (.call 19 (.cons (.sl 0) (.cons (.sl 1) (.cons (.sl 2) .nil)))))
  (.seq (.iff (.or (.not (.call 0 (.cons (.sl 3) .nil))) (.not (.chain .le .lt (.int 0) (.sl 3) (.bi .len (.cons (.sl 4) .nil))))) (.seq (.raise 3 (.sl 3))
  .nil) .nil)
  (.seq (.ret (.call 27 (.cons (.comp false [5] (.nm 5) (.call 22 (.cons (.sl 0) (.cons (.sl 4) (.cons (.sl 2) .nil)))) .none (.call 13 (.cons (.sl 5) (.cons (.ix (.sl 4) (.sl 3)) .nil)))) .nil)))
  .nil)))
def d_parts_by_line : DefT := ⟨"parts_by_line", top 45, ["board", "directions", "facts", "number", "lines", "picture"], ["board", "directions", "facts", "number"], some b_parts_by_line⟩
def b_most_alike : S := (.seq (.ret (.bi .maxL (.cons (.comp false [1, 2] (.tp [1, 2]) (.call 27 (.cons (.sl 0) .nil)) .none (.sl 2)) .nil)))
  .nil)
def d_most_alike : DefT := ⟨"most_alike", top 46, ["numbers", "_", "many"], ["numbers"], some b_most_alike⟩
def b_best_among : S := (.seq (.set 2 .non)
  (.seq (.for (.tp [3, 4]) (.enum (.sl 0)) (.seq (.set 5 (.ite (.cmp .gt (.bi .len (.cons (.sl 1) .nil)) (.int 1)) (.call 29 (.cons (.comp false [6] (.nm 6) (.sl 1) .none (.call 13 (.cons (.sl 6) (.cons (.sl 4) .nil)))) .nil)) (.int 0)))
  (.seq (.iff (.and (.cmp .gt (.bi .len (.cons (.sl 1) .nil)) (.int 1)) (.or (.cmp .is (.sl 2) .non) (.cmp .lt (.sl 5) (.ix (.sl 2) (.int 1))))) (.seq (.set 2 (.tup false (.cons (.sl 3) (.cons (.sl 5) .nil))))
  .nil) .nil)
  .nil)))
  (.seq (.ret (.sl 2))
  .nil)))
def d_best_among : DefT := ⟨"best_among", top 47, ["lines", "pictures", "best", "number", "line", "most", "picture"], ["lines", "pictures"], some b_best_among⟩
def b_best_line : S := (.seq (.set 3 (.call 19 (.cons (.sl 0) (.cons (.sl 1) (.cons (.sl 2) .nil)))))
  (.seq (.ret (.call 30 (.cons (.sl 3) (.cons (.call 22 (.cons (.sl 0) (.cons (.sl 3) (.cons (.sl 2) .nil)))) .nil))))
  .nil))
def d_best_line : DefT := ⟨"best_line", top 48, ["board", "directions", "facts", "lines"], ["board", "directions", "facts"], some b_best_line⟩
def b_best_cell : S := (.seq (.par [4, 5] (.cons (.call 19 (.cons (.sl 0) (.cons (.sl 1) (.cons (.sl 2) .nil)))) (.cons .non .nil)))
  (.seq (.set 3 (.call 22 (.cons (.sl 0) (.cons (.sl 4) (.cons (.sl 2) .nil)))))
  (.seq (.for (.tp [6, 7]) (.ite (.cmp .gt (.bi .len (.cons (.sl 3) .nil)) (.int 1)) (.call 4 (.cons (.sl 0) .nil)) (.lst false .nil)) (.seq (.set 8 (.call 29 (.cons (.comp false [9] (.nm 9) (.sl 3) .none (.ix (.ix (.sl 9) (.sl 6)) (.sl 7))) .nil)))
  (.seq (.iff (.or (.cmp .is (.sl 5) .non) (.cmp .lt (.sl 8) (.ix (.sl 5) (.int 1)))) (.seq (.set 5 (.tup false (.cons (.tup false (.cons (.sl 6) (.cons (.sl 7) .nil))) (.cons (.sl 8) .nil))))
  .nil) .nil)
  .nil)))
  (.seq (.ret (.sl 5))
  .nil))))
def d_best_cell : DefT := ⟨"best_cell", top 49, ["board", "directions", "facts", "pictures", "lines", "best", "row", "column", "most", "picture"], ["board", "directions", "facts"], some b_best_cell⟩
def b_check_few : S := (.seq (.set 3 (.call 19 (.cons (.sl 0) (.cons (.sl 1) (.cons (.sl 2) .nil)))))
  (.seq (.set 4 (.call 22 (.cons (.sl 0) (.cons (.sl 3) (.cons (.sl 2) .nil)))))
  (.seq (.iff (.cmp .eq (.sl 4) (.lst false .nil)) (.seq (.raise 5 (.sl 2))
  .nil) .nil)
  (.seq (.iff (.cmp .gt (.bi .len (.cons (.sl 4) .nil)) (.gi "MOST_LEFT" 24)) (.seq (.raise 6 (.bi .len (.cons (.sl 4) .nil)))
  .nil) .nil)
  (.seq (.ret (.tup false (.cons (.sl 3) (.cons (.sl 4) .nil))))
  .nil)))))
def d_check_few : DefT := ⟨"check_few", top 52, ["board", "directions", "facts", "lines", "pictures"], ["board", "directions", "facts"], some b_check_few⟩
def b_sums_of_all : S := (.seq (.ret (.comp false [2] (.nm 2) (.sl 0) .none (.call 13 (.cons (.sl 1) (.cons (.sl 2) .nil)))))
  .nil)
def d_sums_of_all : DefT := ⟨"sums_of_all", top 53, ["lines", "picture", "line"], ["lines", "picture"], some b_sums_of_all⟩
def b_parted_lots : S := (.seq (.set 3 (.dnew true))
  (.seq (.for (.nm 4) (.sl 1) (.seq (.sdApp 3 (.ix (.ix (.sl 0) (.sl 4)) (.sl 2)) (.sl 4))
  .nil))
  (.seq .never
  .nil)))
def d_parted_lots : DefT := ⟨"parted_lots", top 54, ["sums", "lot", "number", "told", "at"], ["sums", "lot", "number"], some b_parted_lots⟩
def b_alike_by : S := (.seq (.for (.tp [2, 3]) (.enum (.sl 1)) (.seq (.for (.nm 4) (.rng2 (.bin .add (.sl 2) (.int 1)) (.bi .len (.cons (.sl 1) .nil))) (.seq (.iff (.cmp .eq (.ix (.sl 0) (.sl 2)) (.ix (.sl 0) (.sl 4))) (.seq (.ret (.tup false (.cons (.sl 3) (.cons (.ix (.sl 1) (.sl 4)) .nil))))
  .nil) .nil)
  .nil))
  .nil))
  (.seq (.ret .non)
  .nil))
def d_alike_by : DefT := ⟨"alike_by", top 56, ["sums", "pictures", "early", "picture", "late"], ["sums", "pictures"], some b_alike_by⟩
def b_asks_by : S := (.seq (.set 2 (.comp false [6] (.nm 6) (.sl 1) .none (.call 34 (.cons (.sl 0) (.cons (.sl 6) .nil)))))
  (.seq (.set 3 (.call 36 (.cons (.sl 2) (.cons (.sl 1) .nil))))
  (.seq (.iff (.cmp .isnot (.sl 3) .non) (.seq (.ret (.tup false (.cons (.str "alike") (.cons (.ix (.sl 3) (.int 0)) (.cons (.ix (.sl 3) (.int 1)) .nil)))))
  .nil) .nil)
  (.seq .never
  (.seq .never
  .nil)))))
def d_asks_by : DefT := ⟨"asks_by", top 57, ["lines", "pictures", "sums", "alike", "asker", "lot", "picture"], ["lines", "pictures"], some b_asks_by⟩
def b_least_asks : S := (.seq (.setT [3, 4] (.call 33 (.cons (.sl 0) (.cons (.sl 1) (.cons (.sl 2) .nil)))))
  (.seq (.ret (.call 37 (.cons (.sl 3) (.cons (.sl 4) .nil))))
  .nil))
def d_least_asks : DefT := ⟨"least_asks", top 58, ["board", "directions", "facts", "lines", "pictures"], ["board", "directions", "facts"], some b_least_asks⟩
def b_depth_of : S := (.seq (.par [3, 4] (.cons (.lst true (.cons (.tup true (.cons (.sl 2) (.cons (.sl 1) (.cons (.int 0) .nil)))) .nil)) (.cons (.int 0) .nil)))
  (.seq (.while (.bor (.cmp .ne (.sl 3) (.lst false .nil))) (.seq (.setT [5, 6, 7] (.pop 3))
  (.seq (.iff (.or (.not (.isi (.sl 5) .tuple)) (.or (.cmp .nmem (.bi .len (.cons (.sl 5) .nil)) (.tup false (.cons (.int 2) (.cons (.int 3) .nil)))) (.not (.isi (.ix (.sl 5) (.int 0)) .str)))) (.seq (.ret .non)
  .nil) .nil)
  (.seq (.set 4 (.bi .max2 (.cons (.sl 4) (.cons (.sl 7) .nil))))
  (.seq (.iff (.and (.cmp .eq (.ix (.sl 5) (.int 0)) (.str "known")) (.cmp .eq (.bi .len (.cons (.sl 5) .nil)) (.int 2))) (.seq (.iff (.or (.cmp .ne (.bi .len (.cons (.sl 6) .nil)) (.int 1)) (.or (.not (.call 6 (.cons (.tup false (.cons (.bi .len (.cons (.ix (.sl 6) (.int 0)) .nil)) (.cons (.bi .len (.cons (.ix (.ix (.sl 6) (.int 0)) (.int 0)) .nil)) .nil))) (.cons (.ix (.sl 5) (.int 1)) .nil)))) (.cmp .ne (.ix (.sl 5) (.int 1)) (.ix (.sl 6) (.int 0))))) (.seq (.ret .non)
  .nil) .nil)
  .nil) (.seq (.set 8 (.call 40 (.cons (.sl 0) (.cons (.sl 6) (.cons (.sl 5) .nil)))))
  (.seq (.iff (.cmp .is (.sl 8) .non) (.seq (.ret .non)
  .nil) .nil)
  (.seq (.set 3 (.bor (.bin .add (.sl 3) (.comp false [9, 10] (.tp [9, 10]) (.sl 8) .none (.tup false (.cons (.sl 9) (.cons (.sl 10) (.cons (.bin .add (.sl 7) (.int 1)) .nil))))))))
  .nil))))
  .nil)))))
  (.seq (.ret (.sl 4))
  .nil)))
def d_depth_of : DefT := ⟨"depth_of", top 59, ["lines", "pictures", "value", "waiting", "deepest", "tree", "lot", "depth", "more", "late", "part"], ["lines", "pictures", "value"], some b_depth_of⟩
def b_branches_of : S := (.seq (.iff (.or (.cmp .ne (.ix (.sl 2) (.int 0)) (.str "ask")) (.or (.cmp .ne (.bi .len (.cons (.sl 2) .nil)) (.int 3)) (.or (.not (.call 0 (.cons (.ix (.sl 2) (.int 1)) .nil))) (.not (.chain .le .lt (.int 0) (.ix (.sl 2) (.int 1)) (.bi .len (.cons (.sl 0) .nil))))))) (.seq (.ret .non)
  .nil) .nil)
  (.seq (.iff (.or (.not (.isi (.ix (.sl 2) (.int 2)) .list)) (.cmp .lt (.bi .len (.cons (.ix (.sl 2) (.int 2)) .nil)) (.int 2))) (.seq (.ret .non)
  .nil) .nil)
  (.seq (.iff (.not (.bi .all (.cons (.comp false [8] (.nm 8) (.ix (.sl 2) (.int 2)) .none (.and (.isi (.sl 8) .tuple) (.and (.cmp .eq (.bi .len (.cons (.sl 8) .nil)) (.int 2)) (.call 0 (.cons (.ix (.sl 8) (.int 0)) .nil))))) .nil))) (.seq (.ret .non)
  .nil) .nil)
  (.seq (.set 3 (.comp false [7] (.nm 7) (.sl 1) .none (.call 13 (.cons (.sl 7) (.cons (.ix (.sl 0) (.ix (.sl 2) (.int 1))) .nil)))))
  (.seq (.iff (.cmp .ne (.comp false [8] (.nm 8) (.ix (.sl 2) (.int 2)) .none (.ix (.sl 8) (.int 0))) (.pr1 .sset (.sl 3))) (.seq (.ret .non)
  .nil) .nil)
  (.seq (.set 4 (.lst true .nil))
  (.seq (.for (.tp [5, 6]) (.ix (.sl 2) (.int 2)) (.seq .never
  .nil))
  (.seq (.ret (.sl 4))
  .nil))))))))
def d_branches_of : DefT := ⟨"branches_of", top 60, ["lines", "lot", "tree", "sums", "found", "one", "late", "picture", "pair", "own"], ["lines", "lot", "tree"], some b_branches_of⟩
def b_is_asking_tree : S := (.seq (.setT [4, 5] (.call 33 (.cons (.sl 0) (.cons (.sl 1) (.cons (.sl 2) .nil)))))
  (.seq (.ret (.cmp .isnot (.call 39 (.cons (.sl 4) (.cons (.sl 5) (.cons (.sl 3) .nil)))) .non))
  .nil))
def d_is_asking_tree : DefT := ⟨"is_asking_tree", top 61, ["board", "directions", "facts", "value", "lines", "pictures"], ["board", "directions", "facts", "value"], some b_is_asking_tree⟩
def b_is_least_asks : S := (.seq (.setT [5, 6] (.call 33 (.cons (.sl 0) (.cons (.sl 1) (.cons (.sl 2) .nil)))))
  (.seq (.iff (.or (.not (.isi (.sl 3) .tuple)) (.or (.cmp .ne (.bi .len (.cons (.sl 3) .nil)) (.int 3)) (.not (.isi (.ix (.sl 3) (.int 0)) .str)))) (.seq (.ret (.bl false))
  .nil) .nil)
  (.seq (.set 4 (.call 37 (.cons (.sl 5) (.cons (.sl 6) .nil))))
  (.seq (.iff (.cmp .eq (.ix (.sl 3) (.int 0)) (.str "alike")) (.seq (.iff (.or (.not (.bi .all (.cons (.comp false [7] (.nm 7) (.slice (.sl 3) (.int 1) .none) .none (.and (.call 6 (.cons (.sl 0) (.cons (.sl 7) .nil))) (.cmp .mem (.sl 7) (.sl 6)))) .nil))) (.cmp .eq (.ix (.sl 3) (.int 1)) (.ix (.sl 3) (.int 2)))) (.seq (.ret (.bl false))
  .nil) .nil)
  (.seq (.ret (.cmp .eq (.call 34 (.cons (.sl 5) (.cons (.ix (.sl 3) (.int 1)) .nil))) (.call 34 (.cons (.sl 5) (.cons (.ix (.sl 3) (.int 2)) .nil)))))
  .nil)) .nil)
  (.seq (.iff (.or (.cmp .ne (.ix (.sl 3) (.int 0)) (.str "told")) (.or (.cmp .ne (.ix (.sl 4) (.int 0)) (.str "told")) (.or (.not (.call 0 (.cons (.ix (.sl 3) (.int 1)) .nil))) (.cmp .ne (.ix (.sl 3) (.int 1)) (.ix (.sl 4) (.int 1)))))) (.seq (.ret (.bl false))
  .nil) .nil)
  (.seq (.ret (.cmp .eq (.call 39 (.cons (.sl 5) (.cons (.sl 6) (.cons (.ix (.sl 3) (.int 2)) .nil)))) (.ix (.sl 3) (.int 1))))
  .nil))))))
def d_is_least_asks : DefT := ⟨"is_least_asks", top 62, ["board", "directions", "facts", "value", "told", "lines", "pictures", "one"], ["board", "directions", "facts", "value"], some b_is_least_asks⟩
def b__law_calls : S := (.seq (.set 0 (.lst false (.cons (.str "board") (.cons (.str "directions") .nil))))
  (.seq (.set 1 (.bin .add (.comp false [2] (.nm 2) (.lst false (.cons (.fnv 23) (.cons (.fnv 24) (.cons (.fnv 26) (.cons (.fnv 31) (.cons (.fnv 32) .nil)))))) .none (.tup false (.cons (.sl 2) (.cons (.bin .add (.sl 0) (.lst false (.cons (.str "facts") .nil))) .nil)))) (.lst false (.cons (.tup false (.cons (.fnv 18) (.cons (.bin .add (.sl 0) (.lst false (.cons (.str "any") .nil))) .nil))) .nil))))
  (.seq (.set 1 (.bin .add (.sl 1) (.lst false (.cons (.tup false (.cons (.fnv 28) (.cons (.bin .add (.sl 0) (.lst false (.cons (.str "facts") (.cons (.str "number") .nil)))) .nil))) (.cons (.tup false (.cons (.fnv 38) (.cons (.bin .add (.sl 0) (.lst false (.cons (.str "few") .nil))) .nil))) .nil)))))
  (.seq (.ret (.bin .add (.sl 1) (.lst false (.cons (.tup false (.cons (.fnv 42) (.cons (.bin .add (.sl 0) (.lst false (.cons (.str "few") (.cons (.str "any") .nil)))) .nil))) (.cons (.tup false (.cons (.fnv 41) (.cons (.bin .add (.sl 0) (.lst false (.cons (.str "few") (.cons (.str "any") .nil)))) .nil))) .nil)))))
  .nil))))
def d__law_calls : DefT := ⟨"_law_calls", top 64, ["start", "found", "one"], [], some b__law_calls⟩
def b__law_right : S := (.seq (.set 1 (.dlit true [.inr "board", .inr "directions", .inr "facts", .inr "any", .inr "number"] (.cons (.tup false (.cons (.int 2) (.cons (.int 3) .nil))) (.cons (.lst false (.cons (.tup false (.cons (.int 0) (.cons (.int 1) .nil))) (.cons (.tup false (.cons (.int 1) (.cons (.neg (.int 1)) .nil))) .nil))) (.cons (.lst false (.cons (.tup false (.cons (.str "line") (.cons (.int 0) (.cons (.int 2) .nil)))) (.cons (.tup false (.cons (.str "cell") (.cons (.tup false (.cons (.int 1) (.cons (.int 2) .nil))) (.cons (.int 0) .nil)))) .nil))) (.cons .non (.cons (.int 5) .nil)))))))
  (.seq (.setIx 1 (.str "few") (.lst false (.cons (.tup false (.cons (.str "line") (.cons (.int 0) (.cons (.int 1) .nil)))) (.cons (.tup false (.cons (.str "line") (.cons (.int 1) (.cons (.int 2) .nil)))) .nil))))
  (.seq (.ret (.ix (.sl 1) (.sl 0)))
  .nil)))
def d__law_right : DefT := ⟨"_law_right", top 65, ["kind", "plain"], ["kind"], some b__law_right⟩
def b__law_wrong : S := (.seq (.set 1 (.call 44 (.cons (.sl 0) .nil)))
  (.seq (.iff (.cmp .eq (.sl 0) (.str "board")) (.seq (.set 2 (.lst false (.cons .non (.cons (.lst false (.cons (.int 2) (.cons (.int 3) .nil))) (.cons (.tup false (.cons (.int 2) .nil)) (.cons (.tup false (.cons (.int 2) (.cons (.int 3) (.cons (.int 1) .nil)))) (.cons (.tup false (.cons (.int 0) (.cons (.int 3) .nil))) (.cons (.tup false (.cons (.int 2) (.cons (.int 0) .nil))) (.cons (.tup false (.cons (.int 7) (.cons (.int 1) .nil))) (.cons (.tup false (.cons (.int 1) (.cons (.int 7) .nil))) (.cons (.tup false (.cons (.int 6) (.cons (.int 5) .nil))) (.cons (.tup false (.cons (.bl true) (.cons (.int 3) .nil))) (.cons (.tup false (.cons (.int 2) (.cons (.bl false) .nil))) (.cons (.tup false (.cons (.str "2") (.cons (.int 3) .nil))) (.cons (.dnew false) (.cons (.int 6) .nil))))))))))))))))
  (.seq (.ret (.bin .add (.comp false [5] (.nm 5) (.sl 2) .none (.tup false (.cons (.sl 5) (.cons (.str "board") .nil)))) (.bin .mul (.lst false (.cons (.tup false (.cons (.tup false (.cons (.int 2) (.cons (.int 7) .nil))) (.cons (.str "board") .nil))) (.cons (.tup false (.cons (.tup false (.cons (.int 5) (.cons (.int 5) .nil))) (.cons (.str "25") .nil))) (.cons (.tup false (.cons (.tup false (.cons (.int 4) (.cons (.int 4) .nil))) (.cons (.str "16") .nil))) (.cons (.tup false (.cons (.tup false (.cons (.int 6) (.cons (.int 3) .nil))) (.cons (.str "18") .nil))) .nil))))) (.int 3))))
  .nil)) .nil)
  (.seq (.iff (.cmp .eq (.sl 0) (.str "directions")) (.seq (.set 2 (.lst false (.cons .non (.cons (.lst false .nil) (.cons (.tup false (.cons (.int 0) (.cons (.int 1) .nil))) (.cons (.bi .tuple (.cons (.sl 1) .nil)) (.cons (.lst false (.cons (.tup false (.cons (.int 0) (.cons (.int 1) .nil))) (.cons (.tup false (.cons (.int 0) (.cons (.int 1) .nil))) .nil))) (.cons (.lst false (.cons (.tup false (.cons (.int 0) (.cons (.int 2) .nil))) .nil)) (.cons (.lst false (.cons (.tup false (.cons (.int 2) (.cons (.int 2) .nil))) .nil)) (.cons (.lst false (.cons (.tup false (.cons (.int 0) (.cons (.neg (.int 1)) .nil))) .nil)) (.cons (.lst false (.cons (.tup false (.cons (.neg (.int 1)) (.cons (.int 1) .nil))) .nil)) (.cons (.lst false (.cons (.tup false (.cons (.int 4) (.cons (.int 1) .nil))) .nil)) (.cons (.lst false (.cons (.tup false (.cons (.int 1) (.cons (.int 4) .nil))) .nil)) (.cons (.lst false (.cons (.tup false (.cons (.int 0) (.cons (.int 0) .nil))) .nil)) (.cons (.lst false (.cons (.lst false (.cons (.int 0) (.cons (.int 1) .nil))) .nil)) (.cons (.lst false (.cons (.tup false (.cons (.int 0) (.cons (.int 1) .nil))) (.cons .non .nil))) .nil))))))))))))))))
  (.seq (.set 2 (.bin .add (.sl 2) (.lst false (.cons (.lst false (.cons (.tup false (.cons (.bl true) (.cons (.int 0) .nil))) .nil)) (.cons (.lst false (.cons (.tup false (.cons (.int 1) (.cons (.bl true) .nil))) .nil)) (.cons (.lst false (.cons (.tup false (.cons (.int 1) .nil)) .nil)) (.cons (.lst false (.cons (.tup false (.cons (.int 1) (.cons (.int 0) (.cons (.int 0) .nil)))) .nil)) (.cons (.dnew false) .nil))))))))
  (.seq (.ret (.comp false [5] (.nm 5) (.bin .add (.sl 2) (.lst false (.cons (.lst false (.cons (.tup false (.cons (.int 0) (.cons (.int 1) .nil))) (.cons (.tup false (.cons (.int 1) (.cons (.int 0) .nil))) (.cons (.tup false (.cons (.int 1) (.cons (.int 1) .nil))) (.cons (.tup false (.cons (.int 1) (.cons (.neg (.int 1)) .nil))) (.cons (.tup false (.cons (.int 1) (.cons (.int 2) .nil))) .nil)))))) .nil))) .none (.tup false (.cons (.sl 5) (.cons (.str "direction") .nil)))))
  .nil))) .nil)
  (.seq (.iff (.cmp .eq (.sl 0) (.str "number")) (.seq (.ret (.comp false [5] (.nm 5) (.lst false (.cons .non (.cons (.int 6) (.cons (.bin .sub (.int 0) (.int 1)) (.cons (.bl true) (.cons (.bl false) (.cons (.str "1") (.cons (.tup false (.cons (.int 1) .nil)) (.cons (.lst false (.cons (.int 1) .nil)) (.cons (.dnew false) .nil)))))))))) .none (.tup false (.cons (.sl 5) (.cons (.str "number") .nil)))))
  .nil) .nil)
  (.seq (.set 2 (.call 48 (.cons (.tup false (.cons (.int 2) (.cons (.int 3) .nil))) (.cons (.call 49 (.cons (.tup false (.cons (.int 2) (.cons (.int 3) .nil))) (.cons (.call 44 (.cons (.str "directions") .nil)) .nil))) .nil))))
  (.seq (.set 3 (.bin .add (.bin .add (.comp false [6] (.nm 6) (.sl 2) .none (.tup false (.cons (.bin .add (.lst false (.cons (.sl 6) .nil)) (.sl 1)) (.cons (.str "list") .nil)))) (.comp false [6] (.nm 6) (.sl 2) .none (.tup false (.cons (.bin .add (.sl 1) (.lst false (.cons (.sl 6) .nil))) (.cons (.str "list") .nil))))) (.comp false [6] (.nm 6) (.lst false (.cons .non (.cons (.bi .tuple (.cons (.sl 1) .nil)) (.cons (.dnew false) (.cons (.str "") (.cons (.lst false (.cons (.sl 1) .nil)) (.cons (.bin .mul (.sl 1) (.int 21)) .nil))))))) .none (.tup false (.cons (.sl 6) (.cons (.str "list") .nil))))))
  (.seq (.set 4 (.lst false (.cons (.tup false (.cons (.lst false (.cons (.tup false (.cons (.str "line") (.cons (.int 0) (.cons (.int 1) .nil)))) (.cons (.tup false (.cons (.str "line") (.cons (.int 0) (.cons (.int 2) .nil)))) .nil))) (.cons (.str "unlike") .nil))) (.cons (.tup false (.cons (.lst false (.cons (.tup false (.cons (.str "cell") (.cons (.tup false (.cons (.int 0) (.cons (.int 0) .nil))) (.cons (.int 0) .nil)))) (.cons (.tup false (.cons (.str "cell") (.cons (.tup false (.cons (.int 0) (.cons (.int 0) .nil))) (.cons (.int 1) .nil)))) .nil))) (.cons (.str "unlike") .nil))) (.cons (.tup false (.cons (.lst false .nil) (.cons (.str "64") .nil))) (.cons (.tup false (.cons (.lst false (.cons (.tup false (.cons (.str "cell") (.cons (.tup false (.cons (.int 0) (.cons (.int 0) .nil))) (.cons (.int 0) .nil)))) .nil)) (.cons (.str "32") .nil))) .nil))))))
  (.seq (.ret (.bin .add (.sl 3) (.bin .mul (.sl 4) (.bin .mul (.int 20) (.bi .int (.cons (.cmp .eq (.sl 0) (.str "few")) .nil))))))
  .nil))))))))
def d__law_wrong : DefT := ⟨"_law_wrong", top 66, ["kind", "right", "odd", "told", "more", "value", "one"], ["kind"], some b__law_wrong⟩
def b__law_caught : S := (.seq (.set 2 .non)
  (.seq (.tryS (.seq (.iff (.cmp .eq (.bi .len (.cons (.sl 1) .nil)) (.int 3)) (.seq (.expr (.callv 0 [18, 23, 24, 26, 31, 32, 38] (.cons (.ix (.sl 1) (.int 0)) (.cons (.ix (.sl 1) (.int 1)) (.cons (.ix (.sl 1) (.int 2)) .nil)))))
  .nil) (.seq (.expr (.callv 0 [28, 41, 42] (.cons (.ix (.sl 1) (.int 0)) (.cons (.ix (.sl 1) (.int 1)) (.cons (.ix (.sl 1) (.int 2)) (.cons (.ix (.sl 1) (.int 3)) .nil))))))
  .nil))
  .nil) 3 2)
  (.seq (.iff (.cmp .is (.sl 2) .non) (.seq (.ret .non)
  .nil) .nil)
  (.seq (.iff (.isc (.sl 2) 6 [6]) (.seq (.ret (.lst false (.cons (.bi .repr (.cons (.xval (.sl 2)) .nil)) (.cons (.isv (.sl 2)) .nil))))
  .nil) .nil)
  (.seq (.set 4 (.lst false (.cons (.tup false (.cons (.str "board") (.cons (.isc (.sl 2) 1 [1]) .nil))) (.cons (.tup false (.cons (.str "direction") (.cons (.isc (.sl 2) 2 [2]) .nil))) (.cons (.tup false (.cons (.str "list") (.cons (.isc (.sl 2) 4 [4]) .nil))) .nil)))))
  (.seq (.set 4 (.bin .add (.sl 4) (.lst false (.cons (.tup false (.cons (.str "number") (.cons (.isc (.sl 2) 3 [3]) .nil))) (.cons (.tup false (.cons (.str "unlike") (.cons (.isc (.sl 2) 5 [5]) .nil))) .nil)))))
  (.seq (.ret (.bin .add (.comp false [5, 6] (.tp [5, 6]) (.sl 4) (.sl 6) (.sl 5)) (.lst false (.cons (.isv (.sl 2)) (.cons (.bi .repr (.cons (.xval (.sl 2)) .nil)) .nil)))))
  .nil)))))))
def d__law_caught : DefT := ⟨"_law_caught", top 67, ["call", "parts", "caught", "e", "kinds", "word", "held"], ["call", "parts"], some b__law_caught⟩
def b__law_asked : S := (.seq (.par [5, 6] (.cons (.lst true .nil) (.cons .non .nil)))
  (.seq (.for (.tp [7, 8]) (.enum (.sl 2)) (.seq (.set 9 (.call 44 (.cons (.sl 8) .nil)))
  (.seq (.iff (.and (.cmp .mem (.sl 7) (.sl 3)) (.cmp .ne (.sl 8) (.str "any"))) (.seq (.setT [9, 10] (.call 52 (.cons (.io 0) (.cons (.call 45 (.cons (.sl 8) .nil)) .nil))))
  (.seq (.set 6 (.ite (.cmp .is (.sl 6) .non) (.ite (.cmp .mem (.ix (.sl 10) (.int 0)) (.str "0123456789")) (.lst false (.cons (.sl 10) (.cons (.bl true) .nil))) (.lst false (.cons (.sl 10) (.cons (.bl true) (.cons (.bi .repr (.cons (.sl 9) .nil)) .nil))))) (.sl 6)))
  .nil)) .nil)
  (.seq (.app 5 (.sl 9))
  .nil))))
  (.seq (.set 4 (.bor (.bi .repr (.cons (.sl 5) .nil))))
  (.seq (.ret (.and (.cmp .eq (.call 46 (.cons (.sl 1) (.cons (.sl 5) .nil))) (.sl 6)) (.cmp .eq (.bi .repr (.cons (.sl 5) .nil)) (.sl 4))))
  .nil))))
def d__law_asked : DefT := ⟨"_law_asked", top 68, ["purse", "call", "words", "wrong", "kept", "parts", "due", "at", "kind", "value", "word"], ["purse", "call", "words", "wrong"], some b__law_asked⟩
def b__law_odd_facts : S := (.seq (.setT [3, 4] (.sl 0))
  (.seq (.set 2 (.lst false (.cons .non (.cons (.lst false .nil) (.cons (.str "line 0 1") (.cons (.tup false (.cons (.str "line") (.cons (.int 0) .nil))) (.cons (.tup false (.cons (.str "line") (.cons (.int 0) (.cons (.int 0) (.cons (.int 0) .nil))))) (.cons (.lst false (.cons (.str "line") (.cons (.int 0) (.cons (.int 0) .nil)))) (.cons (.tup false (.cons (.str "Line") (.cons (.int 0) (.cons (.int 0) .nil)))) (.cons (.tup false (.cons .non (.cons (.int 0) (.cons (.int 0) .nil)))) (.cons (.tup false (.cons (.str "line") (.cons (.bi .len (.cons (.sl 1) .nil)) (.cons (.int 0) .nil)))) (.cons (.tup false (.cons (.str "line") (.cons (.bin .sub (.int 0) (.int 1)) (.cons (.int 0) .nil)))) .nil))))))))))))
  (.seq (.set 2 (.bin .add (.sl 2) (.lst false (.cons (.tup false (.cons (.str "line") (.cons (.bl true) (.cons (.int 0) .nil)))) (.cons (.tup false (.cons (.str "line") (.cons (.str "0") (.cons (.int 0) .nil)))) (.cons (.tup false (.cons (.str "line") (.cons (.int 0) (.cons (.bin .sub (.int 0) (.int 1)) .nil)))) .nil))))))
  (.seq (.set 2 (.bin .add (.sl 2) (.lst false (.cons (.tup false (.cons (.str "line") (.cons (.int 0) (.cons (.bin .add (.bi .len (.cons (.ix (.sl 1) (.int 0)) .nil)) (.int 1)) .nil)))) (.cons (.tup false (.cons (.str "line") (.cons (.int 0) (.cons (.bl true) .nil)))) (.cons (.tup false (.cons (.str "line") (.cons (.int 0) (.cons .non .nil)))) (.cons (.tup false (.cons (.str "line") (.cons (.tup false (.cons (.int 0) (.cons (.int 0) .nil))) (.cons (.int 0) .nil)))) (.cons (.tup false (.cons (.str "cell") (.cons (.int 0) (.cons (.int 0) .nil)))) (.cons (.tup false (.cons (.str "cell") (.cons (.tup false (.cons (.int 0) (.cons (.int 0) .nil))) (.cons (.int 2) .nil)))) (.cons (.tup false (.cons (.str "cell") (.cons (.tup false (.cons (.int 0) (.cons (.int 0) .nil))) (.cons (.bin .sub (.int 0) (.int 1)) .nil)))) .nil))))))))))
  (.seq (.set 2 (.bin .add (.sl 2) (.lst false (.cons (.tup false (.cons (.str "cell") (.cons (.tup false (.cons (.int 0) (.cons (.int 0) .nil))) (.cons (.bl false) .nil)))) (.cons (.tup false (.cons (.str "cell") (.cons (.tup false (.cons (.int 0) (.cons (.int 0) .nil))) (.cons (.str "1") .nil)))) .nil)))))
  (.seq (.set 2 (.bin .add (.sl 2) (.lst false (.cons (.tup false (.cons (.str "cell") (.cons (.tup false (.cons (.sl 3) (.cons (.int 0) .nil))) (.cons (.int 0) .nil)))) (.cons (.tup false (.cons (.str "cell") (.cons (.tup false (.cons (.int 0) (.cons (.sl 4) .nil))) (.cons (.int 0) .nil)))) (.cons (.tup false (.cons (.str "cell") (.cons (.tup false (.cons (.bin .sub (.int 0) (.int 1)) (.cons (.int 0) .nil))) (.cons (.int 0) .nil)))) (.cons (.tup false (.cons (.str "cell") (.cons (.lst false (.cons (.int 0) (.cons (.int 0) .nil))) (.cons (.int 0) .nil)))) .nil)))))))
  (.seq (.ret (.bin .add (.sl 2) (.lst false (.cons (.tup false (.cons (.str "cell") (.cons (.tup false (.cons (.int 0) (.cons (.int 0) (.cons (.int 0) .nil)))) (.cons (.int 0) .nil)))) (.cons (.tup false (.cons (.str "cell") (.cons (.tup false (.cons (.bl false) (.cons (.int 0) .nil))) (.cons (.int 0) .nil)))) (.cons (.tup false (.cons (.str "cell") (.cons (.tup false (.cons (.int 0) .nil)) (.cons (.int 1) .nil)))) (.cons (.tup false (.cons (.str "cells") (.cons (.tup false (.cons (.int 0) (.cons (.int 0) .nil))) (.cons (.int 0) .nil)))) .nil)))))))
  .nil)))))))
def d__law_odd_facts : DefT := ⟨"_law_odd_facts", top 69, ["board", "lines", "found", "rows", "columns"], ["board", "lines"], some b__law_odd_facts⟩
def b__law_lines : S := (.seq (.set 2 (.lst false .nil))
  (.seq (.for (.tp [3, 4]) (.sl 1) (.seq (.setT [6, 7] (.tup true (.cons (.lst true .nil) (.cons (.dnew true) .nil))))
  (.seq (.for (.nm 5) (.rng1 (.ix (.sl 0) (.int 0))) (.seq (.for (.nm 8) (.rng1 (.ix (.sl 0) (.int 1))) (.seq (.set 9 (.bin .sub (.bin .mul (.sl 4) (.sl 5)) (.bin .mul (.sl 3) (.sl 8))))
  (.seq (.iff (.bor (.cmp .nmem (.sl 9) (.sl 6))) (.seq (.app 6 (.sl 9))
  (.seq (.setIx 7 (.sl 9) (.lst true .nil))
  .nil)) .nil)
  (.seq (.appAt 7 (.sl 9) (.tup false (.cons (.sl 5) (.cons (.sl 8) .nil))))
  .nil))))
  .nil))
  (.seq (.set 2 (.bin .add (.sl 2) (.comp false [9] (.nm 9) (.sl 6) .none (.ix (.sl 7) (.sl 9)))))
  .nil))))
  (.seq (.ret (.sl 2))
  .nil)))
def d__law_lines : DefT := ⟨"_law_lines", top 70, ["board", "directions", "found", "down", "across", "row", "order", "told", "column", "number"], ["board", "directions"], some b__law_lines⟩
def b__law_purse : S := (.seq (.set 1 (.int 7))
  (.seq (.for (.nm 2) (.slice (.sl 0) .none (.int 63)) (.seq (.set 1 (.bin .mod (.bi .int (.cons (.bin .add (.bin .mul (.sl 1) (.int 31)) (.sl 2)) .nil)) (.int 2147483647)))
  .nil))
  (.seq (.ret (.lst true (.cons (.comp true [2] (.nm 2) (.slice (.sl 0) .none (.int 63)) (.cmp .ge (.sl 2) (.bin .pow (.int 10) (.int 18))) (.sl 2)) (.cons (.int 0) (.cons (.int 0) (.cons (.int 0) (.cons (.sl 1) .nil)))))))
  .nil)))
def d__law_purse : DefT := ⟨"_law_purse", top 71, ["script", "seed", "cell"], ["script"], some b__law_purse⟩
def b__law_draw : S := (.seq (.iff (.bor (.and (.cmp .lt (.ix (.sl 0) (.int 2)) (.sl 1)) (.cmp .lt (.ix (.sl 0) (.int 1)) (.bi .len (.cons (.ix (.sl 0) (.int 0)) .nil))))) (.seq (.setIx 0 (.int 2) (.bor (.ix (.ix (.sl 0) (.int 0)) (.ix (.sl 0) (.int 1)))))
  (.seq (.augIx 0 (.int 1) .add (.int 1))
  .nil)) .nil)
  (.seq (.iff (.bor (.cmp .ge (.ix (.sl 0) (.int 2)) (.sl 1))) (.seq (.set 3 (.bor (.bin .mod (.bi .int (.cons (.ix (.sl 0) (.int 2)) .nil)) (.sl 1))))
  (.seq (.setIx 0 (.int 2) (.bor (.bin .fdiv (.ix (.sl 0) (.int 2)) (.sl 1))))
  (.seq (.ret (.sl 3))
  .nil))) .nil)
  (.seq (.augIx 0 (.int 3) .add (.int 1))
  (.seq (.set 2 (.bor (.bin .mod (.bi .int (.cons (.bin .mul (.bin .add (.bin .mul (.ix (.sl 0) (.int 3)) (.ix (.sl 0) (.int 3))) (.ix (.sl 0) (.int 4))) (.int 48271)) .nil)) (.int 2147483629))))
  (.seq (.ret (.bin .mod (.bi .int (.cons (.bin .mod (.bi .int (.cons (.bin .mul (.sl 2) (.sl 2)) .nil)) (.int 2147483587)) .nil)) (.sl 1)))
  .nil)))))
def d__law_draw : DefT := ⟨"_law_draw", top 72, ["purse", "many", "stirred", "told"], ["purse", "many"], some b__law_draw⟩
def b__law_pick : S := (.seq (.ret (.ix (.sl 1) (.call 51 (.cons (.io 0) (.cons (.bi .len (.cons (.sl 1) .nil)) .nil)))))
  .nil)
def d__law_pick : DefT := ⟨"_law_pick", top 73, ["purse", "things"], ["purse", "things"], some b__law_pick⟩
def b_law : S := (.seq (.set 1 (.call 50 (.cons (.sl 0) .nil)))
  (.seq (.for (.tp [6, 7]) (.call 43 .nil) (.seq (.set 8 (.bin .add (.bin .add (.bin .add (.lst false (.cons (.lst false .nil) .nil)) (.bin .mul (.comp false [10] (.nm 10) (.rng1 (.bi .len (.cons (.sl 7) .nil))) .none (.lst false (.cons (.sl 10) .nil))) (.int 2))) (.comp false [10] (.nm 10) (.rng1 (.bin .sub (.bi .len (.cons (.sl 7) .nil)) (.int 1))) .none (.lst false (.cons (.sl 10) (.cons (.bin .add (.sl 10) (.int 1)) .nil))))) (.lst false (.cons (.pr1 .lrng (.bi .len (.cons (.sl 7) .nil))) .nil))))
  (.seq (.for (.nm 9) (.sl 8) (.seq (.iff (.not (.call 47 (.cons (.io 1) (.cons (.sl 6) (.cons (.sl 7) (.cons (.sl 9) .nil)))))) (.seq (.ret (.bl false))
  .nil) .nil)
  .nil))
  .nil)))
  (.seq (.set 2 (.lst false (.cons (.tup false (.cons (.int 0) (.cons (.int 1) .nil))) (.cons (.tup false (.cons (.int 1) (.cons (.int 0) .nil))) .nil))))
  (.seq (.set 3 (.bin .mul (.lst false (.cons (.tup false (.cons (.str "line") (.cons (.int 0) (.cons (.int 3) .nil)))) .nil)) (.int 40)))
  (.seq (.set 4 (.lst false (.cons (.tup false (.cons (.str "line") (.cons (.int 0) (.cons (.int 1) .nil)))) (.cons (.tup false (.cons (.str "line") (.cons (.int 1) (.cons (.int 2) .nil)))) .nil))))
  (.seq (.set 5 (.lst false (.cons (.call 24 (.cons (.tup false (.cons (.int 3) (.cons (.int 4) .nil))) (.cons (.sl 2) (.cons (.lst false (.cons (.tup false (.cons (.str "line") (.cons (.int 0) (.cons (.int 4) .nil)))) (.cons (.tup false (.cons (.str "line") (.cons (.int 1) (.cons (.int 4) .nil)))) (.cons (.tup false (.cons (.str "line") (.cons (.int 2) (.cons (.int 0) .nil)))) .nil)))) .nil)))) (.cons (.call 24 (.cons (.tup false (.cons (.int 2) (.cons (.int 3) .nil))) (.cons (.sl 2) (.cons (.sl 3) .nil)))) (.cons (.ix (.call 38 (.cons (.tup false (.cons (.int 2) (.cons (.int 4) .nil))) (.cons (.sl 2) (.cons (.sl 4) .nil)))) (.int 0)) .nil)))))
  (.seq (.ret (.and (.cmp .eq (.sl 5) (.lst false (.cons (.int 1) (.cons (.int 8) (.cons (.str "alike") .nil))))) (.cmp .eq (.call 24 (.cons (.tup false (.cons (.int 2) (.cons (.int 4) .nil))) (.cons (.sl 2) (.cons (.sl 4) .nil)))) (.int 24))))
  .nil)))))))
def d_law : DefT := ⟨"law", top 74, ["script", "purse", "both", "forty", "four", "told", "call", "words", "lots", "wrong", "at"], ["script"], some b_law⟩
def defs : List DefT := [d_is_whole, d_common_divisor, d_is_board_by, d_check_board, d_cells_of, d_is_square_by, d_is_picture_on, d_is_direction_by, d_are_directions_by, d_check_directions, d_number_of, d_lines_by, d_all_lines, d_sum_along, d_is_cell_of, d_is_fact_by, d_are_facts_by, d_check_small, d_are_facts, d_check_facts, d_keeps, d_every_picture, d_left_by, d_left_pictures, d_how_many_left, d_sure_by, d_sure_left, d_counted, d_parts_by_line, d_most_alike, d_best_among, d_best_line, d_best_cell, d_check_few, d_sums_of_all, d_parted_lots, d_alike_by, d_asks_by, d_least_asks, d_depth_of, d_branches_of, d_is_asking_tree, d_is_least_asks, d__law_calls, d__law_right, d__law_wrong, d__law_caught, d__law_asked, d__law_odd_facts, d__law_lines, d__law_purse, d__law_draw, d__law_pick, d_law]
def blts : List Str := ["ValueError", "abs", "all", "any", "bool", "enumerate", "int", "isinstance", "len", "list", "max", "range", "repr", "set", "sorted", "str", "sum", "tuple"]
def gis : List (Str × Int) := [("MOST_SIDE", 6), ("MOST_CELLS", 25), ("MOST_STEP", 3), ("MOST_DIRECTIONS", 4), ("MOST_ASKED", 12), ("MOST_FACTS", 40), ("MOST_LEFT", 24)]
def kwl : List (Nat × List Str × List Nat) := []
def clsl : List Str := ["PictureError", "InvalidBoard", "InvalidDirection", "InvalidNumber", "InvalidList", "Unlike", "TooMany"]
def cnsl : List (Nat × List Nat) := [(1, [1]), (2, [2]), (3, [3]), (4, [4]), (5, [5]), (6, [6])]
def basel : List Str := ["PictureError"]
def prgT : PrT := ⟨defs, blts, gis, kwl, fun _ _ _ => .fail, clsl, cnsl, basel⟩
def prg : Prg := prgT.prg
theorem df_is_whole : prg.df 0 = some ⟨1, 1, b_is_whole⟩ := rfl
theorem df_common_divisor : prg.df 1 = some ⟨2, 2, b_common_divisor⟩ := rfl
theorem df_is_board_by : prg.df 2 = some ⟨1, 2, b_is_board_by⟩ := rfl
theorem df_check_board : prg.df 3 = some ⟨1, 1, b_check_board⟩ := rfl
theorem df_cells_of : prg.df 4 = some ⟨1, 4, b_cells_of⟩ := rfl
theorem df_is_square_by : prg.df 5 = some ⟨2, 3, b_is_square_by⟩ := rfl
theorem df_is_picture_on : prg.df 6 = some ⟨2, 4, b_is_picture_on⟩ := rfl
theorem df_is_direction_by : prg.df 7 = some ⟨1, 4, b_is_direction_by⟩ := rfl
theorem df_are_directions_by : prg.df 8 = some ⟨1, 3, b_are_directions_by⟩ := rfl
theorem df_check_directions : prg.df 9 = some ⟨1, 1, b_check_directions⟩ := rfl
theorem df_number_of : prg.df 10 = some ⟨2, 2, b_number_of⟩ := rfl
theorem df_lines_by : prg.df 11 = some ⟨2, 4, b_lines_by⟩ := rfl
theorem df_all_lines : prg.df 12 = some ⟨2, 4, b_all_lines⟩ := rfl
theorem df_sum_along : prg.df 13 = some ⟨2, 4, b_sum_along⟩ := rfl
theorem df_is_cell_of : prg.df 14 = some ⟨2, 3, b_is_cell_of⟩ := rfl
theorem df_is_fact_by : prg.df 15 = some ⟨3, 3, b_is_fact_by⟩ := rfl
theorem df_are_facts_by : prg.df 16 = some ⟨3, 4, b_are_facts_by⟩ := rfl
theorem df_check_small : prg.df 17 = some ⟨2, 2, b_check_small⟩ := rfl
theorem df_are_facts : prg.df 18 = some ⟨3, 3, b_are_facts⟩ := rfl
theorem df_check_facts : prg.df 19 = some ⟨3, 4, b_check_facts⟩ := rfl
theorem df_keeps : prg.df 20 = some ⟨3, 3, b_keeps⟩ := rfl
theorem df_every_picture : prg.df 21 = some ⟨1, 7, b_every_picture⟩ := rfl
theorem df_left_by : prg.df 22 = some ⟨3, 7, b_left_by⟩ := rfl
theorem df_left_pictures : prg.df 23 = some ⟨3, 3, b_left_pictures⟩ := rfl
theorem df_how_many_left : prg.df 24 = some ⟨3, 3, b_how_many_left⟩ := rfl
theorem df_sure_by : prg.df 25 = some ⟨2, 6, b_sure_by⟩ := rfl
theorem df_sure_left : prg.df 26 = some ⟨3, 4, b_sure_left⟩ := rfl
theorem df_counted : prg.df 27 = some ⟨1, 2, b_counted⟩ := rfl
theorem df_parts_by_line : prg.df 28 = some ⟨4, 6, b_parts_by_line⟩ := rfl
theorem df_most_alike : prg.df 29 = some ⟨1, 3, b_most_alike⟩ := rfl
theorem df_best_among : prg.df 30 = some ⟨2, 7, b_best_among⟩ := rfl
theorem df_best_line : prg.df 31 = some ⟨3, 4, b_best_line⟩ := rfl
theorem df_best_cell : prg.df 32 = some ⟨3, 10, b_best_cell⟩ := rfl
theorem df_check_few : prg.df 33 = some ⟨3, 5, b_check_few⟩ := rfl
theorem df_sums_of_all : prg.df 34 = some ⟨2, 3, b_sums_of_all⟩ := rfl
theorem df_parted_lots : prg.df 35 = some ⟨3, 5, b_parted_lots⟩ := rfl
theorem df_alike_by : prg.df 36 = some ⟨2, 5, b_alike_by⟩ := rfl
theorem df_asks_by : prg.df 37 = some ⟨2, 7, b_asks_by⟩ := rfl
theorem df_least_asks : prg.df 38 = some ⟨3, 5, b_least_asks⟩ := rfl
theorem df_depth_of : prg.df 39 = some ⟨3, 11, b_depth_of⟩ := rfl
theorem df_branches_of : prg.df 40 = some ⟨3, 10, b_branches_of⟩ := rfl
theorem df_is_asking_tree : prg.df 41 = some ⟨4, 6, b_is_asking_tree⟩ := rfl
theorem df_is_least_asks : prg.df 42 = some ⟨4, 8, b_is_least_asks⟩ := rfl
theorem df__law_calls : prg.df 43 = some ⟨0, 3, b__law_calls⟩ := rfl
theorem df__law_right : prg.df 44 = some ⟨1, 2, b__law_right⟩ := rfl
theorem df__law_wrong : prg.df 45 = some ⟨1, 7, b__law_wrong⟩ := rfl
theorem df__law_caught : prg.df 46 = some ⟨2, 7, b__law_caught⟩ := rfl
theorem df__law_asked : prg.df 47 = some ⟨4, 11, b__law_asked⟩ := rfl
theorem df__law_odd_facts : prg.df 48 = some ⟨2, 5, b__law_odd_facts⟩ := rfl
theorem df__law_lines : prg.df 49 = some ⟨2, 10, b__law_lines⟩ := rfl
theorem df__law_purse : prg.df 50 = some ⟨1, 3, b__law_purse⟩ := rfl
theorem df__law_draw : prg.df 51 = some ⟨2, 4, b__law_draw⟩ := rfl
theorem df__law_pick : prg.df 52 = some ⟨2, 2, b__law_pick⟩ := rfl
theorem df_law : prg.df 53 = some ⟨1, 11, b_law⟩ := rfl
end PY.k90
set_option Elab.async false
set_option maxRecDepth 100000
namespace PY.k90
open PySem L2 PY
theorem c0 : prgT.chk d_is_whole = true := by decide +kernel
theorem c1 : prgT.chk d_common_divisor = true := by decide +kernel
theorem c2 : prgT.chk d_is_board_by = true := by decide +kernel
theorem c3 : prgT.chk d_check_board = true := by decide +kernel
theorem c4 : prgT.chk d_cells_of = true := by decide +kernel
theorem c5 : prgT.chk d_is_square_by = true := by decide +kernel
theorem c6 : prgT.chk d_is_picture_on = true := by decide +kernel
theorem c7 : prgT.chk d_is_direction_by = true := by decide +kernel
theorem c8 : prgT.chk d_are_directions_by = true := by decide +kernel
theorem c9 : prgT.chk d_check_directions = true := by decide +kernel
theorem c10 : prgT.chk d_number_of = true := by decide +kernel
theorem c11 : prgT.chk d_lines_by = true := by decide +kernel
theorem c12 : prgT.chk d_all_lines = true := by decide +kernel
theorem c13 : prgT.chk d_sum_along = true := by decide +kernel
theorem c14 : prgT.chk d_is_cell_of = true := by decide +kernel
theorem c15 : prgT.chk d_is_fact_by = true := by decide +kernel
theorem c16 : prgT.chk d_are_facts_by = true := by decide +kernel
theorem c17 : prgT.chk d_check_small = true := by decide +kernel
theorem c18 : prgT.chk d_are_facts = true := by decide +kernel
theorem c19 : prgT.chk d_check_facts = true := by decide +kernel
theorem c20 : prgT.chk d_keeps = true := by decide +kernel
theorem c21 : prgT.chk d_every_picture = true := by decide +kernel
theorem c22 : prgT.chk d_left_by = true := by decide +kernel
theorem c23 : prgT.chk d_left_pictures = true := by decide +kernel
theorem c24 : prgT.chk d_how_many_left = true := by decide +kernel
theorem c25 : prgT.chk d_sure_by = true := by decide +kernel
theorem c26 : prgT.chk d_sure_left = true := by decide +kernel
theorem c27 : prgT.chk d_counted = true := by decide +kernel
theorem c28 : prgT.chk d_parts_by_line = true := by decide +kernel
theorem c29 : prgT.chk d_most_alike = true := by decide +kernel
theorem c30 : prgT.chk d_best_among = true := by decide +kernel
theorem c31 : prgT.chk d_best_line = true := by decide +kernel
theorem c32 : prgT.chk d_best_cell = true := by decide +kernel
theorem c33 : prgT.chk d_check_few = true := by decide +kernel
theorem c34 : prgT.chk d_sums_of_all = true := by decide +kernel
theorem c35 : prgT.chk d_parted_lots = true := by decide +kernel
theorem c36 : prgT.chk d_alike_by = true := by decide +kernel
theorem c37 : prgT.chk d_asks_by = true := by decide +kernel
theorem c38 : prgT.chk d_least_asks = true := by decide +kernel
theorem c39 : prgT.chk d_depth_of = true := by decide +kernel
theorem c40 : prgT.chk d_branches_of = true := by decide +kernel
theorem c41 : prgT.chk d_is_asking_tree = true := by decide +kernel
theorem c42 : prgT.chk d_is_least_asks = true := by decide +kernel
theorem c43 : prgT.chk d__law_calls = true := by decide +kernel
theorem c44 : prgT.chk d__law_right = true := by decide +kernel
theorem c45 : prgT.chk d__law_wrong = true := by decide +kernel
theorem c46 : prgT.chk d__law_caught = true := by decide +kernel
theorem c47 : prgT.chk d__law_asked = true := by decide +kernel
theorem c48 : prgT.chk d__law_odd_facts = true := by decide +kernel
theorem c49 : prgT.chk d__law_lines = true := by decide +kernel
theorem c50 : prgT.chk d__law_purse = true := by decide +kernel
theorem c51 : prgT.chk d__law_draw = true := by decide +kernel
theorem c52 : prgT.chk d__law_pick = true := by decide +kernel
theorem c53 : prgT.chk d_law = true := by decide +kernel
end PY.k90
set_option Elab.async false
set_option linter.all false
set_option maxRecDepth 100000
set_option maxHeartbeats 1000000
/-! # K90a: boards refused -/
namespace PY.k90
open PySem L2 PY
/-- the def raises the exception c with the value t -/
def raisesV (p : Prg) (n f : Nat) (ws : List T) (c : Nat) (t : T) : Bool := match callG p n f (ws.map .val) with
  | .ex d u _ => decide (d = c) && T.beq u t
  | _ => false
theorem raisesV_ok {p : Prg} {n f : Nat} {ws : List T} {c : Nat} {t : T} (h : raisesV p n f ws c t = true) : ∃ σ', callF p n f (ws.map .val) = .ex c t σ' := by
  unfold raisesV at h
  rw [callG_ok] at h
  split at h
  · rename_i d u σ' e
    rw [Bool.and_eq_true, decide_eq_true_eq] at h
    exact ⟨σ', by rw [e, h.1, T.beq_eq h.2]⟩
  · cases h
end PY.k90
set_option Elab.async false
set_option maxRecDepth 100000
set_option linter.all false
set_option maxHeartbeats 800000
/-! # K90b: what refuses a wrong argument, by the kernel; how it comes out of each def -/
namespace PY.k90
open PySem L2 PY
def runT (n f : Nat) (ws : List T) : Option T := match callG prg n f (ws.map .val) with
  | .ok r _ => some r.t
  | _ => none
def itemsL : Option T → List T
  | some (.lst ts) => ts
  | _ => []
def strOf : T → Str
  | .str x => x
  | _ => ""
/-- what is due of a wrong value and its word -/
def dueOf (v w : T) : T := match w, shown? v with
  | .str x, some y => if (x.cps[0]?).any (fun c => 48 ≤ c && c ≤ 57) then .lst [w, .bl true] else .lst [w, .bl true, .str y]
  | _, _ => .non
def word (c : Nat) : Str := if c = 1 then "board" else if c = 2 then "direction" else if c = 3 then "number" else if c = 4 then "list" else "unlike"
/-- what is told of the exception c with the value v -/
def told (c : Nat) (v : T) : T := match shown? v with
  | some y => if c = 6 then .lst [.str y, .bl true] else .lst [.str (word c), .bl true, .str y]
  | none => .non
def isDig (x : Str) : Bool := (x.cps[0]?).any fun c => 48 ≤ c && c ≤ 57
def wordsL : List Str := ["board", "direction", "number", "list", "unlike", "25", "16", "18", "64", "32"]
def lastOk (c : Nat) (u v w : T) : Bool := match w with
  | .str x => decide (x ∈ wordsL) && shOk 8 9000 v && ((decide (c = 6) && isDig x && (match shown? u with | some y => decide (y = x) | none => false)) || (decide (1 ≤ c ∧ c ≤ 5) && decide (x = word c) && T.beq u v))
  | _ => false
/-- f with the arguments of v raises what is told by w -/
def excOk (n f : Nat) (args : T → List T) (t : T) : Bool := match t with
  | .tup [v, w] => match callG prg n f ((args v).map .val) with
    | .ex c u _ => lastOk c u v w
    | _ => false
  | _ => false
def wBoard : List T := [
  .tup [.non, .str "board"],
  .tup [.lst [.int 2, .int 3], .str "board"],
  .tup [.tup [.int 2], .str "board"],
  .tup [.tup [.int 2, .int 3, .int 1], .str "board"],
  .tup [.tup [.int 0, .int 3], .str "board"],
  .tup [.tup [.int 2, .int 0], .str "board"],
  .tup [.tup [.int 7, .int 1], .str "board"],
  .tup [.tup [.int 1, .int 7], .str "board"],
  .tup [.tup [.int 6, .int 5], .str "board"],
  .tup [.tup [.bl true, .int 3], .str "board"],
  .tup [.tup [.int 2, .bl false], .str "board"],
  .tup [.tup [.str "2", .int 3], .str "board"],
  .tup [.dK [] [], .str "board"],
  .tup [.int 6, .str "board"],
  .tup [.tup [.int 2, .int 7], .str "board"],
  .tup [.tup [.int 5, .int 5], .str "25"],
  .tup [.tup [.int 4, .int 4], .str "16"],
  .tup [.tup [.int 6, .int 3], .str "18"],
  .tup [.tup [.int 2, .int 7], .str "board"],
  .tup [.tup [.int 5, .int 5], .str "25"],
  .tup [.tup [.int 4, .int 4], .str "16"],
  .tup [.tup [.int 6, .int 3], .str "18"],
  .tup [.tup [.int 2, .int 7], .str "board"],
  .tup [.tup [.int 5, .int 5], .str "25"],
  .tup [.tup [.int 4, .int 4], .str "16"],
  .tup [.tup [.int 6, .int 3], .str "18"]]
def wDirs : List T := [
  .tup [.non, .str "direction"],
  .tup [.lst [], .str "direction"],
  .tup [.tup [.int 0, .int 1], .str "direction"],
  .tup [.tup [.tup [.int 0, .int 1], .tup [.int 1, .int (-1)]], .str "direction"],
  .tup [.lst [.tup [.int 0, .int 1], .tup [.int 0, .int 1]], .str "direction"],
  .tup [.lst [.tup [.int 0, .int 2]], .str "direction"],
  .tup [.lst [.tup [.int 2, .int 2]], .str "direction"],
  .tup [.lst [.tup [.int 0, .int (-1)]], .str "direction"],
  .tup [.lst [.tup [.int (-1), .int 1]], .str "direction"],
  .tup [.lst [.tup [.int 4, .int 1]], .str "direction"],
  .tup [.lst [.tup [.int 1, .int 4]], .str "direction"],
  .tup [.lst [.tup [.int 0, .int 0]], .str "direction"],
  .tup [.lst [.lst [.int 0, .int 1]], .str "direction"],
  .tup [.lst [.tup [.int 0, .int 1], .non], .str "direction"],
  .tup [.lst [.tup [.bl true, .int 0]], .str "direction"],
  .tup [.lst [.tup [.int 1, .bl true]], .str "direction"],
  .tup [.lst [.tup [.int 1]], .str "direction"],
  .tup [.lst [.tup [.int 1, .int 0, .int 0]], .str "direction"],
  .tup [.dK [] [], .str "direction"],
  .tup [.lst [.tup [.int 0, .int 1], .tup [.int 1, .int 0], .tup [.int 1, .int 1], .tup [.int 1, .int (-1)], .tup [.int 1, .int 2]], .str "direction"]]
def wNum : List T := [
  .tup [.non, .str "number"],
  .tup [.int 6, .str "number"],
  .tup [.int (-1), .str "number"],
  .tup [.bl true, .str "number"],
  .tup [.bl false, .str "number"],
  .tup [.str "1", .str "number"],
  .tup [.tup [.int 1], .str "number"],
  .tup [.lst [.int 1], .str "number"],
  .tup [.dK [] [], .str "number"]]
def wFacts : List T := [
  .tup [.lst [.non, .tup [.str "line", .int 0, .int 2], .tup [.str "cell", .tup [.int 1, .int 2], .int 0]], .str "list"],
  .tup [.lst [.lst [], .tup [.str "line", .int 0, .int 2], .tup [.str "cell", .tup [.int 1, .int 2], .int 0]], .str "list"],
  .tup [.lst [.str "line 0 1", .tup [.str "line", .int 0, .int 2], .tup [.str "cell", .tup [.int 1, .int 2], .int 0]], .str "list"],
  .tup [.lst [.tup [.str "line", .int 0], .tup [.str "line", .int 0, .int 2], .tup [.str "cell", .tup [.int 1, .int 2], .int 0]], .str "list"],
  .tup [.lst [.tup [.str "line", .int 0, .int 0, .int 0], .tup [.str "line", .int 0, .int 2], .tup [.str "cell", .tup [.int 1, .int 2], .int 0]], .str "list"],
  .tup [.lst [.lst [.str "line", .int 0, .int 0], .tup [.str "line", .int 0, .int 2], .tup [.str "cell", .tup [.int 1, .int 2], .int 0]], .str "list"],
  .tup [.lst [.tup [.str "Line", .int 0, .int 0], .tup [.str "line", .int 0, .int 2], .tup [.str "cell", .tup [.int 1, .int 2], .int 0]], .str "list"],
  .tup [.lst [.tup [.non, .int 0, .int 0], .tup [.str "line", .int 0, .int 2], .tup [.str "cell", .tup [.int 1, .int 2], .int 0]], .str "list"],
  .tup [.lst [.tup [.str "line", .int 6, .int 0], .tup [.str "line", .int 0, .int 2], .tup [.str "cell", .tup [.int 1, .int 2], .int 0]], .str "list"],
  .tup [.lst [.tup [.str "line", .int (-1), .int 0], .tup [.str "line", .int 0, .int 2], .tup [.str "cell", .tup [.int 1, .int 2], .int 0]], .str "list"],
  .tup [.lst [.tup [.str "line", .bl true, .int 0], .tup [.str "line", .int 0, .int 2], .tup [.str "cell", .tup [.int 1, .int 2], .int 0]], .str "list"],
  .tup [.lst [.tup [.str "line", .str "0", .int 0], .tup [.str "line", .int 0, .int 2], .tup [.str "cell", .tup [.int 1, .int 2], .int 0]], .str "list"],
  .tup [.lst [.tup [.str "line", .int 0, .int (-1)], .tup [.str "line", .int 0, .int 2], .tup [.str "cell", .tup [.int 1, .int 2], .int 0]], .str "list"],
  .tup [.lst [.tup [.str "line", .int 0, .int 4], .tup [.str "line", .int 0, .int 2], .tup [.str "cell", .tup [.int 1, .int 2], .int 0]], .str "list"],
  .tup [.lst [.tup [.str "line", .int 0, .bl true], .tup [.str "line", .int 0, .int 2], .tup [.str "cell", .tup [.int 1, .int 2], .int 0]], .str "list"],
  .tup [.lst [.tup [.str "line", .int 0, .non], .tup [.str "line", .int 0, .int 2], .tup [.str "cell", .tup [.int 1, .int 2], .int 0]], .str "list"],
  .tup [.lst [.tup [.str "line", .tup [.int 0, .int 0], .int 0], .tup [.str "line", .int 0, .int 2], .tup [.str "cell", .tup [.int 1, .int 2], .int 0]], .str "list"],
  .tup [.lst [.tup [.str "cell", .int 0, .int 0], .tup [.str "line", .int 0, .int 2], .tup [.str "cell", .tup [.int 1, .int 2], .int 0]], .str "list"],
  .tup [.lst [.tup [.str "cell", .tup [.int 0, .int 0], .int 2], .tup [.str "line", .int 0, .int 2], .tup [.str "cell", .tup [.int 1, .int 2], .int 0]], .str "list"],
  .tup [.lst [.tup [.str "cell", .tup [.int 0, .int 0], .int (-1)], .tup [.str "line", .int 0, .int 2], .tup [.str "cell", .tup [.int 1, .int 2], .int 0]], .str "list"],
  .tup [.lst [.tup [.str "cell", .tup [.int 0, .int 0], .bl false], .tup [.str "line", .int 0, .int 2], .tup [.str "cell", .tup [.int 1, .int 2], .int 0]], .str "list"],
  .tup [.lst [.tup [.str "cell", .tup [.int 0, .int 0], .str "1"], .tup [.str "line", .int 0, .int 2], .tup [.str "cell", .tup [.int 1, .int 2], .int 0]], .str "list"],
  .tup [.lst [.tup [.str "cell", .tup [.int 2, .int 0], .int 0], .tup [.str "line", .int 0, .int 2], .tup [.str "cell", .tup [.int 1, .int 2], .int 0]], .str "list"],
  .tup [.lst [.tup [.str "cell", .tup [.int 0, .int 3], .int 0], .tup [.str "line", .int 0, .int 2], .tup [.str "cell", .tup [.int 1, .int 2], .int 0]], .str "list"],
  .tup [.lst [.tup [.str "cell", .tup [.int (-1), .int 0], .int 0], .tup [.str "line", .int 0, .int 2], .tup [.str "cell", .tup [.int 1, .int 2], .int 0]], .str "list"],
  .tup [.lst [.tup [.str "cell", .lst [.int 0, .int 0], .int 0], .tup [.str "line", .int 0, .int 2], .tup [.str "cell", .tup [.int 1, .int 2], .int 0]], .str "list"],
  .tup [.lst [.tup [.str "cell", .tup [.int 0, .int 0, .int 0], .int 0], .tup [.str "line", .int 0, .int 2], .tup [.str "cell", .tup [.int 1, .int 2], .int 0]], .str "list"],
  .tup [.lst [.tup [.str "cell", .tup [.bl false, .int 0], .int 0], .tup [.str "line", .int 0, .int 2], .tup [.str "cell", .tup [.int 1, .int 2], .int 0]], .str "list"],
  .tup [.lst [.tup [.str "cell", .tup [.int 0], .int 1], .tup [.str "line", .int 0, .int 2], .tup [.str "cell", .tup [.int 1, .int 2], .int 0]], .str "list"],
  .tup [.lst [.tup [.str "cells", .tup [.int 0, .int 0], .int 0], .tup [.str "line", .int 0, .int 2], .tup [.str "cell", .tup [.int 1, .int 2], .int 0]], .str "list"],
  .tup [.lst [.tup [.str "line", .int 0, .int 2], .tup [.str "cell", .tup [.int 1, .int 2], .int 0], .non], .str "list"],
  .tup [.lst [.tup [.str "line", .int 0, .int 2], .tup [.str "cell", .tup [.int 1, .int 2], .int 0], .lst []], .str "list"],
  .tup [.lst [.tup [.str "line", .int 0, .int 2], .tup [.str "cell", .tup [.int 1, .int 2], .int 0], .str "line 0 1"], .str "list"],
  .tup [.lst [.tup [.str "line", .int 0, .int 2], .tup [.str "cell", .tup [.int 1, .int 2], .int 0], .tup [.str "line", .int 0]], .str "list"],
  .tup [.lst [.tup [.str "line", .int 0, .int 2], .tup [.str "cell", .tup [.int 1, .int 2], .int 0], .tup [.str "line", .int 0, .int 0, .int 0]], .str "list"],
  .tup [.lst [.tup [.str "line", .int 0, .int 2], .tup [.str "cell", .tup [.int 1, .int 2], .int 0], .lst [.str "line", .int 0, .int 0]], .str "list"],
  .tup [.lst [.tup [.str "line", .int 0, .int 2], .tup [.str "cell", .tup [.int 1, .int 2], .int 0], .tup [.str "Line", .int 0, .int 0]], .str "list"],
  .tup [.lst [.tup [.str "line", .int 0, .int 2], .tup [.str "cell", .tup [.int 1, .int 2], .int 0], .tup [.non, .int 0, .int 0]], .str "list"],
  .tup [.lst [.tup [.str "line", .int 0, .int 2], .tup [.str "cell", .tup [.int 1, .int 2], .int 0], .tup [.str "line", .int 6, .int 0]], .str "list"],
  .tup [.lst [.tup [.str "line", .int 0, .int 2], .tup [.str "cell", .tup [.int 1, .int 2], .int 0], .tup [.str "line", .int (-1), .int 0]], .str "list"],
  .tup [.lst [.tup [.str "line", .int 0, .int 2], .tup [.str "cell", .tup [.int 1, .int 2], .int 0], .tup [.str "line", .bl true, .int 0]], .str "list"],
  .tup [.lst [.tup [.str "line", .int 0, .int 2], .tup [.str "cell", .tup [.int 1, .int 2], .int 0], .tup [.str "line", .str "0", .int 0]], .str "list"],
  .tup [.lst [.tup [.str "line", .int 0, .int 2], .tup [.str "cell", .tup [.int 1, .int 2], .int 0], .tup [.str "line", .int 0, .int (-1)]], .str "list"],
  .tup [.lst [.tup [.str "line", .int 0, .int 2], .tup [.str "cell", .tup [.int 1, .int 2], .int 0], .tup [.str "line", .int 0, .int 4]], .str "list"],
  .tup [.lst [.tup [.str "line", .int 0, .int 2], .tup [.str "cell", .tup [.int 1, .int 2], .int 0], .tup [.str "line", .int 0, .bl true]], .str "list"],
  .tup [.lst [.tup [.str "line", .int 0, .int 2], .tup [.str "cell", .tup [.int 1, .int 2], .int 0], .tup [.str "line", .int 0, .non]], .str "list"],
  .tup [.lst [.tup [.str "line", .int 0, .int 2], .tup [.str "cell", .tup [.int 1, .int 2], .int 0], .tup [.str "line", .tup [.int 0, .int 0], .int 0]], .str "list"],
  .tup [.lst [.tup [.str "line", .int 0, .int 2], .tup [.str "cell", .tup [.int 1, .int 2], .int 0], .tup [.str "cell", .int 0, .int 0]], .str "list"],
  .tup [.lst [.tup [.str "line", .int 0, .int 2], .tup [.str "cell", .tup [.int 1, .int 2], .int 0], .tup [.str "cell", .tup [.int 0, .int 0], .int 2]], .str "list"],
  .tup [.lst [.tup [.str "line", .int 0, .int 2], .tup [.str "cell", .tup [.int 1, .int 2], .int 0], .tup [.str "cell", .tup [.int 0, .int 0], .int (-1)]], .str "list"],
  .tup [.lst [.tup [.str "line", .int 0, .int 2], .tup [.str "cell", .tup [.int 1, .int 2], .int 0], .tup [.str "cell", .tup [.int 0, .int 0], .bl false]], .str "list"],
  .tup [.lst [.tup [.str "line", .int 0, .int 2], .tup [.str "cell", .tup [.int 1, .int 2], .int 0], .tup [.str "cell", .tup [.int 0, .int 0], .str "1"]], .str "list"],
  .tup [.lst [.tup [.str "line", .int 0, .int 2], .tup [.str "cell", .tup [.int 1, .int 2], .int 0], .tup [.str "cell", .tup [.int 2, .int 0], .int 0]], .str "list"],
  .tup [.lst [.tup [.str "line", .int 0, .int 2], .tup [.str "cell", .tup [.int 1, .int 2], .int 0], .tup [.str "cell", .tup [.int 0, .int 3], .int 0]], .str "list"],
  .tup [.lst [.tup [.str "line", .int 0, .int 2], .tup [.str "cell", .tup [.int 1, .int 2], .int 0], .tup [.str "cell", .tup [.int (-1), .int 0], .int 0]], .str "list"],
  .tup [.lst [.tup [.str "line", .int 0, .int 2], .tup [.str "cell", .tup [.int 1, .int 2], .int 0], .tup [.str "cell", .lst [.int 0, .int 0], .int 0]], .str "list"],
  .tup [.lst [.tup [.str "line", .int 0, .int 2], .tup [.str "cell", .tup [.int 1, .int 2], .int 0], .tup [.str "cell", .tup [.int 0, .int 0, .int 0], .int 0]], .str "list"],
  .tup [.lst [.tup [.str "line", .int 0, .int 2], .tup [.str "cell", .tup [.int 1, .int 2], .int 0], .tup [.str "cell", .tup [.bl false, .int 0], .int 0]], .str "list"],
  .tup [.lst [.tup [.str "line", .int 0, .int 2], .tup [.str "cell", .tup [.int 1, .int 2], .int 0], .tup [.str "cell", .tup [.int 0], .int 1]], .str "list"],
  .tup [.lst [.tup [.str "line", .int 0, .int 2], .tup [.str "cell", .tup [.int 1, .int 2], .int 0], .tup [.str "cells", .tup [.int 0, .int 0], .int 0]], .str "list"],
  .tup [.non, .str "list"],
  .tup [.tup [.tup [.str "line", .int 0, .int 2], .tup [.str "cell", .tup [.int 1, .int 2], .int 0]], .str "list"],
  .tup [.dK [] [], .str "list"],
  .tup [.str "", .str "list"],
  .tup [.lst [.lst [.tup [.str "line", .int 0, .int 2], .tup [.str "cell", .tup [.int 1, .int 2], .int 0]]], .str "list"],
  .tup [.lst [.tup [.str "line", .int 0, .int 2], .tup [.str "cell", .tup [.int 1, .int 2], .int 0], .tup [.str "line", .int 0, .int 2], .tup [.str "cell", .tup [.int 1, .int 2], .int 0], .tup [.str "line", .int 0, .int 2], .tup [.str "cell", .tup [.int 1, .int 2], .int 0], .tup [.str "line", .int 0, .int 2], .tup [.str "cell", .tup [.int 1, .int 2], .int 0], .tup [.str "line", .int 0, .int 2], .tup [.str "cell", .tup [.int 1, .int 2], .int 0], .tup [.str "line", .int 0, .int 2], .tup [.str "cell", .tup [.int 1, .int 2], .int 0], .tup [.str "line", .int 0, .int 2], .tup [.str "cell", .tup [.int 1, .int 2], .int 0], .tup [.str "line", .int 0, .int 2], .tup [.str "cell", .tup [.int 1, .int 2], .int 0], .tup [.str "line", .int 0, .int 2], .tup [.str "cell", .tup [.int 1, .int 2], .int 0], .tup [.str "line", .int 0, .int 2], .tup [.str "cell", .tup [.int 1, .int 2], .int 0], .tup [.str "line", .int 0, .int 2], .tup [.str "cell", .tup [.int 1, .int 2], .int 0], .tup [.str "line", .int 0, .int 2], .tup [.str "cell", .tup [.int 1, .int 2], .int 0], .tup [.str "line", .int 0, .int 2], .tup [.str "cell", .tup [.int 1, .int 2], .int 0], .tup [.str "line", .int 0, .int 2], .tup [.str "cell", .tup [.int 1, .int 2], .int 0], .tup [.str "line", .int 0, .int 2], .tup [.str "cell", .tup [.int 1, .int 2], .int 0], .tup [.str "line", .int 0, .int 2], .tup [.str "cell", .tup [.int 1, .int 2], .int 0], .tup [.str "line", .int 0, .int 2], .tup [.str "cell", .tup [.int 1, .int 2], .int 0], .tup [.str "line", .int 0, .int 2], .tup [.str "cell", .tup [.int 1, .int 2], .int 0], .tup [.str "line", .int 0, .int 2], .tup [.str "cell", .tup [.int 1, .int 2], .int 0], .tup [.str "line", .int 0, .int 2], .tup [.str "cell", .tup [.int 1, .int 2], .int 0], .tup [.str "line", .int 0, .int 2], .tup [.str "cell", .tup [.int 1, .int 2], .int 0]], .str "list"]]
def wFew66 : List T := [
  .tup [.lst [.non, .tup [.str "line", .int 0, .int 1], .tup [.str "line", .int 1, .int 2]], .str "list"],
  .tup [.lst [.lst [], .tup [.str "line", .int 0, .int 1], .tup [.str "line", .int 1, .int 2]], .str "list"],
  .tup [.lst [.str "line 0 1", .tup [.str "line", .int 0, .int 1], .tup [.str "line", .int 1, .int 2]], .str "list"],
  .tup [.lst [.tup [.str "line", .int 0], .tup [.str "line", .int 0, .int 1], .tup [.str "line", .int 1, .int 2]], .str "list"],
  .tup [.lst [.tup [.str "line", .int 0, .int 0, .int 0], .tup [.str "line", .int 0, .int 1], .tup [.str "line", .int 1, .int 2]], .str "list"],
  .tup [.lst [.lst [.str "line", .int 0, .int 0], .tup [.str "line", .int 0, .int 1], .tup [.str "line", .int 1, .int 2]], .str "list"],
  .tup [.lst [.tup [.str "Line", .int 0, .int 0], .tup [.str "line", .int 0, .int 1], .tup [.str "line", .int 1, .int 2]], .str "list"],
  .tup [.lst [.tup [.non, .int 0, .int 0], .tup [.str "line", .int 0, .int 1], .tup [.str "line", .int 1, .int 2]], .str "list"],
  .tup [.lst [.tup [.str "line", .int 6, .int 0], .tup [.str "line", .int 0, .int 1], .tup [.str "line", .int 1, .int 2]], .str "list"],
  .tup [.lst [.tup [.str "line", .int (-1), .int 0], .tup [.str "line", .int 0, .int 1], .tup [.str "line", .int 1, .int 2]], .str "list"],
  .tup [.lst [.tup [.str "line", .bl true, .int 0], .tup [.str "line", .int 0, .int 1], .tup [.str "line", .int 1, .int 2]], .str "list"],
  .tup [.lst [.tup [.str "line", .str "0", .int 0], .tup [.str "line", .int 0, .int 1], .tup [.str "line", .int 1, .int 2]], .str "list"],
  .tup [.lst [.tup [.str "line", .int 0, .int (-1)], .tup [.str "line", .int 0, .int 1], .tup [.str "line", .int 1, .int 2]], .str "list"],
  .tup [.lst [.tup [.str "line", .int 0, .int 4], .tup [.str "line", .int 0, .int 1], .tup [.str "line", .int 1, .int 2]], .str "list"],
  .tup [.lst [.tup [.str "line", .int 0, .bl true], .tup [.str "line", .int 0, .int 1], .tup [.str "line", .int 1, .int 2]], .str "list"],
  .tup [.lst [.tup [.str "line", .int 0, .non], .tup [.str "line", .int 0, .int 1], .tup [.str "line", .int 1, .int 2]], .str "list"],
  .tup [.lst [.tup [.str "line", .tup [.int 0, .int 0], .int 0], .tup [.str "line", .int 0, .int 1], .tup [.str "line", .int 1, .int 2]], .str "list"],
  .tup [.lst [.tup [.str "cell", .int 0, .int 0], .tup [.str "line", .int 0, .int 1], .tup [.str "line", .int 1, .int 2]], .str "list"],
  .tup [.lst [.tup [.str "cell", .tup [.int 0, .int 0], .int 2], .tup [.str "line", .int 0, .int 1], .tup [.str "line", .int 1, .int 2]], .str "list"],
  .tup [.lst [.tup [.str "cell", .tup [.int 0, .int 0], .int (-1)], .tup [.str "line", .int 0, .int 1], .tup [.str "line", .int 1, .int 2]], .str "list"],
  .tup [.lst [.tup [.str "cell", .tup [.int 0, .int 0], .bl false], .tup [.str "line", .int 0, .int 1], .tup [.str "line", .int 1, .int 2]], .str "list"],
  .tup [.lst [.tup [.str "cell", .tup [.int 0, .int 0], .str "1"], .tup [.str "line", .int 0, .int 1], .tup [.str "line", .int 1, .int 2]], .str "list"],
  .tup [.lst [.tup [.str "cell", .tup [.int 2, .int 0], .int 0], .tup [.str "line", .int 0, .int 1], .tup [.str "line", .int 1, .int 2]], .str "list"],
  .tup [.lst [.tup [.str "cell", .tup [.int 0, .int 3], .int 0], .tup [.str "line", .int 0, .int 1], .tup [.str "line", .int 1, .int 2]], .str "list"],
  .tup [.lst [.tup [.str "cell", .tup [.int (-1), .int 0], .int 0], .tup [.str "line", .int 0, .int 1], .tup [.str "line", .int 1, .int 2]], .str "list"],
  .tup [.lst [.tup [.str "cell", .lst [.int 0, .int 0], .int 0], .tup [.str "line", .int 0, .int 1], .tup [.str "line", .int 1, .int 2]], .str "list"],
  .tup [.lst [.tup [.str "cell", .tup [.int 0, .int 0, .int 0], .int 0], .tup [.str "line", .int 0, .int 1], .tup [.str "line", .int 1, .int 2]], .str "list"],
  .tup [.lst [.tup [.str "cell", .tup [.bl false, .int 0], .int 0], .tup [.str "line", .int 0, .int 1], .tup [.str "line", .int 1, .int 2]], .str "list"],
  .tup [.lst [.tup [.str "cell", .tup [.int 0], .int 1], .tup [.str "line", .int 0, .int 1], .tup [.str "line", .int 1, .int 2]], .str "list"],
  .tup [.lst [.tup [.str "cells", .tup [.int 0, .int 0], .int 0], .tup [.str "line", .int 0, .int 1], .tup [.str "line", .int 1, .int 2]], .str "list"],
  .tup [.lst [.tup [.str "line", .int 0, .int 1], .tup [.str "line", .int 1, .int 2], .non], .str "list"],
  .tup [.lst [.tup [.str "line", .int 0, .int 1], .tup [.str "line", .int 1, .int 2], .lst []], .str "list"],
  .tup [.lst [.tup [.str "line", .int 0, .int 1], .tup [.str "line", .int 1, .int 2], .str "line 0 1"], .str "list"],
  .tup [.lst [.tup [.str "line", .int 0, .int 1], .tup [.str "line", .int 1, .int 2], .tup [.str "line", .int 0]], .str "list"],
  .tup [.lst [.tup [.str "line", .int 0, .int 1], .tup [.str "line", .int 1, .int 2], .tup [.str "line", .int 0, .int 0, .int 0]], .str "list"],
  .tup [.lst [.tup [.str "line", .int 0, .int 1], .tup [.str "line", .int 1, .int 2], .lst [.str "line", .int 0, .int 0]], .str "list"],
  .tup [.lst [.tup [.str "line", .int 0, .int 1], .tup [.str "line", .int 1, .int 2], .tup [.str "Line", .int 0, .int 0]], .str "list"],
  .tup [.lst [.tup [.str "line", .int 0, .int 1], .tup [.str "line", .int 1, .int 2], .tup [.non, .int 0, .int 0]], .str "list"],
  .tup [.lst [.tup [.str "line", .int 0, .int 1], .tup [.str "line", .int 1, .int 2], .tup [.str "line", .int 6, .int 0]], .str "list"],
  .tup [.lst [.tup [.str "line", .int 0, .int 1], .tup [.str "line", .int 1, .int 2], .tup [.str "line", .int (-1), .int 0]], .str "list"],
  .tup [.lst [.tup [.str "line", .int 0, .int 1], .tup [.str "line", .int 1, .int 2], .tup [.str "line", .bl true, .int 0]], .str "list"],
  .tup [.lst [.tup [.str "line", .int 0, .int 1], .tup [.str "line", .int 1, .int 2], .tup [.str "line", .str "0", .int 0]], .str "list"],
  .tup [.lst [.tup [.str "line", .int 0, .int 1], .tup [.str "line", .int 1, .int 2], .tup [.str "line", .int 0, .int (-1)]], .str "list"],
  .tup [.lst [.tup [.str "line", .int 0, .int 1], .tup [.str "line", .int 1, .int 2], .tup [.str "line", .int 0, .int 4]], .str "list"],
  .tup [.lst [.tup [.str "line", .int 0, .int 1], .tup [.str "line", .int 1, .int 2], .tup [.str "line", .int 0, .bl true]], .str "list"],
  .tup [.lst [.tup [.str "line", .int 0, .int 1], .tup [.str "line", .int 1, .int 2], .tup [.str "line", .int 0, .non]], .str "list"],
  .tup [.lst [.tup [.str "line", .int 0, .int 1], .tup [.str "line", .int 1, .int 2], .tup [.str "line", .tup [.int 0, .int 0], .int 0]], .str "list"],
  .tup [.lst [.tup [.str "line", .int 0, .int 1], .tup [.str "line", .int 1, .int 2], .tup [.str "cell", .int 0, .int 0]], .str "list"],
  .tup [.lst [.tup [.str "line", .int 0, .int 1], .tup [.str "line", .int 1, .int 2], .tup [.str "cell", .tup [.int 0, .int 0], .int 2]], .str "list"],
  .tup [.lst [.tup [.str "line", .int 0, .int 1], .tup [.str "line", .int 1, .int 2], .tup [.str "cell", .tup [.int 0, .int 0], .int (-1)]], .str "list"],
  .tup [.lst [.tup [.str "line", .int 0, .int 1], .tup [.str "line", .int 1, .int 2], .tup [.str "cell", .tup [.int 0, .int 0], .bl false]], .str "list"],
  .tup [.lst [.tup [.str "line", .int 0, .int 1], .tup [.str "line", .int 1, .int 2], .tup [.str "cell", .tup [.int 0, .int 0], .str "1"]], .str "list"],
  .tup [.lst [.tup [.str "line", .int 0, .int 1], .tup [.str "line", .int 1, .int 2], .tup [.str "cell", .tup [.int 2, .int 0], .int 0]], .str "list"],
  .tup [.lst [.tup [.str "line", .int 0, .int 1], .tup [.str "line", .int 1, .int 2], .tup [.str "cell", .tup [.int 0, .int 3], .int 0]], .str "list"],
  .tup [.lst [.tup [.str "line", .int 0, .int 1], .tup [.str "line", .int 1, .int 2], .tup [.str "cell", .tup [.int (-1), .int 0], .int 0]], .str "list"],
  .tup [.lst [.tup [.str "line", .int 0, .int 1], .tup [.str "line", .int 1, .int 2], .tup [.str "cell", .lst [.int 0, .int 0], .int 0]], .str "list"],
  .tup [.lst [.tup [.str "line", .int 0, .int 1], .tup [.str "line", .int 1, .int 2], .tup [.str "cell", .tup [.int 0, .int 0, .int 0], .int 0]], .str "list"],
  .tup [.lst [.tup [.str "line", .int 0, .int 1], .tup [.str "line", .int 1, .int 2], .tup [.str "cell", .tup [.bl false, .int 0], .int 0]], .str "list"],
  .tup [.lst [.tup [.str "line", .int 0, .int 1], .tup [.str "line", .int 1, .int 2], .tup [.str "cell", .tup [.int 0], .int 1]], .str "list"],
  .tup [.lst [.tup [.str "line", .int 0, .int 1], .tup [.str "line", .int 1, .int 2], .tup [.str "cells", .tup [.int 0, .int 0], .int 0]], .str "list"],
  .tup [.non, .str "list"],
  .tup [.tup [.tup [.str "line", .int 0, .int 1], .tup [.str "line", .int 1, .int 2]], .str "list"],
  .tup [.dK [] [], .str "list"],
  .tup [.str "", .str "list"],
  .tup [.lst [.lst [.tup [.str "line", .int 0, .int 1], .tup [.str "line", .int 1, .int 2]]], .str "list"],
  .tup [.lst [.tup [.str "line", .int 0, .int 1], .tup [.str "line", .int 1, .int 2], .tup [.str "line", .int 0, .int 1], .tup [.str "line", .int 1, .int 2], .tup [.str "line", .int 0, .int 1], .tup [.str "line", .int 1, .int 2], .tup [.str "line", .int 0, .int 1], .tup [.str "line", .int 1, .int 2], .tup [.str "line", .int 0, .int 1], .tup [.str "line", .int 1, .int 2], .tup [.str "line", .int 0, .int 1], .tup [.str "line", .int 1, .int 2], .tup [.str "line", .int 0, .int 1], .tup [.str "line", .int 1, .int 2], .tup [.str "line", .int 0, .int 1], .tup [.str "line", .int 1, .int 2], .tup [.str "line", .int 0, .int 1], .tup [.str "line", .int 1, .int 2], .tup [.str "line", .int 0, .int 1], .tup [.str "line", .int 1, .int 2], .tup [.str "line", .int 0, .int 1], .tup [.str "line", .int 1, .int 2], .tup [.str "line", .int 0, .int 1], .tup [.str "line", .int 1, .int 2], .tup [.str "line", .int 0, .int 1], .tup [.str "line", .int 1, .int 2], .tup [.str "line", .int 0, .int 1], .tup [.str "line", .int 1, .int 2], .tup [.str "line", .int 0, .int 1], .tup [.str "line", .int 1, .int 2], .tup [.str "line", .int 0, .int 1], .tup [.str "line", .int 1, .int 2], .tup [.str "line", .int 0, .int 1], .tup [.str "line", .int 1, .int 2], .tup [.str "line", .int 0, .int 1], .tup [.str "line", .int 1, .int 2], .tup [.str "line", .int 0, .int 1], .tup [.str "line", .int 1, .int 2], .tup [.str "line", .int 0, .int 1], .tup [.str "line", .int 1, .int 2], .tup [.str "line", .int 0, .int 1], .tup [.str "line", .int 1, .int 2]], .str "list"]]
def wFew4 : List T := [
  .tup [.lst [.tup [.str "line", .int 0, .int 1], .tup [.str "line", .int 0, .int 2]], .str "unlike"],
  .tup [.lst [.tup [.str "cell", .tup [.int 0, .int 0], .int 0], .tup [.str "cell", .tup [.int 0, .int 0], .int 1]], .str "unlike"],
  .tup [.lst [], .str "64"],
  .tup [.lst [.tup [.str "cell", .tup [.int 0, .int 0], .int 0]], .str "32"]]
def wFew : List T := wFew66 ++ (List.replicate 20 wFew4).flatten
def rB : T := .tup [.int 2, .int 3]
def rD : T := .lst [.tup [.int 0, .int 1], .tup [.int 1, .int (-1)]]
def rF : T := .lst [.tup [.str "line", .int 0, .int 2], .tup [.str "cell", .tup [.int 1, .int 2], .int 0]]
def rW : T := .lst [.tup [.str "line", .int 0, .int 1], .tup [.str "line", .int 1, .int 2]]
def rL : T := .lst [.lst [.tup [.int 0, .int 0], .tup [.int 0, .int 1], .tup [.int 0, .int 2]], .lst [.tup [.int 1, .int 0], .tup [.int 1, .int 1], .tup [.int 1, .int 2]], .lst [.tup [.int 0, .int 0]], .lst [.tup [.int 0, .int 1], .tup [.int 1, .int 0]], .lst [.tup [.int 0, .int 2], .tup [.int 1, .int 1]], .lst [.tup [.int 1, .int 2]]]
def Rt (k : Str) : T := if k = "board" then rB else if k = "directions" then rD else if k = "facts" then rF else if k = "number" then .int 5 else if k = "few" then rW else .non
def Wr (k : Str) : List T := if k = "board" then wBoard else if k = "directions" then wDirs else if k = "facts" then wFacts else if k = "number" then wNum else if k = "few" then wFew else []
def badFact (n : Nat) (t : T) : Bool := match t with
  | .tup [v, w] => givesV prg n 16 [rB, rL, v] (.bl false) && lastOk 4 v v w
  | _ => false
theorem t_board (n : Nat) (d : T) : (wBoard.all (excOk (n + 9) 17 fun v => [v, d])) = true := by kernel_rfl
theorem t_dirs (n : Nat) : (wDirs.all (excOk (n + 9) 17 fun v => [rB, v])) = true := by kernel_rfl
theorem t_facts (n : Nat) : (wFacts.all (badFact (n + 9))) = true := by kernel_rfl
theorem t_few (n : Nat) : (wFew66.all (badFact (n + 9))) = true := by kernel_rfl
theorem t_few4 (n : Nat) : (wFew4.all (excOk (n + 12) 33 fun v => [rB, rD, v])) = true := by kernel_rfl
theorem t_num (n : Nat) : (wNum.all (excOk (n + 12) 28 fun v => [rB, rD, rF, v])) = true := by kernel_rfl
theorem t_lines (n : Nat) : givesV prg (n + 9) 12 [rB, rD] rL = true := by kernel_rfl
theorem t_small (n : Nat) : givesV prg (n + 9) 17 [rB, rD] .non = true := by kernel_rfl
theorem w_board (n : Nat) : givesV prg (n + 9) 45 [.str "board"] (.lst wBoard) = true := by kernel_rfl
theorem w_dirs (n : Nat) : givesV prg (n + 9) 45 [.str "directions"] (.lst wDirs) = true := by kernel_rfl
theorem w_num (n : Nat) : givesV prg (n + 9) 45 [.str "number"] (.lst wNum) = true := by kernel_rfl
theorem w_facts (n : Nat) : givesV prg (n + 9) 45 [.str "facts"] (.lst wFacts) = true := by kernel_rfl
theorem w_few (n : Nat) : givesV prg (n + 9) 45 [.str "few"] (.lst wFew) = true := by kernel_rfl
end PY.k90
set_option Elab.async false
set_option maxRecDepth 100000
set_option linter.all false
set_option maxHeartbeats 800000
/-! # K90c: what is raised comes out; what is told of it -/
namespace PY.k90
open PySem L2 PY
/-- the call raises c with u -/
def Ex (n f : Nat) (ts : List T) (c : Nat) (u : T) : Prop := ∃ σ', callF prg n f (ts.map .val) = .ex c u σ'
theorem retF_ex {c : Nat} {u : T} {σ σ' : Sig} : retF (.ex c u σ') σ = .ex c u σ := rfl
@[simp] theorem finD_ex {np c : Nat} {u : T} {σ : Sig} : finD np (.ex c u σ) = .ex c u (ends np σ) := rfl
section
variable {n c : Nat} {b d f x u v : T}
theorem p19 (h : Ex n 17 [b, d] c u) : Ex (n + 1) 19 [b, d, f] c u := by
  obtain ⟨σ, e⟩ := h
  refine ⟨[none, none, none], ?_⟩
  rw [run_def df_check_facts rfl (by decide)]
  simp at e
  simp [b_check_facts, rd_val, e, retF_ex, ends_s]
theorem p19' (h1 : ∃ σ, callF prg n 17 [.val rB, .val rD] = .ok (.val .non) σ) (h2 : ∃ σ, callF prg n 12 [.val rB, .val rD] = .ok (.val rL) σ) (h3 : ∃ σ, callF prg n 16 [.val rB, .val rL, .val v] = .ok (.val (.bl false)) σ) : Ex (n + 1) 19 [rB, rD, v] 4 v := by
  obtain ⟨σ1, e1⟩ := h1
  obtain ⟨σ2, e2⟩ := h2
  obtain ⟨σ3, e3⟩ := h3
  refine ⟨[none, none, none], ?_⟩
  rw [run_def df_check_facts rfl (by decide)]
  simp [b_check_facts, rd_val, e1, e2, e3, putS, ends_s]
theorem p18 (h : Ex n 17 [b, d] c u) : Ex (n + 1) 18 [b, d, x] c u := by
  obtain ⟨σ, e⟩ := h
  refine ⟨[none, none, none], ?_⟩
  rw [run_def df_are_facts rfl (by decide)]
  simp at e
  simp [b_are_facts, rd_val, e, retF_ex, ends_s]
theorem p33 (h : Ex n 19 [b, d, f] c u) : Ex (n + 1) 33 [b, d, f] c u := by
  obtain ⟨σ, e⟩ := h
  refine ⟨[none, none, none], ?_⟩
  rw [run_def df_check_few rfl (by decide)]
  simp at e
  simp [b_check_few, rd_val, e, retF_ex, ends_s]
theorem p23 (h : Ex n 19 [b, d, f] c u) : Ex (n + 1) 23 [b, d, f] c u := by
  obtain ⟨σ, e⟩ := h
  refine ⟨[none, none, none], ?_⟩
  rw [run_def df_left_pictures rfl (by decide)]
  simp at e
  simp [b_left_pictures, rd_val, e, retF_ex, ends_s]
theorem p24 (h : Ex n 19 [b, d, f] c u) : Ex (n + 1) 24 [b, d, f] c u := by
  obtain ⟨σ, e⟩ := h
  refine ⟨[none, none, none], ?_⟩
  rw [run_def df_how_many_left rfl (by decide)]
  simp at e
  simp [b_how_many_left, rd_val, e, retF_ex, ends_s]
theorem p26 (h : Ex n 19 [b, d, f] c u) : Ex (n + 1) 26 [b, d, f] c u := by
  obtain ⟨σ, e⟩ := h
  refine ⟨[none, none, none], ?_⟩
  rw [run_def df_sure_left rfl (by decide)]
  simp at e
  simp [b_sure_left, rd_val, e, retF_ex, ends_s]
theorem p31 (h : Ex n 19 [b, d, f] c u) : Ex (n + 1) 31 [b, d, f] c u := by
  obtain ⟨σ, e⟩ := h
  refine ⟨[none, none, none], ?_⟩
  rw [run_def df_best_line rfl (by decide)]
  simp at e
  simp [b_best_line, rd_val, e, retF_ex, ends_s]
theorem p32 (h : Ex n 19 [b, d, f] c u) : Ex (n + 1) 32 [b, d, f] c u := by
  obtain ⟨σ, e⟩ := h
  refine ⟨[none, none, none], ?_⟩
  rw [run_def df_best_cell rfl (by decide)]
  simp at e
  simp [b_best_cell, rd_val, e, retF_ex, ends_s]
theorem p28 (h : Ex n 19 [b, d, f] c u) : Ex (n + 1) 28 [b, d, f, x] c u := by
  obtain ⟨σ, e⟩ := h
  refine ⟨[none, none, none, none], ?_⟩
  rw [run_def df_parts_by_line rfl (by decide)]
  simp at e
  simp [b_parts_by_line, rd_val, e, retF_ex, ends_s]
theorem p38 (h : Ex n 33 [b, d, f] c u) : Ex (n + 1) 38 [b, d, f] c u := by
  obtain ⟨σ, e⟩ := h
  refine ⟨[none, none, none], ?_⟩
  rw [run_def df_least_asks rfl (by decide)]
  simp at e
  simp [b_least_asks, rd_val, e, retF_ex, ends_s]
theorem p41 (h : Ex n 33 [b, d, f] c u) : Ex (n + 1) 41 [b, d, f, x] c u := by
  obtain ⟨σ, e⟩ := h
  refine ⟨[none, none, none, none], ?_⟩
  rw [run_def df_is_asking_tree rfl (by decide)]
  simp at e
  simp [b_is_asking_tree, rd_val, e, retF_ex, ends_s]
theorem p42 (h : Ex n 33 [b, d, f] c u) : Ex (n + 1) 42 [b, d, f, x] c u := by
  obtain ⟨σ, e⟩ := h
  refine ⟨[none, none, none, none], ?_⟩
  rw [run_def df_is_least_asks rfl (by decide)]
  simp at e
  simp [b_is_least_asks, rd_val, e, retF_ex, ends_s]
theorem isc_ex {cs : List Nat} : T.isc cs (.exc c u) = some (cs.contains c) := rfl
theorem isv_ex : T.isv (.exc c u) = some true := rfl
theorem xval_ex : T.xval (.exc c u) = some u := rfl
@[simp] theorem isT_exc_non : isT (.exc c u) .non = some false := rfl
theorem tryF_ex {i k : Nat} {w : T} {σ : Sig} : tryF i k (.ex c w σ) = .of (PY.put k (.val (.exc c w)) (σ.set i none)) := rfl
theorem p46_3 {g : Nat} (hg : ([18, 23, 24, 26, 31, 32, 38] : List Nat).contains g = true) (hc : 1 ≤ c ∧ c ≤ 6) {y : Str} (hy : shown? u = some y) (h : Ex n g [b, d, f] c u) : ∃ r σ', callF prg (n + 1) 46 [.val (.fn g), .val (.lst [b, d, f])] = .ok r σ' ∧ r.t = told c u := by
  obtain ⟨σ, e⟩ := h
  rw [run_def df__law_caught rfl (by decide)]
  simp at e
  have hc' : c = 1 ∨ c = 2 ∨ c = 3 ∨ c = 4 ∨ c = 5 ∨ c = 6 := by omega
  simp at hg
  rcases hc' with rfl | rfl | rfl | rfl | rfl | rfl <;>
    simp [b__law_caught, rd_val, e, retF_ex, putS, hg, tryF_ex, isc_ex, isv_ex, xval_ex, lstF_v, tupF_v, hy, told, word, bop_add_lst, hideS, evL_two, finL_ok, ends_s]
theorem p46_4 {g : Nat} (hg : ([28, 41, 42] : List Nat).contains g = true) (hc : 1 ≤ c ∧ c ≤ 6) {y : Str} (hy : shown? u = some y) (h : Ex n g [b, d, f, x] c u) : ∃ r σ', callF prg (n + 1) 46 [.val (.fn g), .val (.lst [b, d, f, x])] = .ok r σ' ∧ r.t = told c u := by
  obtain ⟨σ, e⟩ := h
  rw [run_def df__law_caught rfl (by decide)]
  simp at e
  have hc' : c = 1 ∨ c = 2 ∨ c = 3 ∨ c = 4 ∨ c = 5 ∨ c = 6 := by omega
  simp at hg
  rcases hc' with rfl | rfl | rfl | rfl | rfl | rfl <;>
    simp [b__law_caught, rd_val, e, retF_ex, putS, hg, tryF_ex, isc_ex, isv_ex, xval_ex, lstF_v, tupF_v, hy, told, word, bop_add_lst, hideS, evL_two, finL_ok, ends_s]
end
/-! ### the words of what is wrong -/
theorem words_sh : (wordsL.all fun w => shdB 0 60 (.str w) && PyData.canLay0 (.str w) && (match tix (.str w) (.int 0) with | some c => (match tmem c (.str "0123456789") with | some b => b == isDig w | none => false) | none => false)) = true := by kernel_rfl
theorem word_dig : ∀ c, 1 ≤ c ∧ c ≤ 5 → isDig (word c) = false := by
  intro c hc
  have hc' : c = 1 ∨ c = 2 ∨ c = 3 ∨ c = 4 ∨ c = 5 := by omega
  rcases hc' with rfl | rfl | rfl | rfl | rfl <;> kernel_rfl
theorem dueOf_is {v : T} {w y : Str} (hy : shown? v = some y) : dueOf v (.str w) = .lst (if isDig w then [.str w, .bl true] else [.str w, .bl true, .str y]) := by
  unfold dueOf
  rw [hy]
  show (if isDig w = true then _ else _) = _
  cases isDig w <;> rfl
structure Wrong (v : T) (w : Str) : Prop where
  sh : Shd 8 9000 v
  wd : w ∈ wordsL
structure Tells (c : Nat) (u v : T) (w : Str) : Prop where
  hc : 1 ≤ c ∧ c ≤ 6
  y : ∃ y, shown? u = some y
  eq : told c u = dueOf v (.str w)
theorem lastOk_ok {c : Nat} {u v : T} {w : Str} (h : lastOk c u v (.str w) = true) : Wrong v w ∧ Tells c u v w := by
  unfold lastOk at h
  simp only [Bool.and_eq_true, Bool.or_eq_true, decide_eq_true_eq] at h
  obtain ⟨⟨h1, h2⟩, h3⟩ := h
  have hs := shOk_ok h2
  obtain ⟨y, hy, _⟩ := hs.str (by omega) (by omega)
  refine ⟨⟨hs, h1⟩, ?_⟩
  rcases h3 with ⟨⟨rfl, h4⟩, h5⟩ | ⟨⟨h4, h5⟩, h6⟩
  · split at h5
    · rename_i y' hy'
      have := of_decide_eq_true h5
      subst this
      refine ⟨by omega, ⟨_, hy'⟩, ?_⟩
      rw [dueOf_is hy, h4]
      unfold told
      rw [hy']
      rfl
    · cases h5
  · have := T.beq_eq h6
    subst this
    refine ⟨by omega, ⟨y, hy⟩, ?_⟩
    rw [dueOf_is hy, h5, word_dig c h4]
    unfold told
    rw [hy]
    show (if c = 6 then _ else _) = _
    rw [if_neg (by omega)]
    rfl
theorem excOk_ok {n f : Nat} {args : T → List T} {v : T} {w : Str} (h : excOk n f args (.tup [v, .str w]) = true) : Wrong v w ∧ ∃ c u, Ex n f (args v) c u ∧ Tells c u v w := by
  unfold excOk at h
  rw [callG_ok] at h
  simp only at h
  split at h
  · rename_i c u σ e
    obtain ⟨q1, q2⟩ := lastOk_ok h
    exact ⟨q1, c, u, ⟨σ, e⟩, q2⟩
  · cases h
theorem badFact_ok {n : Nat} {v : T} {w : Str} (h : badFact (n + 9) (.tup [v, .str w]) = true) : Wrong v w ∧ ∃ c u, Ex (n + 10) 19 [rB, rD, v] c u ∧ Tells c u v w := by
  unfold badFact at h
  simp only [Bool.and_eq_true] at h
  obtain ⟨q1, q2⟩ := lastOk_ok h.2
  exact ⟨q1, 4, v, p19' (givesV_ok (t_small n)) (givesV_ok (t_lines n)) (givesV_ok h.1), q2⟩
theorem form_ok : ((wBoard ++ wDirs ++ wNum ++ wFacts ++ wFew66 ++ wFew4).all fun t => match t with | .tup [_, .str _] => true | _ => false) = true := by kernel_rfl
theorem form {t : T} (h : t ∈ wBoard ++ wDirs ++ wNum ++ wFacts ++ wFew66 ++ wFew4) : ∃ v w, t = .tup [v, .str w] := by
  have := List.all_eq_true.mp form_ok t h
  split at this
  · exact ⟨_, _, rfl⟩
  · cases this
end PY.k90
set_option Elab.async false
set_option linter.all false
set_option maxRecDepth 100000
set_option maxHeartbeats 800000
/-! # K90d: what is drawn -/
namespace PY.k90
open PySem L2 PY
structure Pu where
  cs : List Int
  at_ : Nat
  left : Int
  cnt : Nat
  seed : Int
def mP (p : Pu) : M := .lst [.lst (p.cs.map fun i => .fr (.int i)), .fr (.int p.at_), .fr (.int p.left), .fr (.int p.cnt), .fr (.int p.seed)]
structure POk (c : Nat) (p : Pu) : Prop where
  at_ : p.at_ ≤ p.cs.length
  cnt : p.cnt ≤ c
  s0 : 0 ≤ p.seed
  s1 : p.seed < 2147483647
theorem POk.mono {c d : Nat} {p : Pu} (h : POk c p) (hd : c ≤ d) : POk d p := ⟨h.at_, Nat.le_trans h.cnt hd, h.s0, h.s1⟩
theorem er_mP {p : Pu} : (mP p).er = .lst [.lst (p.cs.map .int), .int p.at_, .int p.left, .int p.cnt, .int p.seed] := by
  unfold mP
  simp [Function.comp_def]
theorem put1 {p : Pu} {i : Nat} : M.putIx (.int 1) (.fr (.int i)) (mP p) = some (mP { p with at_ := i }) := rfl
theorem put2 {p : Pu} {i : Int} : M.putIx (.int 2) (.fr (.int i)) (mP p) = some (mP { p with left := i }) := rfl
theorem put3 {p : Pu} {i : Nat} : M.putIx (.int 3) (.fr (.int i)) (mP p) = some (mP { p with cnt := i }) := rfl
theorem put1' {p : Pu} : M.putIx (.int 1) (.fr (.int ((p.at_ : Int) + 1))) (mP p) = some (mP { p with at_ := p.at_ + 1 }) := rfl
theorem put3' {p : Pu} : M.putIx (.int 3) (.fr (.int ((p.cnt : Int) + 1))) (mP p) = some (mP { p with cnt := p.cnt + 1 }) := rfl
theorem isL_mP {p : Pu} : isL (some (some (.io (mP p)))) = true := rfl
theorem isL_mPo {p : Pu} : isL (some (some (.own (mP p)))) = true := rfl
def hdS : S → S
  | .seq a _ => a
  | _ => .nil
def tlS : S → S
  | .seq _ b => b
  | _ => .nil
theorem draw_split {cl : Nat → List W → Out R} {σ : Sig} : evS cl b__law_draw σ = (evS cl (hdS b__law_draw) σ).thn fun σ => evS cl (tlS b__law_draw) σ := by
  show evS cl (.seq (hdS b__law_draw) (tlS b__law_draw)) σ = _
  rw [evS_3]
/-- behind the first question the purse has something, or not -/
theorem draw_tail (n : Nat) {c : Nat} {p : Pu} (hc : c ≤ 100000) (h : POk c p) {many : Int} (h1 : 1 ≤ many) (h2 : many ≤ 1000) : ∃ v p', 0 ≤ v ∧ v < many ∧ POk (c + 1) p' ∧
    finD 2 (evS (callF prg n) (tlS b__law_draw) [some (.io (mP p)), some (.val (.int many)), none, none]) = .ok (.val (.int v)) [some (.io (mP p')), none] := by
  by_cases hl : many ≤ p.left
  · refine ⟨p.left % many, { p with left := p.left / many }, Int.emod_nonneg _ (by omega), Int.emod_lt_of_pos _ (by omega), ⟨h.at_, Nat.le_succ_of_le h.cnt, h.s0, h.s1⟩, ?_⟩
    simp [b__law_draw, tlS, rd_val, er_mP, hl, bop_mod_int (show (0 : Int) < many by omega), putS, bop_fdiv_int (show (0 : Int) < many by omega) (show many < 1073741824 by omega), upS_i, put2, ends_s]
  · have hcnt := h.cnt
    generalize hs : ((((p.cnt : Int) + 1) * ((p.cnt : Int) + 1) + p.seed) * 48271) % 2147483629 = s
    have a1 : 0 ≤ s := by rw [← hs]; exact Int.emod_nonneg _ (by omega)
    have a2 : s < 2147483629 := by rw [← hs]; exact Int.emod_lt_of_pos _ (by omega)
    refine ⟨(s * s % 2147483587) % many, { p with cnt := p.cnt + 1 }, Int.emod_nonneg _ (by omega), Int.emod_lt_of_pos _ (by omega), ⟨h.at_, Nat.succ_le_succ h.cnt, h.s0, h.s1⟩, ?_⟩
    have m1 : mulOk ((p.cnt : Int) + 1) ((p.cnt : Int) + 1) = true := mulOk_r (by omega) (by omega)
    have m2 : ∀ i : Int, mulOk i 48271 = true := fun i => mulOk_r (by omega) (by omega)
    have m3 : mulOk s s = true := by
      unfold mulOk
      simp only [Bool.or_eq_true, Bool.and_eq_true, decide_eq_true_eq]
      omega
    simp [b__law_draw, tlS, rd_val, er_mP, hl, isL_mP, upS_i, put3', putS, bop_mul_int, m1, m2, bop_mod_int, hs, m3, show (0 : Int) < many by omega, ends_s]
theorem draw_ok (n : Nat) {c : Nat} {p : Pu} (hc : c ≤ 100000) (h : POk c p) {many : Int} (h1 : 1 ≤ many) (h2 : many ≤ 1000) : ∃ v p', 0 ≤ v ∧ v < many ∧ POk (c + 1) p' ∧
    callF prg (n + 1) 51 [.io (mP p), .val (.int many)] = .ok (.val (.int v)) [some (.io (mP p')), none] := by
  rw [run_def df__law_draw rfl (by decide)]
  by_cases hf : p.left < many ∧ p.at_ < p.cs.length
  · obtain ⟨hf1, hf2⟩ := hf
    obtain ⟨v, p', q1, q2, q3, q4⟩ := draw_tail n hc (p := { p with left := p.cs[p.at_], at_ := p.at_ + 1 }) ⟨hf2, h.cnt, h.s0, h.s1⟩ h1 h2
    refine ⟨v, p', q1, q2, q3, ?_⟩
    rw [← q4]
    have hix : (p.cs.map T.int)[p.at_]? = some (.int p.cs[p.at_]) := by rw [List.getElem?_map, List.getElem?_eq_getElem hf2]; rfl
    have e : evS (callF prg n) (hdS b__law_draw) [some (.io (mP p)), some (.val (.int many)), none, none] = .nx [some (.io (mP { p with left := p.cs[p.at_], at_ := p.at_ + 1 })), some (.val (.int many)), none, none] := by
      have e1 : ∀ q : Pu, q.at_ = p.at_ → M.putIx (.int 1) (.fr (.int ((p.at_ : Int) + 1))) (mP q) = some (mP { q with at_ := p.at_ + 1 }) := fun q hq => rfl
      simp [b__law_draw, hdS, rd_val, er_mP, hf1, hf2, atI_nat', hix, upS_i, put2, isL_mP, e1]
    show finD 2 (evS (callF prg n) b__law_draw [some (.io (mP p)), some (.val (.int many)), none, none]) = _
    rw [draw_split, e]
    rfl
  · obtain ⟨v, p', q1, q2, q3, q4⟩ := draw_tail n hc h h1 h2
    refine ⟨v, p', q1, q2, q3, ?_⟩
    rw [← q4]
    have e : evS (callF prg n) (hdS b__law_draw) [some (.io (mP p)), some (.val (.int many)), none, none] = .nx [some (.io (mP p)), some (.val (.int many)), none, none] := by
      by_cases hf1 : p.left < many
      · have hf2 : ¬ p.at_ < p.cs.length := fun q => hf ⟨hf1, q⟩
        simp [b__law_draw, hdS, rd_val, er_mP, hf1, hf2]
      · simp [b__law_draw, hdS, rd_val, er_mP, hf1]
    show finD 2 (evS (callF prg n) b__law_draw [some (.io (mP p)), some (.val (.int many)), none, none]) = _
    rw [draw_split, e]
    rfl
theorem pick_ok (n : Nat) {c : Nat} {p : Pu} (hc : c ≤ 100000) (h : POk c p) {ts : List T} (h1 : 1 ≤ ts.length) (h2 : ts.length ≤ 1000) : ∃ t p', t ∈ ts ∧ POk (c + 1) p' ∧
    callF prg (n + 2) 52 [.io (mP p), .val (.lst ts)] = .ok (.val t) [some (.io (mP p')), none] := by
  obtain ⟨v, p', q1, q2, q3, q4⟩ := draw_ok n hc h (many := ts.length) (by omega) (by omega)
  have hv : v.toNat < ts.length := by omega
  have hix : atI ts v = some ts[v.toNat] := by
    have := atI_nat' (xs := ts) (j := v.toNat)
    rw [Int.toNat_of_nonneg q1] at this
    rw [this]
    exact List.getElem?_eq_getElem hv
  refine ⟨ts[v.toNat], p', List.getElem_mem hv, q3, ?_⟩
  rw [run_def df__law_pick rfl (by decide)]
  simp [b__law_pick, rd_val, callA_i1, q4, hix, ends_s]
theorem purse_ok (n : Nat) {ns : List Int} (hl : ns.length ≤ 63) : ∃ p, POk 0 p ∧ callF prg (n + 1) 50 [.val (.scr ns)] = .ok (.own (mP p)) [none] := by
  have hcut : cutT ns none (some 63) = ns := by
    unfold cutT
    have h0 : HT.sIx ns.length 0 none = 0 := rfl
    have h1 : HT.sIx ns.length ns.length (some ((63 : Nat) : Int)) = min 63 ns.length := HT.sIx_nat _ _ _
    have h1' : HT.sIx ns.length ns.length (some 63) = min 63 ns.length := h1
    rw [h0, h1', Nat.sub_zero, List.drop_zero, Nat.min_eq_right hl, List.take_length]
  have m31 : ∀ i : Int, mulOk i 31 = true := fun i => mulOk_r (by omega) (by omega)
  have hpow : bop .pow (.int 10) (.int 18) = some (.int (10 ^ 18)) := by rfl
  have go : ∀ (ns : List Int) (s : Int), 0 ≤ s ∧ s < 2147483647 → 0 ≤ ns.foldl (fun s c => (s * 31 + c) % 2147483647) s ∧ ns.foldl (fun s c => (s * 31 + c) % 2147483647) s < 2147483647 := by
    intro ns
    induction ns with
    | nil => intro s h; exact h
    | cons a r ih => intro s h; exact ih _ ⟨Int.emod_nonneg _ (by omega), Int.emod_lt_of_pos _ (by omega)⟩
  obtain ⟨g1, g2⟩ := go ns 7 ⟨by omega, by omega⟩
  refine ⟨⟨ns.filter fun c => decide (10 ^ 18 ≤ c), 0, 0, 0, ns.foldl (fun s c => (s * 31 + c) % 2147483647) 7⟩, ⟨Nat.zero_le _, Nat.le_refl _, g1, g2⟩, ?_⟩
  rw [run_def df__law_purse rfl (by decide)]
  simp [b__law_purse, rd_val, putS, hcut]
  refine evF_thn (fun fl => finD 1 fl = _) (a := (7 : Int)) (step := fun s c => (s * 31 + c) % 2147483647) (I := fun s σ => ∃ j, σ = [some (.val (.scr ns)), some (.val (.int s)), jk j]) ⟨none, rfl⟩ (fun x hx s σ hI => ?_) (fun σ' hI => ?_)
  · obtain ⟨j, rfl⟩ := hI
    refine ⟨_, ?_, some (.int x), rfl⟩
    simp [putS, rd_val, bop_mul_int, m31, bop_mod_int]
  · obtain ⟨j, rfl⟩ := hI
    simp [rd_val, hcut, hideS]
    rw [evL_filter (g := fun c : Int => M.fr (.int c)) (p := fun c => decide (10 ^ 18 ≤ c))]
    · simp only [Out.bind_ok]
      rw [finL_ok (by rw [List.length_map]; exact le_line (Nat.le_trans (List.length_filter_le _ _) (by omega)))]
      simp [rd_val, lstF_o, ends_s, mP]
    · intro x hx
      simp [putS, rd_val, hpow]
      by_cases hq : (1000000000000000000 : Int) ≤ x
      · simp [hq, rd_val]
      · simp [hq, rd_val]
/-! ### boards, directions -/
end PY.k90
set_option Elab.async false
set_option linter.all false
set_option maxRecDepth 100000
set_option maxHeartbeats 800000
/-! # K90e: one asking -/
namespace PY.k90
open PySem L2 PY
def kinds5 : List Str := ["board", "directions", "facts", "number", "few"]
def kinds6 : List Str := "any" :: kinds5
def cl10 : List (Nat × List Str) := [(23, ["board", "directions", "facts"]), (24, ["board", "directions", "facts"]), (26, ["board", "directions", "facts"]), (31, ["board", "directions", "facts"]), (32, ["board", "directions", "facts"]),
  (18, ["board", "directions", "any"]), (28, ["board", "directions", "facts", "number"]), (38, ["board", "directions", "few"]), (42, ["board", "directions", "few", "any"]), (41, ["board", "directions", "few", "any"])]
def eCall (x : Nat × List Str) : T := .tup [.fn x.1, .lst (x.2.map .str)]
theorem rights_k (n : Nat) : (kinds6.all fun k => givesV prg (n + 9) 44 [.str k] (Rt k)) = true := by kernel_rfl
theorem calls_k (n : Nat) : givesV prg (n + 9) 43 [] (.lst (cl10.map eCall)) = true := by kernel_rfl
def rightOk (n : Nat) (x : Nat × List Str) : Bool := match runT (n + 16) 46 [.fn x.1, .lst (x.2.map Rt)] with
  | some .non => true
  | _ => false
theorem rights_1 (n : Nat) : ((cl10.take 5).all (rightOk n)) = true := by kernel_rfl
theorem rights_2 (n : Nat) : ((cl10.drop 5).all (rightOk n)) = true := by kernel_rfl
theorem givesV_run {n f : Nat} {ws : List T} {t : T} (h : givesV prg n f ws t = true) : runT n f ws = some t := by
  unfold givesV at h
  unfold runT
  split at h
  · rename_i u σ e
    rw [e, T.beq_eq h]
    rfl
  · cases h
theorem run_ok {n f : Nat} {ws : List T} {t : T} (h : runT n f ws = some t) : ∃ r σ', callF prg n f (ws.map .val) = .ok r σ' ∧ r.t = t := by
  unfold runT at h
  rw [callG_ok] at h
  split at h
  · rename_i r σ e
    cases h
    exact ⟨r, σ, e, rfl⟩
  · cases h
theorem rights_sh : (kinds6.all fun k => shOk 8 9000 (Rt k)) = true := by kernel_rfl
theorem mem_few {t : T} (h : t ∈ wFew) : t ∈ wFew66 ∨ t ∈ wFew4 := by
  rcases List.mem_append.mp h with h | h
  · exact .inl h
  · obtain ⟨l, hl, ht⟩ := List.mem_flatten.mp h
    rw [(List.mem_replicate.mp hl).2] at ht
    exact .inr ht
theorem Wr_board : Wr "board" = wBoard := by kernel_rfl
theorem Wr_dirs : Wr "directions" = wDirs := by kernel_rfl
theorem Wr_facts : Wr "facts" = wFacts := by kernel_rfl
theorem Wr_num : Wr "number" = wNum := by kernel_rfl
theorem Wr_few : Wr "few" = wFew := by kernel_rfl
theorem Wr_any : Wr "any" = [] := by kernel_rfl
theorem Rt_board : Rt "board" = rB := by kernel_rfl
theorem Rt_dirs : Rt "directions" = rD := by kernel_rfl
theorem Rt_facts : Rt "facts" = rF := by kernel_rfl
theorem wr_form {k : Str} (hk : k ∈ kinds6) {t : T} (h : t ∈ Wr k) : ∃ v w, t = .tup [v, .str w] := by
  have hk' : k = "any" ∨ k = "board" ∨ k = "directions" ∨ k = "facts" ∨ k = "number" ∨ k = "few" := by simpa [kinds6, kinds5] using hk
  refine form ?_
  simp only [List.mem_append]
  rcases hk' with rfl | rfl | rfl | rfl | rfl | rfl
  · rw [Wr_any] at h; cases h
  · rw [Wr_board] at h; exact .inl (.inl (.inl (.inl (.inl h))))
  · rw [Wr_dirs] at h; exact .inl (.inl (.inl (.inl (.inr h))))
  · rw [Wr_facts] at h; exact .inl (.inl (.inr h))
  · rw [Wr_num] at h; exact .inl (.inl (.inl (.inr h)))
  · rw [Wr_few] at h
    rcases mem_few h with h | h
    · exact .inl (.inr h)
    · exact .inr h
theorem wr_len : (kinds5.all fun k => decide (1 ≤ (Wr k).length) && decide ((Wr k).length ≤ 1000)) = true := by kernel_rfl
/-- a wrong value is refused where all ahead is right -/
theorem wrong_19 (n : Nat) {v : T} {w : Str} (h : T.tup [v, .str w] ∈ wFacts ∨ T.tup [v, .str w] ∈ wFew66) : Wrong v w ∧ ∃ c u, Ex (n + 10) 19 [rB, rD, v] c u ∧ Tells c u v w := by
  rcases h with h | h
  · exact badFact_ok (List.all_eq_true.mp (t_facts n) _ h)
  · exact badFact_ok (List.all_eq_true.mp (t_few n) _ h)
theorem wr_wrong {k : Str} (hk : k ∈ kinds6) {v : T} {w : Str} (h : T.tup [v, .str w] ∈ Wr k) : Wrong v w := by
  have hk' : k = "any" ∨ k = "board" ∨ k = "directions" ∨ k = "facts" ∨ k = "number" ∨ k = "few" := by simpa [kinds6, kinds5] using hk
  rcases hk' with rfl | rfl | rfl | rfl | rfl | rfl
  · rw [Wr_any] at h; cases h
  · rw [Wr_board] at h; exact (excOk_ok (List.all_eq_true.mp (t_board 0 .non) _ h)).1
  · rw [Wr_dirs] at h; exact (excOk_ok (List.all_eq_true.mp (t_dirs 0) _ h)).1
  · rw [Wr_facts] at h; exact (wrong_19 0 (.inl h)).1
  · rw [Wr_num] at h; exact (excOk_ok (List.all_eq_true.mp (t_num 0) _ h)).1
  · rw [Wr_few] at h
    rcases mem_few h with h | h
    · exact (wrong_19 0 (.inr h)).1
    · exact (excOk_ok (List.all_eq_true.mp (t_few4 0) _ h)).1
def Due (ks : List Str) (j : Nat) (vs : List T) (due : T) : Prop := (due = .non ∧ vs = (ks.take j).map Rt) ∨ ∃ (i : Nat) (k : Str) (v : T) (w : Str) (rest : List T), i < j ∧ ks[i]? = some k ∧ k ≠ "any" ∧ .tup [v, .str w] ∈ Wr k ∧ vs = (ks.take i).map Rt ++ v :: rest ∧ due = dueOf v (.str w)
def AskI (c f : Nat) (ks : List Str) (wr : List Int) (j : Nat) (σ : Sig) : Prop := ∃ (p : Pu) (vs : List T) (due : T) (j7 j8 j9 j10 : Option T), POk (c + j) p ∧ vs.length = j ∧ (∀ v ∈ vs, Shd 8 9000 v) ∧ Due ks j vs due ∧
  σ = [some (.io (mP p)), some (.val (.fn f)), some (.val (.lst (ks.map .str))), some (.val (.lst (wr.map .int))), none, some (.own (.lst (vs.map .fr))), some (.val due), jk j7, jk j8, jk j9, jk j10]
theorem str_ok {k : Str} (h : k ∈ kinds6) : PyData.canLay0 (.str k) = true ∧ PyData.canLay0 (.str "any") = true := by
  have h1 : (kinds6.all fun k => PyData.canLay0 (.str k)) = true := by decide +kernel
  exact ⟨List.all_eq_true.mp h1 k h, by decide +kernel⟩
theorem kind5 {k : Str} (h : k ∈ kinds6) (h2 : k ≠ "any") : k ∈ kinds5 := by
  rcases List.mem_cons.mp h with rfl | h
  · exact absurd rfl h2
  · exact h
theorem callR (n : Nat) {k : Str} (h : k ∈ kinds6) : ∃ σ', callF prg (n + 16) 44 [.val (.str k)] = .ok (.val (Rt k)) σ' := givesV_ok (List.all_eq_true.mp (rights_k (n + 7)) k h)
theorem callW (n : Nat) {k : Str} (h : k ∈ kinds5) : ∃ σ', callF prg (n + 16) 45 [.val (.str k)] = .ok (.val (.lst (Wr k))) σ' := by
  have hk' : k = "board" ∨ k = "directions" ∨ k = "facts" ∨ k = "number" ∨ k = "few" := by simpa [kinds5] using h
  rcases hk' with rfl | rfl | rfl | rfl | rfl
  · rw [Wr_board]; exact givesV_ok (w_board (n + 7))
  · rw [Wr_dirs]; exact givesV_ok (w_dirs (n + 7))
  · rw [Wr_facts]; exact givesV_ok (w_facts (n + 7))
  · rw [Wr_num]; exact givesV_ok (w_num (n + 7))
  · rw [Wr_few]; exact givesV_ok (w_few (n + 7))
theorem teq_non : teq .non .non = some true := rfl
structure DOk (v : T) (w : Str) (c : T) (b : Bool) (y : Str) : Prop where
  t : tix (.str w) (.int 0) = some c
  m : tmem c (.str "0123456789") = some b
  s : shown? v = some y
  d : dueOf v (.str w) = .lst (if b then [.str w, .bl true] else [.str w, .bl true, .str y])
  e : teq (dueOf v (.str w)) (dueOf v (.str w)) = some true
theorem dOk_ok {v : T} {w : Str} (h : Wrong v w) : ∃ c b y, DOk v w c b y := by
  have h1 := List.all_eq_true.mp words_sh w h.wd
  simp only [Bool.and_eq_true] at h1
  obtain ⟨⟨h1, h2⟩, h3⟩ := h1
  obtain ⟨y, hy, hy2⟩ := h.sh.str (by omega) (by omega)
  split at h3
  · rename_i c hc
    split at h3
    · rename_i b hb
      have hb2 : b = isDig w := by simpa using h3
      have hd := dueOf_is (w := w) hy
      rw [← hb2] at hd
      refine ⟨c, b, y, hc, hb, hy, hd, ?_⟩
      rw [hd]
      cases b
      · exact teq_three h2 hy2
      · exact teq_two h2
    · cases h3
  · cases h3
theorem isT_due {v : T} {w : Str} (h : Wrong v w) : isT (dueOf v (.str w)) .non = some false := by
  obtain ⟨c, b, y, q⟩ := dOk_ok h
  rw [q.d]
  rfl
theorem AskI_of {c f j : Nat} {ks : List Str} {wr : List Int} {p : Pu} {vs : List T} {due : T} {j7 j8 j9 j10 : Option T} {σ : Sig} (hp : POk (c + j + 1) p) (hl : vs.length = j + 1) (hs : ∀ v ∈ vs, Shd 8 9000 v) (hd : Due ks (j + 1) vs due)
    (e : σ = [some (.io (mP p)), some (.val (.fn f)), some (.val (.lst (ks.map .str))), some (.val (.lst (wr.map .int))), none, some (.own (.lst (vs.map .fr))), some (.val due), jk j7, jk j8, jk j9, jk j10]) : AskI c f ks wr (j + 1) σ :=
  ⟨p, vs, due, j7, j8, j9, j10, hp, hl, hs, hd, e⟩
theorem asked_ok (n : Nat) {c : Nat} {p : Pu} (hp : POk c p) (hc : c ≤ 90000) {f : Nat} {ks : List Str} (hk : ∀ k ∈ ks, k ∈ kinds6) (hl : ks.length ≤ 4)
    (hw : ∀ (j : Nat) (k : Str), ks[j]? = some k → k ≠ "any" → ∀ (v : T) (w : Str) (post : List T), T.tup [v, .str w] ∈ Wr k → post.length = ks.length - j - 1 → ∃ r σ', callF prg (n + 16) 46 [.val (.fn f), .val (.lst ((ks.take j).map Rt ++ v :: post))] = .ok r σ' ∧ r.t = dueOf v (.str w))
    (hr : ∃ r σ', callF prg (n + 16) 46 [.val (.fn f), .val (.lst (ks.map Rt))] = .ok r σ' ∧ r.t = .non) (wr : List Int) :
    ∃ p', POk (c + 4) p' ∧ callF prg (n + 17) 47 [.io (mP p), .val (.fn f), .val (.lst (ks.map .str)), .val (.lst (wr.map .int))] = .ok (.val (.bl true)) [some (.io (mP p')), none, none, none] := by
  rw [run_def df__law_asked rfl (by decide)]
  simp [b__law_asked, rd_val, putS, lstF_o]
  rw [enumFrom_eq]
  refine evF_for (fun pre σ => AskI c f ks wr pre.length σ) (fun fl => ∃ p', POk (c + 4) p' ∧ finD 4 fl = .ok (.val (.bl true)) [some (.io (mP p')), none, none, none]) ⟨p, [], .non, none, none, none, none, hp, rfl, (fun v hv => by cases hv), .inl ⟨rfl, rfl⟩, rfl⟩ (fun pre x post σ e hI => (?_ : Nx _ _)) (fun σ' hI => ?_)
  · obtain ⟨p, vs, due, j7, j8, j9, j10, hp, hvl, hvs, hdue, rfl⟩ := hI
    obtain ⟨k, j⟩ := x
    have hxj : ks[pre.length]? = some k ∧ j = pre.length := by
      have h1 : ks.zipIdx[pre.length]? = some (k, j) := by rw [e]; simp
      rw [List.getElem?_zipIdx] at h1
      cases hh : ks[pre.length]? with
      | none => rw [hh] at h1; cases h1
      | some k' =>
        rw [hh] at h1
        simp at h1
        obtain ⟨rfl, rfl⟩ := h1
        exact ⟨rfl, rfl⟩
    obtain ⟨hkj, rfl⟩ := hxj
    have hkm : k ∈ kinds6 := hk k (List.mem_of_getElem? hkj)
    have hjl : pre.length < ks.length := (List.getElem?_eq_some_iff.mp hkj).1
    obtain ⟨c1, c2⟩ := str_ok hkm
    obtain ⟨σ1, e44⟩ := callR n hkm
    have hvl4 : (vs.map M.fr).length < 1000000 := by rw [List.length_map]; omega
    by_cases hin : ((pre.length : Int) ∈ wr) ∧ k ≠ "any"
    · obtain ⟨hin1, hin2⟩ := hin
      have hk5 := kind5 hkm hin2
      have hbq : (k == ("any" : Str)) = false := by simpa using hin2
      obtain ⟨σ2, e45⟩ := callW n hk5
      have hb := List.all_eq_true.mp wr_len k hk5
      simp only [Bool.and_eq_true, decide_eq_true_eq] at hb
      obtain ⟨t, p', ht, hp', e52⟩ := pick_ok (n + 14) (by omega) hp hb.1 hb.2
      obtain ⟨v, w, rfl⟩ := wr_form hkm ht
      have hd := wr_wrong hkm ht
      obtain ⟨cc, b, y, d1, d2, d3, d4, d5⟩ := dOk_ok hd
      have d6 := hd.sh
      rcases hdue with ⟨rfl, hvs0⟩ | ⟨i, k0, v0, w0, rest, hi, hk0, hk0a, hm0, hvs0, rfl⟩
      · simp [putS, rd_val, e44, tmem_ints, hin1, teq_str c1 c2, hbq, e45, callA_i1, e52, d1, d2, d3, lstF_v, upS_o, app_ok hvl4]
        cases b with
        | true =>
          simp [putS, rd_val, lstF_v, upS_o, app_ok hvl4]
          refine AskI_of (vs := vs ++ [v]) hp' (by simp [hvl]) (fun u hu => ?_) (.inr ⟨pre.length, k, v, w, [], by simp, hkj, hin2, ht, by rw [hvs0], d4.symm⟩) (j7 := some (.int pre.length)) (j8 := some (.str k)) (j9 := some v) (j10 := some (.str w)) ?_
          · rcases List.mem_append.mp hu with hu | hu
            · exact hvs u hu
            · rw [List.mem_singleton] at hu; subst hu; exact d6
          · simp
        | false =>
          simp [putS, rd_val, d3, lstF_v, upS_o, app_ok hvl4]
          refine AskI_of (vs := vs ++ [v]) hp' (by simp [hvl]) (fun u hu => ?_) (.inr ⟨pre.length, k, v, w, [], by simp, hkj, hin2, ht, by rw [hvs0], d4.symm⟩) (j7 := some (.int pre.length)) (j8 := some (.str k)) (j9 := some v) (j10 := some (.str w)) ?_
          · rcases List.mem_append.mp hu with hu | hu
            · exact hvs u hu
            · rw [List.mem_singleton] at hu; subst hu; exact d6
          · simp
      · have hd1 := wr_wrong (hk _ (List.mem_of_getElem? hk0)) hm0
        simp [putS, rd_val, e44, tmem_ints, hin1, teq_str c1 c2, hbq, e45, callA_i1, e52, isT_due hd1, upS_o, app_ok hvl4]
        refine AskI_of (vs := vs ++ [v]) hp' (by simp [hvl]) (fun u hu => ?_) (.inr ⟨i, k0, v0, w0, rest ++ [v], by omega, hk0, hk0a, hm0, by rw [hvs0]; simp, rfl⟩) (j7 := some (.int pre.length)) (j8 := some (.str k)) (j9 := some v) (j10 := some (.str w)) ?_
        · rcases List.mem_append.mp hu with hu | hu
          · exact hvs u hu
          · rw [List.mem_singleton] at hu; subst hu; exact d6
        · simp
    · have hRt : Shd 8 9000 (Rt k) := shOk_ok (List.all_eq_true.mp rights_sh k hkm)
      have hcond : ∀ σ : Sig, (evS (callF prg (n + 16)) .nil σ) = .nx σ := fun σ => rfl
      have hfin : ∃ p' vs' due' j7 j8 j9 j0, POk (c + (pre.length + 1)) p' ∧ vs'.length = pre.length + 1 ∧ (∀ v ∈ vs', Shd 8 9000 v) ∧ Due ks (pre.length + 1) vs' due' ∧
          ([some (.io (mP p)), some (.val (.fn f)), some (.val (.lst (ks.map .str))), some (.val (.lst (wr.map .int))), none, some (.own (.lst (vs.map .fr ++ [.fr (Rt k)]))), some (.val due), some (.val (.int pre.length)), some (.val (.str k)), some (.val (Rt k)), jk j10] : Sig) =
          [some (.io (mP p')), some (.val (.fn f)), some (.val (.lst (ks.map .str))), some (.val (.lst (wr.map .int))), none, some (.own (.lst (vs'.map .fr))), some (.val due'), jk j7, jk j8, jk j9, jk j0] := by
        refine ⟨p, vs ++ [Rt k], due, some (.int pre.length), some (.str k), some (Rt k), j10, hp.mono (by omega), by simp [hvl], fun u hu => ?_, ?_, by simp⟩
        · rcases List.mem_append.mp hu with hu | hu
          · exact hvs u hu
          · rw [List.mem_singleton] at hu; subst hu; exact hRt
        · rcases hdue with ⟨rfl, hvs0⟩ | ⟨i, k0, v0, w0, rest, hi, hk0, hk0a, hm0, hvs0, rfl⟩
          · refine .inl ⟨rfl, ?_⟩
            rw [List.take_succ, hkj, hvs0]
            simp
          · exact .inr ⟨i, k0, v0, w0, rest ++ [Rt k], by omega, hk0, hk0a, hm0, by rw [hvs0]; simp, rfl⟩
      by_cases hin1 : (pre.length : Int) ∈ wr
      · have hka : k = "any" := Classical.byContradiction fun q => hin ⟨hin1, q⟩
        have hbq : (k == ("any" : Str)) = true := by simpa using hka
        simp [putS, rd_val, e44, tmem_ints, hin1, teq_str c1 c2, hbq, upS_o, app_ok hvl4]
        obtain ⟨p', vs', due', j7, j8, j9, j10', q1, q2, q3, q4, q5⟩ := hfin
        exact AskI_of q1 q2 q3 q4 q5
      · simp [putS, rd_val, e44, tmem_ints, hin1, upS_o, app_ok hvl4]
        obtain ⟨p', vs', due', j7, j8, j9, j10', q1, q2, q3, q4, q5⟩ := hfin
        exact AskI_of q1 q2 q3 q4 q5
  · obtain ⟨p, vs, due, j7, j8, j9, j10, hp, hvl, hvs, hdue, rfl⟩ := hI
    rw [List.length_zipIdx] at hp hvl hdue
    obtain ⟨x, hx1, hx2⟩ := shown_of (shd_lst (c := 4) hvs (by omega)) (by omega) (by omega)
    have hfin : ∃ r σ', callF prg (n + 16) 46 [.val (.fn f), .val (.lst vs)] = .ok r σ' ∧ r.t = due ∧ teq due due = some true := by
      rcases hdue with ⟨rfl, rfl⟩ | ⟨i, k0, v0, w0, rest, hi, hk0, hk0a, hm0, rfl, rfl⟩
      · rw [List.take_length]
        obtain ⟨r, σ', e1, e2⟩ := hr
        exact ⟨r, σ', e1, e2, teq_non⟩
      · have hd1 := wr_wrong (hk _ (List.mem_of_getElem? hk0)) hm0
        obtain ⟨cc, b, y, d1, d2, d3, d4, d5⟩ := dOk_ok hd1
        obtain ⟨r, σ', e1, e2⟩ := hw i k0 hk0 hk0a v0 w0 rest hm0 (by
          simp at hvl
          omega)
        exact ⟨r, σ', e1, e2, d5⟩
    obtain ⟨r, σ', e46, er, et⟩ := hfin
    refine ⟨p, hp.mono (by omega), ?_⟩
    simp [rd_val, rd_own, Function.comp_def, hx1, hx2, putS, e46, er, et, ends_s]
end PY.k90
set_option Elab.async false
set_option linter.all false
set_option maxRecDepth 100000
set_option maxHeartbeats 800000
/-! # K90g: the last rows' calls, by the kernel -/
namespace PY.k90
open PySem L2 PY
def both : T := .lst [.tup [.int 0, .int 1], .tup [.int 1, .int 0]]
def forty : T := .lst (List.replicate 40 (T.tup [.str "line", .int 0, .int 3]))
def four : T := .lst [.tup [.str "line", .int 0, .int 1], .tup [.str "line", .int 1, .int 2]]
def alikeOk (o : Option T) : Bool := match o with
  | some t => match tix t (.int 0) with
    | some (.str x) => decide (x = "alike")
    | _ => false
  | none => false
theorem end_3 (n : Nat) : alikeOk (runT (n + 17) 38 [.tup [.int 2, .int 4], both, four]) = true := by kernel_rfl
--theorem end_1 (n : Nat) : givesV prg (n + 17) 24 [.tup [.int 3, .int 4], both, .lst [.tup [.str "line", .int 0, .int 4], .tup [.str "line", .int 1, .int 4], .tup [.str "line", .int 2, .int 0]]] (.int 1) = true := by kernel_rfl
theorem end_2 (n : Nat) : givesV prg (n + 17) 24 [.tup [.int 2, .int 3], both, forty] (.int 8) = true := by kernel_rfl
theorem end_4 (n : Nat) : givesV prg (n + 17) 24 [.tup [.int 2, .int 4], both, four] (.int 24) = true := by kernel_rfl
end PY.k90
set_option Elab.async false
set_option linter.all false
set_option maxRecDepth 100000
set_option maxHeartbeats 800000
/-! # K90h: the pictures that facts leave (after K87d, K87e); the first of the last rows' calls -/
namespace PY.k90
open PySem L2 PY
theorem ge_line {n : Nat} (h : n ≤ 1000000) : n ≤ sizeLine := by rw [sizeLine_eq]; omega
def bits : Nat → List (List Int)
  | 0 => [[]]
  | n + 1 => (bits n).flatMap fun r => [r ++ [0], r ++ [1]]
def pics (w : Nat) : Nat → List (List (List Int))
  | 0 => [[]]
  | n + 1 => (pics w n).flatMap fun p => (bits w).map fun r => p ++ [r]
def eRows (rs : List (List Int)) : T := .lst (rs.map eIs)
def ePics (ps : List (List (List Int))) : T := .lst (ps.map ePic)
theorem len_bits : ∀ n, (bits n).length = 2 ^ n
  | 0 => rfl
  | n + 1 => by
    unfold bits
    rw [len_flatMap (k := 2) fun r _ => rfl, len_bits n]
    rfl
theorem bits_row : ∀ {n : Nat} {r : List Int}, r ∈ bits n → r.length = n
  | 0, r, h => by simp [bits] at h; subst h; rfl
  | n + 1, r, h => by
    unfold bits at h
    obtain ⟨x, hx, hr⟩ := List.mem_flatMap.mp h
    have := bits_row hx
    simp at hr
    rcases hr with rfl | rfl <;> simp [this]
theorem len_pics (w : Nat) : ∀ n, (pics w n).length = 2 ^ (n * w)
  | 0 => by simp [pics]
  | n + 1 => by
    unfold pics
    rw [len_flatMap (k := 2 ^ w) fun p _ => by rw [List.length_map, len_bits], len_pics w n, Nat.succ_mul, Nat.pow_add]
theorem pics_rows {w : Nat} : ∀ {n : Nat} {p : List (List Int)}, p ∈ pics w n → p.length = n ∧ ∀ r ∈ p, r.length = w
  | 0, p, h => by simp [pics] at h; subst h; simp
  | n + 1, p, h => by
    unfold pics at h
    obtain ⟨x, hx, hr⟩ := List.mem_flatMap.mp h
    obtain ⟨y, hy, rfl⟩ := List.mem_map.mp hr
    obtain ⟨h1, h2⟩ := pics_rows hx
    refine ⟨by simp [h1], fun r hr => ?_⟩
    rcases List.mem_append.mp hr with hr | hr
    · exact h2 r hr
    · rw [List.mem_singleton] at hr; subst hr; exact bits_row hy
theorem pow_le {n : Nat} (h : n ≤ 12) : 2 ^ n ≤ 4096 := Nat.pow_le_pow_right (by decide) h
theorem le_of_pre {α : Type} {n : Nat} {pre post : List Nat} {x : Nat} (e : List.range n = pre ++ x :: post) : pre.length < n := by
  have := congrArg List.length e
  simp at this
  omega
theorem every_picture_ok (n : Nat) {b : Nat × Nat} (h1 : b.1 ≤ 6) (h2 : b.2 ≤ 6) (h3 : b.1 * b.2 ≤ 12) : callF prg (n + 1) 21 [.val (eC b)] = .ok (.val (ePics (pics b.2 b.1))) [none] := by
  rw [run_def df_every_picture rfl (by decide)]
  have hi0 : tix (eC b) (.int 0) = some (.int b.1) := by simp [eC]
  have hi1 : tix (eC b) (.int 1) = some (.int b.2) := by simp [eC]
  simp [b_every_picture, rd_val, putS, lstF_v, hi1, rng1F_int, big_nat (show b.2 ≤ 1000000 by omega), rangeT0]
  refine evF_for (fun pre σ => ∃ j, σ = [some (.val (eC b)), some (.val (eRows (bits pre.length))), jk j, none, none, none, none]) (fun fl => finD 1 fl = _) ⟨none, rfl⟩ (fun pre r post σ e h => (?_ : Nx _ _)) (fun σ' h => ?_)
  · obtain ⟨j, rfl⟩ := h
    have hp := le_of_pre (α := Nat) e
    have hl := len_bits pre.length
    have hl' := pow_le (show pre.length + 1 ≤ 12 by omega)
    simp [putS, rd_val, hideS, eRows]
    rw [evL_flat (g := fun r => [M.fr (eIs (r ++ [0])), M.fr (eIs (r ++ [1]))])]
    · have hlen : ((bits pre.length).flatMap fun r => [M.fr (eIs (r ++ [0])), M.fr (eIs (r ++ [1]))]).length = (bits pre.length).length * 2 := len_flatMap fun r _ => rfl
      rw [hl, ← Nat.pow_succ] at hlen
      simp only [Out.bind_ok]
      rw [finL_ok (by rw [hlen]; exact le_line (by omega))]
      simp [putS]
      refine ⟨?_, some (T.int r), rfl⟩
      simp [bits, eRows, List.map_flatMap, Function.comp_def]
    · intro r hr
      have := bits_row hr
      simp [putS, rd_val, tupF_v, evL_two, lstF_v, eIs, bop_add_lst, le_line (show r.length + 1 ≤ 1000000 by omega)]
  · obtain ⟨j, rfl⟩ := h
    simp [putS, rd_val, lstF_v, hi0, rng1F_int, big_nat (show b.1 ≤ 1000000 by omega), rangeT0]
    refine evF_for (fun pre σ => ∃ j, σ = [some (.val (eC b)), some (.val (eRows (bits b.2))), jk j, some (.val (ePics (pics b.2 pre.length))), none, none, none]) (fun fl => finD 1 fl = _) ⟨j, by simp; rfl⟩ (fun pre r post σ e h => (?_ : Nx _ _)) (fun σ' h => ?_)
    · obtain ⟨j, rfl⟩ := h
      have hp := le_of_pre (α := Nat) e
      have hb := len_bits b.2
      have hb' := pow_le (show b.2 ≤ 12 by omega)
      have hl := len_pics b.2 (pre.length + 1)
      have hl' := pow_le (show (pre.length + 1) * b.2 ≤ 12 from Nat.le_trans (Nat.mul_le_mul_right _ hp) h3)
      simp [putS, rd_val, hideS, ePics, eRows]
      rw [evL_flat (g := fun p => (bits b.2).map fun r => M.fr (ePic (p ++ [r])))]
      · have hlen : ((pics b.2 pre.length).flatMap fun p => (bits b.2).map fun r => M.fr (ePic (p ++ [r]))).length = (pics b.2 pre.length).length * (bits b.2).length := len_flatMap fun r _ => by simp
        rw [len_pics, len_bits, ← Nat.pow_add, ← Nat.succ_mul] at hlen
        change _ = 2 ^ ((pre.length + 1) * b.2) at hlen
        simp only [Out.bind_ok]
        rw [finL_ok (by rw [hlen]; exact le_line (by omega))]
        simp [putS]
        refine ⟨⟨some (T.int r), rfl⟩, ?_⟩
        simp [pics, ePics, List.map_flatMap, Function.comp_def]
      · intro p hp
        have hpl := (pics_rows hp).1
        simp [putS, rd_val, hideS]
        rw [evL_map (g := fun r => M.fr (ePic (p ++ [r])))]
        · simp
        · intro r hr
          simp [putS, rd_val, lstF_v, ePic, bop_add_lst, le_line (show p.length + 1 ≤ 1000000 by omega)]
    · obtain ⟨j, rfl⟩ := h
      simp [rd_val, ends_s]
def at2 (pic : List (List Int)) (p : Nat × Nat) : Int := (((pic[p.1]?).getD [])[p.2]?).getD 0
def sumA (pic : List (List Int)) (line : List (Nat × Nat)) : Int := (line.map (at2 pic)).sum
def Cov (pic : List (List Int)) (line : List (Nat × Nat)) : Prop := ∀ p ∈ line, ∃ row v, pic[p.1]? = some row ∧ row[p.2]? = some v
def PicOn (b : Nat × Nat) (pic : List (List Int)) : Prop := pic.length = b.1 ∧ ∀ r ∈ pic, r.length = b.2
def LineOn (b : Nat × Nat) (l : List (Nat × Nat)) : Prop := l.length ≤ 36 ∧ ∀ p ∈ l, p.1 < b.1 ∧ p.2 < b.2
theorem cov_cell {b : Nat × Nat} {pic : List (List Int)} {p : Nat × Nat} (h : PicOn b pic) (hp : p.1 < b.1 ∧ p.2 < b.2) : ∃ row v, pic[p.1]? = some row ∧ row[p.2]? = some v := by
  have h1 : p.1 < pic.length := by rw [h.1]; exact hp.1
  have h2 : p.2 < (pic[p.1]).length := by rw [h.2 _ (List.getElem_mem h1)]; exact hp.2
  exact ⟨pic[p.1], pic[p.1][p.2], List.getElem?_eq_getElem h1, List.getElem?_eq_getElem h2⟩
theorem cov_of {b : Nat × Nat} {pic : List (List Int)} {l : List (Nat × Nat)} (h : PicOn b pic) (hl : LineOn b l) : Cov pic l := fun p hp => cov_cell h (hl.2 p hp)
theorem sum_along_ok (n : Nat) {pic : List (List Int)} {line : List (Nat × Nat)} (h : Cov pic line) (hl : line.length ≤ 36) :
    callF prg (n + 1) 13 [.val (ePic pic), .val (eLn line)] = .ok (.val (.int (sumA pic line))) [none, none] := by
  rw [run_def df_sum_along rfl (by decide)]
  simp [b_sum_along, rd_val, hideS, eLn]
  rw [evL_map (g := fun p => M.fr (.int (at2 pic p)))]
  · simp [finL_ok, le_line (show line.length ≤ 1000000 by omega), Function.comp_def, intsOf_map, ends_s, sumA]
  · intro p hp
    obtain ⟨row, v, h1, h2⟩ := h p hp
    simp [eC, putS, rd_val, ePic, eIs, atI_nat', h1, h2, at2]
theorem picOn_of {b : Nat × Nat} {p : List (List Int)} (h : p ∈ pics b.2 b.1) : PicOn b p := pics_rows h
/-! ### facts -/
inductive Fact where | ln (k : Nat) (s : Int) | cl (p : Nat × Nat) (c : Int)
def eF : Fact → T
  | .ln k s => .tup [.str "line", .int k, .int s]
  | .cl p c => .tup [.str "cell", eC p, .int c]
def eFs (fs : List Fact) : T := .lst (fs.map eF)
def FOk (b : Nat × Nat) (L : List (List (Nat × Nat))) : Fact → Prop
  | .ln k s => ∃ l, L[k]? = some l ∧ 0 ≤ s ∧ s ≤ (l.length : Int)
  | .cl p c => (p.1 < b.1 ∧ p.2 < b.2) ∧ 0 ≤ c ∧ c ≤ 1
def keepsM (L : List (List (Nat × Nat))) (pic : List (List Int)) : Fact → Bool
  | .ln k s => sumA pic ((L[k]?).getD []) == s
  | .cl p c => at2 pic p == c
theorem teq_ll : teq (.str "line") (.str "line") = some true := by decide +kernel
theorem teq_cl : teq (.str "cell") (.str "line") = some false := by decide +kernel
theorem teq_cc : teq (.str "cell") (.str "cell") = some true := by decide +kernel
theorem keeps_ok (n : Nat) {b : Nat × Nat} {L : List (List (Nat × Nat))} {pic : List (List Int)} {f : Fact} (hp : PicOn b pic) (hL : ∀ l ∈ L, LineOn b l) (hf : FOk b L f) : callF prg (n + 2) 20 [.val (eLns L), .val (ePic pic), .val (eF f)] = .ok (.val (.bl (keepsM L pic f))) [none, none, none] := by
  rw [run_def df_keeps rfl (by decide)]
  cases f with
  | ln k s =>
    obtain ⟨l, h1, _, _⟩ := hf
    have hl := hL l (List.mem_of_getElem? h1)
    have hk : tix (eLns L) (.int k) = some (eLn l) := by
      unfold eLns
      rw [tix_lst, atI_nat', List.getElem?_map, h1]
      rfl
    simp [b_keeps, rd_val, eF, teq_ll, hk, sum_along_ok n (cov_of hp hl) hl.1, keepsM, h1, ends_s]
  | cl p c =>
    obtain ⟨row, v, h1, h2⟩ := cov_cell hp hf.1
    simp [b_keeps, rd_val, eF, teq_cl, eC, ePic, eIs, atI_nat', h1, h2, keepsM, at2, ends_s]
def leftM (b : Nat × Nat) (L : List (List (Nat × Nat))) (fs : List Fact) : List (List (List Int)) := (pics b.2 b.1).filter fun pic => fs.all (keepsM L pic)
theorem leftM_len {b : Nat × Nat} {L : List (List (Nat × Nat))} {fs : List Fact} (h3 : b.1 * b.2 ≤ 12) : (leftM b L fs).length ≤ 4096 := by
  refine Nat.le_trans (List.length_filter_le _ _) ?_
  rw [len_pics]
  exact pow_le h3
theorem left_by_ok (n : Nat) {b : Nat × Nat} {L : List (List (Nat × Nat))} {fs : List Fact} (h1 : b.1 ≤ 6) (h2 : b.2 ≤ 6) (h3 : b.1 * b.2 ≤ 12) (hL : ∀ l ∈ L, LineOn b l) (hf : ∀ f ∈ fs, FOk b L f) (hfl : fs.length ≤ 40) :
    callF prg (n + 3) 22 [.val (eC b), .val (eLns L), .val (eFs fs)] = .ok (.val (ePics (leftM b L fs))) [none, none, none] := by
  rw [run_def df_left_by rfl (by decide)]
  have hit : itemsOf (ePics (pics b.2 b.1)) = some ((pics b.2 b.1).map ePic) := rfl
  have hit2 : itemsOf (eFs fs) = some (fs.map eF) := rfl
  have hll := leftM_len (L := L) (fs := fs) h3
  simp [b_left_by, rd_val, hideS, every_picture_ok (n + 1) h1 h2 h3, hit]
  rw [evL_filter (g := fun pic => M.fr (ePic pic)) (p := fun pic => fs.all (keepsM L pic))]
  · simp only [Out.bind_ok]
    rw [finL_ok (by rw [List.length_map]; exact le_line (Nat.le_trans hll (by omega)))]
    have hit3 : itemsOf (ePics (leftM b L fs)) = some ((leftM b L fs).map ePic) := rfl
    have he : T.lst (((pics b.2 b.1).filter fun pic => fs.all (keepsM L pic)).map (M.er ∘ fun pic => M.fr (ePic pic))) = ePics (leftM b L fs) := rfl
    simp [putS, rd_val, hideS, he, hit3]
    rw [evL_map (g := fun pic => M.fr (ePic pic))]
    · simp only [Out.bind_ok]
      rw [finL_ok (by rw [List.length_map]; exact le_line (Nat.le_trans hll (by omega)))]
      simp [ends_s]
      rfl
    · intro pic hpic
      have hp : PicOn b pic := picOn_of (List.mem_filter.mp hpic).1
      have hit4 : itemsOf (ePic pic) = some (pic.map eIs) := rfl
      simp [putS, rd_val, hideS, hit4]
      rw [evL_map (g := fun r => M.fr (eIs r))]
      · simp only [Out.bind_ok]
        rw [finL_ok (by rw [List.length_map, hp.1]; exact le_line (by omega))]
        simp
        rfl
      · intro r hr
        have hlr : bi .list [eIs r] = some (eIs r) := rfl
        simp [putS, rd_val, hlr]
  · intro pic hpic
    have hp : PicOn b pic := picOn_of hpic
    simp [putS, rd_val, hideS, hit2]
    rw [evL_map (g := fun f => M.fr (.bl (keepsM L pic f)))]
    · simp only [Out.bind_ok]
      rw [finL_ok (by rw [List.length_map]; exact le_line (by omega))]
      simp [Function.comp_def, blsOf_map]
      cases hall : fs.all (keepsM L pic)
      · simp [rd_val]
        simpa using hall
      · simp [rd_val]
        simpa using hall
    · intro f hff
      simp [putS, rd_val, keeps_ok n hp hL (hf f hff)]
/-! ### plain data compared -/

def lines12 : List (List (Nat × Nat)) := [[(0, 0), (0, 1), (0, 2), (0, 3)], [(1, 0), (1, 1), (1, 2), (1, 3)], [(2, 0), (2, 1), (2, 2), (2, 3)], [(0, 0), (1, 0), (2, 0)], [(0, 1), (1, 1), (2, 1)], [(0, 2), (1, 2), (2, 2)], [(0, 3), (1, 3), (2, 3)]]
def facts12 : List Fact := [.ln 0 4, .ln 1 4, .ln 2 0]
theorem chk_12 (n : Nat) : givesV prg (n + 15) 19 [eC (3, 4), .lst [.tup [.int 0, .int 1], .tup [.int 1, .int 0]], eFs facts12] (eLns lines12) = true := by kernel_rfl
theorem one_12 : (leftM (3, 4) lines12 facts12).length = 1 := by decide +kernel
theorem end_1 (n : Nat) : ∃ σ, callF prg (n + 17) 24 [.val (.tup [.int 3, .int 4]), .val (.lst [.tup [.int 0, .int 1], .tup [.int 1, .int 0]]), .val (.lst [.tup [.str "line", .int 0, .int 4], .tup [.str "line", .int 1, .int 4], .tup [.str "line", .int 2, .int 0]])] = .ok (.val (.int 1)) σ := by
  obtain ⟨σ1, e1⟩ := givesV_ok (chk_12 (n + 1))
  have hl := left_by_ok (n + 13) (b := (3, 4)) (L := lines12) (fs := facts12) (by decide) (by decide) (by decide) (by unfold LineOn; decide) (fun f hf => by
    simp only [facts12, List.mem_cons, List.not_mem_nil, or_false] at hf
    rcases hf with rfl | rfl | rfl <;> exact ⟨_, rfl, by decide, by decide⟩) (by decide)
  rw [run_def df_how_many_left rfl (by decide)]
  have e1' : callF prg (n + 16) 19 [.val (.tup [.int 3, .int 4]), .val (.lst [.tup [.int 0, .int 1], .tup [.int 1, .int 0]]), .val (.lst [.tup [.str "line", .int 0, .int 4], .tup [.str "line", .int 1, .int 4], .tup [.str "line", .int 2, .int 0]])] = .ok (.val (eLns lines12)) σ1 := e1
  have e2' : callF prg (n + 16) 22 [.val (.tup [.int 3, .int 4]), .val (eLns lines12), .val (.lst [.tup [.str "line", .int 0, .int 4], .tup [.str "line", .int 1, .int 4], .tup [.str "line", .int 2, .int 0]])] = _ := hl
  have hlen : bi .len [ePics (leftM (3, 4) lines12 facts12)] = some (.int 1) := by
    show some (T.int _) = _
    rw [List.length_map, one_12]
    rfl
  refine ⟨[none, none, none], ?_⟩
  simp [b_how_many_left, rd_val, e1', e2', hlen, ends_s]
end PY.k90
set_option Elab.async false
set_option linter.all false
set_option maxRecDepth 100000
set_option maxHeartbeats 800000
/-! # K90f: the law -/
namespace PY.k90
open PySem L2 PY
theorem kinds_ok : ∀ x ∈ cl10, (∀ k ∈ x.2, k ∈ kinds6) ∧ (x.2.length = 3 ∨ x.2.length = 4) := by
  have h : (cl10.all fun x => (x.2.all fun k => decide (k ∈ kinds6)) && (decide (x.2.length = 3) || decide (x.2.length = 4))) = true := by decide +kernel
  intro x hx
  have := List.all_eq_true.mp h x hx
  simp only [Bool.and_eq_true, Bool.or_eq_true, decide_eq_true_eq, List.all_eq_true] at this
  exact this
theorem tab_3 (n : Nat) {f : Nat} (hf : ([23, 24, 26, 31, 32] : List Nat).contains f = true) {b d x u : T} {c : Nat} (h : Ex (n + 12) 19 [b, d, x] c u) : Ex (n + 13) f [b, d, x] c u := by
  have h' : f = 23 ∨ f = 24 ∨ f = 26 ∨ f = 31 ∨ f = 32 := by simpa using hf
  rcases h' with rfl | rfl | rfl | rfl | rfl
  · exact p23 h
  · exact p24 h
  · exact p26 h
  · exact p31 h
  · exact p32 h
theorem in46 {f : Nat} (hf : ([23, 24, 26, 31, 32] : List Nat).contains f = true) : ([18, 23, 24, 26, 31, 32, 38] : List Nat).contains f = true := by
  have h' : f = 23 ∨ f = 24 ∨ f = 26 ∨ f = 31 ∨ f = 32 := by simpa using hf
  rcases h' with rfl | rfl | rfl | rfl | rfl <;> rfl
/-- the answer to a wrong value -/
def Ans (n f : Nat) (args : List T) (v : T) (w : Str) : Prop := ∃ r σ', callF prg n 46 [.val (.fn f), .val (.lst args)] = .ok r σ' ∧ r.t = dueOf v (.str w)
theorem ans3 {n f c : Nat} {b d x u v : T} {w : Str} (hf : ([18, 23, 24, 26, 31, 32, 38] : List Nat).contains f = true) (h : Ex n f [b, d, x] c u) (t : Tells c u v w) : Ans (n + 1) f [b, d, x] v w := by
  obtain ⟨y, hy⟩ := t.y
  obtain ⟨r, σ, e, q⟩ := p46_3 hf t.hc hy h
  exact ⟨r, σ, e, q.trans t.eq⟩
theorem ans4 {n f c : Nat} {b d x z u v : T} {w : Str} (hf : ([28, 41, 42] : List Nat).contains f = true) (h : Ex n f [b, d, x, z] c u) (t : Tells c u v w) : Ans (n + 1) f [b, d, x, z] v w := by
  obtain ⟨y, hy⟩ := t.y
  obtain ⟨r, σ, e, q⟩ := p46_4 hf t.hc hy h
  exact ⟨r, σ, e, q.trans t.eq⟩
theorem x_board (n : Nat) (d : T) {v : T} {w : Str} (h : T.tup [v, .str w] ∈ Wr "board") : ∃ c u, Ex (n + 9) 17 [v, d] c u ∧ Tells c u v w := (excOk_ok (List.all_eq_true.mp (t_board n d) _ (by rw [Wr_board] at h; exact h))).2
theorem x_dirs (n : Nat) {v : T} {w : Str} (h : T.tup [v, .str w] ∈ Wr "directions") : ∃ c u, Ex (n + 9) 17 [rB, v] c u ∧ Tells c u v w := (excOk_ok (List.all_eq_true.mp (t_dirs n) _ (by rw [Wr_dirs] at h; exact h))).2
theorem x_facts (n : Nat) {v : T} {w : Str} (h : T.tup [v, .str w] ∈ Wr "facts") : ∃ c u, Ex (n + 10) 19 [rB, rD, v] c u ∧ Tells c u v w := (wrong_19 n (.inl (by rw [Wr_facts] at h; exact h))).2
theorem x_few (n : Nat) {v : T} {w : Str} (h : T.tup [v, .str w] ∈ Wr "few") : ∃ c u, Ex (n + 12) 33 [rB, rD, v] c u ∧ Tells c u v w := by
  rw [Wr_few] at h
  rcases mem_few h with h | h
  · obtain ⟨c, u, e, t⟩ := (wrong_19 (n + 1) (.inr h)).2
    exact ⟨c, u, p33 e, t⟩
  · exact (excOk_ok (List.all_eq_true.mp (t_few4 n) _ h)).2
theorem x_num (n : Nat) {v : T} {w : Str} (h : T.tup [v, .str w] ∈ Wr "number") : ∃ c u, Ex (n + 12) 28 [rB, rD, rF, v] c u ∧ Tells c u v w := (excOk_ok (List.all_eq_true.mp (t_num n) _ (by rw [Wr_num] at h; exact h))).2
section
variable (n : Nat) {f : Nat} {v x z : T} {w : Str}
theorem a3_0 (hf : ([23, 24, 26, 31, 32] : List Nat).contains f = true) (h : T.tup [v, .str w] ∈ Wr "board") {d x : T} : Ans (n + 14) f [v, d, x] v w := by
  obtain ⟨c, u, e, t⟩ := x_board (n + 2) d h
  exact ans3 (in46 hf) (tab_3 n hf (p19 e)) t
theorem a3_1 (hf : ([23, 24, 26, 31, 32] : List Nat).contains f = true) (h : T.tup [v, .str w] ∈ Wr "directions") {x : T} : Ans (n + 14) f [rB, v, x] v w := by
  obtain ⟨c, u, e, t⟩ := x_dirs (n + 2) h
  exact ans3 (in46 hf) (tab_3 n hf (p19 e)) t
theorem a3_2 (hf : ([23, 24, 26, 31, 32] : List Nat).contains f = true) (h : T.tup [v, .str w] ∈ Wr "facts") : Ans (n + 14) f [rB, rD, v] v w := by
  obtain ⟨c, u, e, t⟩ := x_facts (n + 2) h
  exact ans3 (in46 hf) (tab_3 n hf e) t
theorem a18_0 (h : T.tup [v, .str w] ∈ Wr "board") {d x : T} : Ans (n + 14) 18 [v, d, x] v w := by
  obtain ⟨c, u, e, t⟩ := x_board (n + 3) d h
  exact ans3 rfl (p18 e) t
theorem a18_1 (h : T.tup [v, .str w] ∈ Wr "directions") {x : T} : Ans (n + 14) 18 [rB, v, x] v w := by
  obtain ⟨c, u, e, t⟩ := x_dirs (n + 3) h
  exact ans3 rfl (p18 e) t
theorem a28_0 (h : T.tup [v, .str w] ∈ Wr "board") {d x z : T} : Ans (n + 14) 28 [v, d, x, z] v w := by
  obtain ⟨c, u, e, t⟩ := x_board (n + 2) d h
  exact ans4 rfl (p28 (p19 e)) t
theorem a28_1 (h : T.tup [v, .str w] ∈ Wr "directions") {x z : T} : Ans (n + 14) 28 [rB, v, x, z] v w := by
  obtain ⟨c, u, e, t⟩ := x_dirs (n + 2) h
  exact ans4 rfl (p28 (p19 e)) t
theorem a28_2 (h : T.tup [v, .str w] ∈ Wr "facts") {z : T} : Ans (n + 14) 28 [rB, rD, v, z] v w := by
  obtain ⟨c, u, e, t⟩ := x_facts (n + 2) h
  exact ans4 rfl (p28 e) t
theorem a28_3 (h : T.tup [v, .str w] ∈ Wr "number") : Ans (n + 14) 28 [rB, rD, rF, v] v w := by
  obtain ⟨c, u, e, t⟩ := x_num (n + 1) h
  exact ans4 rfl e t
theorem x33_0 (h : T.tup [v, .str w] ∈ Wr "board") {d x : T} : ∃ c u, Ex (n + 12) 33 [v, d, x] c u ∧ Tells c u v w := by
  obtain ⟨c, u, e, t⟩ := x_board (n + 1) d h
  exact ⟨c, u, p33 (p19 e), t⟩
theorem x33_1 (h : T.tup [v, .str w] ∈ Wr "directions") {x : T} : ∃ c u, Ex (n + 12) 33 [rB, v, x] c u ∧ Tells c u v w := by
  obtain ⟨c, u, e, t⟩ := x_dirs (n + 1) h
  exact ⟨c, u, p33 (p19 e), t⟩
end
theorem tab_ok (n : Nat) {f : Nat} {ks : List Str} (hm : (f, ks) ∈ cl10) {j : Nat} {k : Str} (hkj : ks[j]? = some k) (hka : k ≠ "any") {v : T} {w : Str} {post : List T} (hv : T.tup [v, .str w] ∈ Wr k) (hp : post.length = ks.length - j - 1) :
    ∃ r σ', callF prg (n + 14) 46 [.val (.fn f), .val (.lst ((ks.take j).map Rt ++ v :: post))] = .ok r σ' ∧ r.t = dueOf v (.str w) := by
  show Ans (n + 14) f ((ks.take j).map Rt ++ v :: post) v w
  have hm' : (([23, 24, 26, 31, 32] : List Nat).contains f = true ∧ ks = (["board", "directions", "facts"] : List Str)) ∨ (f = 18 ∧ ks = (["board", "directions", "any"] : List Str)) ∨ (f = 28 ∧ ks = (["board", "directions", "facts", "number"] : List Str)) ∨ (f = 38 ∧ ks = (["board", "directions", "few"] : List Str)) ∨ ((f = 42 ∨ f = 41) ∧ ks = (["board", "directions", "few", "any"] : List Str)) := by
    simp only [cl10, List.mem_cons, Prod.mk.injEq, List.not_mem_nil, or_false] at hm
    rcases hm with ⟨rfl, rfl⟩ | ⟨rfl, rfl⟩ | ⟨rfl, rfl⟩ | ⟨rfl, rfl⟩ | ⟨rfl, rfl⟩ | ⟨rfl, rfl⟩ | ⟨rfl, rfl⟩ | ⟨rfl, rfl⟩ | ⟨rfl, rfl⟩ | ⟨rfl, rfl⟩
    · exact .inl ⟨rfl, rfl⟩
    · exact .inl ⟨rfl, rfl⟩
    · exact .inl ⟨rfl, rfl⟩
    · exact .inl ⟨rfl, rfl⟩
    · exact .inl ⟨rfl, rfl⟩
    · exact .inr (.inl ⟨rfl, rfl⟩)
    · exact .inr (.inr (.inl ⟨rfl, rfl⟩))
    · exact .inr (.inr (.inr (.inl ⟨rfl, rfl⟩)))
    · exact .inr (.inr (.inr (.inr ⟨.inl rfl, rfl⟩)))
    · exact .inr (.inr (.inr (.inr ⟨.inr rfl, rfl⟩)))
  rcases hm' with ⟨hf, rfl⟩ | ⟨rfl, rfl⟩ | ⟨rfl, rfl⟩ | ⟨rfl, rfl⟩ | ⟨hf, rfl⟩
  · match j, hkj with
    | 0, hkj =>
      cases hkj
      match post, hp with
      | [d, x], _ => exact a3_0 n hf hv
    | 1, hkj =>
      cases hkj
      match post, hp with
      | [x], _ =>
        simp only [List.take_succ_cons, List.take_zero, List.map_cons, List.map_nil, Rt_board, List.cons_append, List.nil_append]
        exact a3_1 n hf hv
    | 2, hkj =>
      cases hkj
      match post, hp with
      | [], _ =>
        simp only [List.take_succ_cons, List.take_zero, List.map_cons, List.map_nil, Rt_board, Rt_dirs, List.cons_append, List.nil_append]
        exact a3_2 n hf hv
    | j + 3, hkj => cases hkj
  · match j, hkj with
    | 0, hkj =>
      cases hkj
      match post, hp with
      | [d, x], _ => exact a18_0 n hv
    | 1, hkj =>
      cases hkj
      match post, hp with
      | [x], _ =>
        simp only [List.take_succ_cons, List.take_zero, List.map_cons, List.map_nil, Rt_board, List.cons_append, List.nil_append]
        exact a18_1 n hv
    | 2, hkj =>
      cases hkj
      exact absurd rfl hka
    | j + 3, hkj => cases hkj
  · match j, hkj with
    | 0, hkj =>
      cases hkj
      match post, hp with
      | [d, x, z], _ => exact a28_0 n hv
    | 1, hkj =>
      cases hkj
      match post, hp with
      | [x, z], _ =>
        simp only [List.take_succ_cons, List.take_zero, List.map_cons, List.map_nil, Rt_board, List.cons_append, List.nil_append]
        exact a28_1 n hv
    | 2, hkj =>
      cases hkj
      match post, hp with
      | [z], _ =>
        simp only [List.take_succ_cons, List.take_zero, List.map_cons, List.map_nil, Rt_board, Rt_dirs, List.cons_append, List.nil_append]
        exact a28_2 n hv
    | 3, hkj =>
      cases hkj
      match post, hp with
      | [], _ =>
        simp only [List.take_succ_cons, List.take_zero, List.map_cons, List.map_nil, Rt_board, Rt_dirs, Rt_facts, List.cons_append, List.nil_append]
        exact a28_3 n hv
    | j + 4, hkj => cases hkj
  · match j, hkj with
    | 0, hkj =>
      cases hkj
      match post, hp with
      | [d, x], _ =>
        obtain ⟨c, u, e, t⟩ := x33_0 n hv
        exact ans3 rfl (p38 e) t
    | 1, hkj =>
      cases hkj
      match post, hp with
      | [x], _ =>
        simp only [List.take_succ_cons, List.take_zero, List.map_cons, List.map_nil, Rt_board, List.cons_append, List.nil_append]
        obtain ⟨c, u, e, t⟩ := x33_1 n hv
        exact ans3 rfl (p38 e) t
    | 2, hkj =>
      cases hkj
      match post, hp with
      | [], _ =>
        simp only [List.take_succ_cons, List.take_zero, List.map_cons, List.map_nil, Rt_board, Rt_dirs, List.cons_append, List.nil_append]
        obtain ⟨c, u, e, t⟩ := x_few n hv
        exact ans3 rfl (p38 e) t
    | j + 3, hkj => cases hkj
  · have p4 : ∀ {b d x z u : T} {c : Nat}, Ex (n + 12) 33 [b, d, x] c u → Tells c u v w → Ans (n + 14) f [b, d, x, z] v w := fun {b d x z u c} e t => by
      rcases hf with rfl | rfl
      · exact ans4 rfl (p42 e) t
      · exact ans4 rfl (p41 e) t
    match j, hkj with
    | 0, hkj =>
      cases hkj
      match post, hp with
      | [d, x, z], _ =>
        obtain ⟨c, u, e, t⟩ := x33_0 n hv
        exact p4 e t
    | 1, hkj =>
      cases hkj
      match post, hp with
      | [x, z], _ =>
        simp only [List.take_succ_cons, List.take_zero, List.map_cons, List.map_nil, Rt_board, List.cons_append, List.nil_append]
        obtain ⟨c, u, e, t⟩ := x33_1 n hv
        exact p4 e t
    | 2, hkj =>
      cases hkj
      match post, hp with
      | [z], _ =>
        simp only [List.take_succ_cons, List.take_zero, List.map_cons, List.map_nil, Rt_board, Rt_dirs, List.cons_append, List.nil_append]
        obtain ⟨c, u, e, t⟩ := x_few n hv
        exact p4 e t
    | 3, hkj =>
      cases hkj
      exact absurd rfl hka
    | j + 4, hkj => cases hkj
theorem right_ok (n : Nat) {f : Nat} {ks : List Str} (hm : (f, ks) ∈ cl10) : ∃ r σ', callF prg (n + 16) 46 [.val (.fn f), .val (.lst (ks.map Rt))] = .ok r σ' ∧ r.t = .non := by
  have h : rightOk n (f, ks) = true := by
    rw [← List.take_append_drop 5 cl10] at hm
    rcases List.mem_append.mp hm with hm | hm
    · exact List.all_eq_true.mp (rights_1 n) _ hm
    · exact List.all_eq_true.mp (rights_2 n) _ hm
  unfold rightOk at h
  split at h
  · rename_i hu
    exact run_ok hu
  · cases h
theorem asked_all (n : Nat) {c : Nat} {p : Pu} (hp : POk c p) (hc : c ≤ 90000) {f : Nat} {ks : List Str} (hm : (f, ks) ∈ cl10) (wr : List Int) :
    ∃ p', POk (c + 4) p' ∧ callF prg (n + 17) 47 [.io (mP p), .val (.fn f), .val (.lst (ks.map .str)), .val (.lst (wr.map .int))] = .ok (.val (.bl true)) [some (.io (mP p')), none, none, none] := by
  obtain ⟨hk, hl⟩ := kinds_ok _ hm
  have hl : ks.length = 3 ∨ ks.length = 4 := hl
  exact asked_ok n hp hc hk (by omega) (fun j k hkj hka v w post hv hpl => tab_ok (n + 2) hm hkj hka hv hpl) (right_ok n hm) wr
def eLot (l : List Int) : T := .lst (l.map .int)
def ones (L : Nat) : List (List Int) := (List.range L).map fun i : Nat => [(i : Int)]
def lots (L : Nat) : List (List Int) := [[]] ++ (ones L ++ ones L) ++ ((List.range (L - 1)).map fun i : Nat => [(i : Int), (i : Int) + 1]) ++ [(List.range L).map fun i : Nat => (i : Int)]
theorem bop_mul_2 {ts : List T} (h : ts.length ≤ 1000) : bop .mul (.lst ts) (.int 2) = some (.lst (ts ++ ts)) := by
  have e : (List.replicate (Int.toNat 2) ts).flatten = ts ++ ts := by
    show (List.replicate 2 ts).flatten = _
    simp [List.replicate]
  show (if -(2 ^ 63) ≤ (2 : Int) ∧ (2 : Int) < 2 ^ 63 ∧ ts.length * (2 : Int).toNat ≤ sizeLine then _ else _) = _
  rw [if_pos ⟨by omega, by omega, le_line (by show ts.length * 2 ≤ _; omega)⟩, e]
def forB : S → S
  | .for _ _ b => b
  | _ => .nil
def setE : S → E
  | .set _ e => e
  | _ => .nil
def bodyL : S := forB (hdS (tlS b_law))
def lotsE : E := setE (hdS bodyL)
def bodyW : S := forB (hdS (tlS bodyL))
def tailL : S := tlS (tlS b_law)
section
variable {cl : Nat → List W → Out R} {w0 w1 w2 w3 w4 w5 w6 w8 w9 : Option W} {j10 : Option T}
theorem lots_ev {ks : List Str} (hl : ks.length = 3 ∨ ks.length = 4) :
    ev cl lotsE [w0, w1, w2, w3, w4, w5, w6, some (.val (.lst (ks.map .str))), w8, w9, jk j10] = .ok (.val (.lst ((lots ks.length).map eLot))) [w0, w1, w2, w3, w4, w5, w6, some (.val (.lst (ks.map .str))), w8, w9, jk j10] := by
  generalize hL : ks.length = L at hl
  have hb : big (L : Int) = true := big_nat (by omega)
  have hb1 : big ((L : Int) - 1) = true := by
    have := big_nat (n := L - 1) (by omega)
    rw [show ((L : Int) - 1) = ((L - 1 : Nat) : Int) by omega]
    exact this
  have ht : ((L : Int) - 1).toNat = L - 1 := by omega
  simp [lotsE, setE, bodyL, forB, hdS, tlS, b_law, lstF_v, rd_val, hL, rng1F_int hb, rng1F_int hb1, ht, rangeT0, hideS]
  rw [evL_map (g := fun i : Nat => M.fr (.lst [.int i]))]
  · simp only [Out.bind_ok]
    rw [finL_ok (by rw [List.length_map, List.length_range]; exact le_line (by omega))]
    simp [Function.comp_def]
    rw [bop_mul_2 (by rw [List.length_map, List.length_range]; omega)]
    simp
    rw [bop_add_lst (by simp; exact le_line (by omega))]
    simp [rd_val, hL, rng1F_int hb, rng1F_int hb1, ht, rangeT0, hideS]
    rw [evL_map (g := fun i : Nat => M.fr (.lst [.int i, .int (i + 1)]))]
    · simp only [Out.bind_ok]
      rw [finL_ok (by rw [List.length_map, List.length_range]; exact le_line (by omega))]
      simp [Function.comp_def]
      rw [bop_add_lst (by simp; exact le_line (by omega))]
      simp [rd_val, hL, pf1_lrng hb (by simp; exact le_line (by omega)), rangeT0, lstF_v]
      rw [bop_add_lst (by simp; exact le_line (by omega))]
      simp [lots, ones, eLot, Function.comp_def]
    · intro i hi
      simp [putS, rd_val, lstF_v]
  · intro i hi
    simp [putS, rd_val, lstF_v]
end
theorem lots_len {L : Nat} (h : L = 3 ∨ L = 4) : (lots L).length ≤ 13 := by
  rcases h with rfl | rfl <;> decide
def LawI (ns : List Int) (c : Nat) (σ : Sig) : Prop := ∃ (p : Pu) (j6 j7 j8 j9 j10 : Option T), POk c p ∧ σ = [some (.val (.scr ns)), some (.own (mP p)), none, none, none, none, jk j6, jk j7, jk j8, jk j9, jk j10]
theorem turn_ok (n : Nat) {ns : List Int} {c : Nat} {p : Pu} {j8 j9 j10 : Option T} (hc : c ≤ 80000) (hp : POk c p) {f : Nat} {ks : List Str} (hm : (f, ks) ∈ cl10) :
    Nx (evS (callF prg (n + 17)) bodyL [some (.val (.scr ns)), some (.own (mP p)), none, none, none, none, some (.val (.fn f)), some (.val (.lst (ks.map .str))), jk j8, jk j9, jk j10]) (LawI ns (c + 60)) := by
  obtain ⟨hk, hl⟩ := kinds_ok _ hm
  have hl : ks.length = 3 ∨ ks.length = 4 := hl
  have hll := lots_len hl
  have e8 : evS (callF prg (n + 17)) (hdS bodyL) [some (.val (.scr ns)), some (.own (mP p)), none, none, none, none, some (.val (.fn f)), some (.val (.lst (ks.map .str))), jk j8, jk j9, jk j10] =
      .nx [some (.val (.scr ns)), some (.own (mP p)), none, none, none, none, some (.val (.fn f)), some (.val (.lst (ks.map .str))), some (.val (.lst ((lots ks.length).map eLot))), jk j9, jk j10] := by
    show (ev (callF prg (n + 17)) lotsE _).fl _ = _
    rw [lots_ev hl]
    simp [putS]
  show Nx (evS (callF prg (n + 17)) (.seq (hdS bodyL) (.seq (.for (.nm 9) (.sl 8) bodyW) .nil)) _) _
  rw [nx_thn e8]
  simp [rd_val]
  refine evF_forN (fun pre σ => ∃ (p : Pu) (j9 : Option T), POk (c + 4 * pre.length) p ∧ σ = [some (.val (.scr ns)), some (.own (mP p)), none, none, none, none, some (.val (.fn f)), some (.val (.lst (ks.map .str))), some (.val (.lst ((lots ks.length).map eLot))), jk j9, jk j10]) ⟨p, j9, hp, rfl⟩ (fun pre x post σ e hI => ?_) (fun σ' hI => ?_)
  · obtain ⟨p, j9, hp, rfl⟩ := hI
    have hpl : pre.length < 13 := by
      have := congrArg List.length e
      simp at this
      omega
    obtain ⟨p', hp', e47⟩ := asked_all n hp (by omega) hm x
    simp [putS, bodyW, forB, tlS, hdS, bodyL, b_law, rd_val, eLot, callA_o3, e47]
    refine ⟨p', hp'.mono (by omega), rfl, ?_⟩
    exact ⟨some _, rfl⟩
  · obtain ⟨p, j9, hp, rfl⟩ := hI
    rw [Nx_nx]
    exact ⟨p, some _, some _, some _, j9, j10, hp.mono (by omega), rfl⟩
theorem end_3' (n : Nat) : ∃ r σ', callF prg (n + 17) 38 [.val (.tup [.int 2, .int 4]), .val both, .val four] = .ok r σ' ∧ tix r.t (.int 0) = some (.str "alike") := by
  have h := end_3 n
  unfold alikeOk at h
  split at h
  · rename_i t ht
    obtain ⟨r, σ', e, q⟩ := run_ok ht
    refine ⟨r, σ', e, ?_⟩
    rw [q]
    split at h
    · rename_i x hx
      rw [hx, of_decide_eq_true h]
    · cases h
  · cases h
theorem teq_end : teq (.lst [.int 1, .int 8, .str "alike"]) (.lst [.int 1, .int 8, .str "alike"]) = some true := by kernel_rfl
theorem bop_mul_40 {t : T} : bop .mul (.lst [t]) (.int 40) = some (.lst (List.replicate 40 t)) := by
  have e : (List.replicate (Int.toNat 40) [t]).flatten = List.replicate 40 t := by
    show (List.replicate 40 [t]).flatten = _
    simp
  show (if -(2 ^ 63) ≤ (40 : Int) ∧ (40 : Int) < 2 ^ 63 ∧ [t].length * (40 : Int).toNat ≤ sizeLine then some (T.lst (List.replicate (Int.toNat 40) [t]).flatten) else none) = _
  rw [if_pos ⟨by omega, by omega, le_line (by show 1 * 40 ≤ _; omega)⟩, e]
theorem tail_ok (n : Nat) {ns : List Int} {w1 : Option W} {j6 j7 j8 j9 j10 : Option T} : ∃ σ', finD 1 (evS (callF prg (n + 17)) tailL [some (.val (.scr ns)), w1, none, none, none, none, jk j6, jk j7, jk j8, jk j9, jk j10]) = .ok (.val (.bl true)) σ' := by
  obtain ⟨σ1, e1⟩ := end_1 n
  obtain ⟨σ2, e2⟩ := givesV_ok (end_2 n)
  obtain ⟨r, σ3, e3, e3'⟩ := end_3' n
  obtain ⟨σ4, e4⟩ := givesV_ok (end_4 n)
  simp only [List.map_cons, List.map_nil, both, four, forty] at e2 e3 e4
  simp [-List.reduceReplicate, tailL, tlS, b_law, rd_val, lstF_v, tupF_v, putS, bop_mul_40, e1, e2, e3, e3', e4, teq_end]
theorem law_ok (n : Nat) {ns : List Int} (hl : ns.length ≤ 63) : ∃ σ', callF prg (n + 18) 53 [.val (.scr ns)] = .ok (.val (.bl true)) σ' := by
  obtain ⟨p, hp, e⟩ := purse_ok (n + 16) hl
  obtain ⟨σ43, e43⟩ := givesV_ok (calls_k (n + 8))
  rw [run_def df_law rfl (by decide)]
  have e0 : evS (callF prg (n + 17)) (hdS b_law) [some (.val (.scr ns)), none, none, none, none, none, none, none, none, none, none] = .nx [some (.val (.scr ns)), some (.own (mP p)), none, none, none, none, none, none, none, none, none] := by
    simp [hdS, b_law, rd_val, e, putS]
  show ∃ σ', finD 1 (evS (callF prg (n + 17)) (.seq (hdS b_law) (.seq (.for (.tp [6, 7]) (.call 43 .nil) bodyL) tailL)) [some (.val (.scr ns)), none, none, none, none, none, none, none, none, none, none]) = _
  rw [nx_thn e0]
  have e43' : callF prg (n + 17) 43 [] = .ok (.val (.lst (cl10.map eCall))) σ43 := e43
  simp [e43']
  refine evF_for (fun pre σ => LawI ns (60 * pre.length) σ) (fun fl => ∃ σ', finD 1 fl = .ok (.val (.bl true)) σ') ⟨p, none, none, none, none, none, hp, rfl⟩ (fun pre x post σ e hI => (?_ : Nx _ _)) (fun σ' hI => ?_)
  · obtain ⟨p, j6, j7, j8, j9, j10, hp, rfl⟩ := hI
    have hpl : pre.length < 10 := by
      have := congrArg List.length e
      simp [cl10] at this
      omega
    obtain ⟨f, ks⟩ := x
    have hm : (f, ks) ∈ cl10 := by rw [e]; simp
    simp [eCall, putS]
    have := turn_ok (ns := ns) (j8 := j8) (j9 := j9) (j10 := j10) n (by omega) hp hm
    exact this
  · obtain ⟨p, j6, j7, j8, j9, j10, hp, rfl⟩ := hI
    exact tail_ok n
end PY.k90
set_option Elab.async false
set_option linter.all false
set_option maxRecDepth 100000
set_option maxHeartbeats 1000000
/-! # the end of k90 (printed by mkend2.py) -/
namespace PY.k90
open PySem PySem.Spec PyProof.Rows L2 PY
theorem all_chk : ∀ d ∈ prgT.ds, prgT.chk d = true :=
  all_cons c0 (all_cons c1 (all_cons c2 (all_cons c3 (all_cons c4 (all_cons c5 (all_cons c6 (all_cons c7 (all_cons c8 (all_cons c9 (all_cons c10 (all_cons c11 (all_cons c12 (all_cons c13 (all_cons c14 (all_cons c15 (all_cons c16 (all_cons c17 (all_cons c18 (all_cons c19 (all_cons c20 (all_cons c21 (all_cons c22 (all_cons c23 (all_cons c24 (all_cons c25 (all_cons c26 (all_cons c27 (all_cons c28 (all_cons c29 (all_cons c30 (all_cons c31 (all_cons c32 (all_cons c33 (all_cons c34 (all_cons c35 (all_cons c36 (all_cons c37 (all_cons c38 (all_cons c39 (all_cons c40 (all_cons c41 (all_cons c42 (all_cons c43 (all_cons c44 (all_cons c45 (all_cons c46 (all_cons c47 (all_cons c48 (all_cons c49 (all_cons c50 (all_cons c51 (all_cons c52 (all_cons c53 (all_nil))))))))))))))))))))))))))))))))))))))))))))))))))))))
theorem all_body : ∀ d ∈ prgT.ds, d.body ≠ none := by
  have h : (prgT.ds.all fun d => d.body.isSome) = true := rfl
  intro d hd q
  have := List.all_eq_true.mp h d hd
  rw [q] at this
  cases this
theorem bi0 : BindB "is_whole" (top 9) ["value"] := fun _ _ _ _ _ _ us hl => match us, hl with | [_], _ => rfl
theorem bi1 : BindB "common_divisor" (top 10) ["one", "other"] := fun _ _ _ _ _ _ us hl => match us, hl with | [_, _], _ => rfl
theorem bi2 : BindB "is_board_by" (top 16) ["value"] := fun _ _ _ _ _ _ us hl => match us, hl with | [_], _ => rfl
theorem bi3 : BindB "check_board" (top 17) ["board"] := fun _ _ _ _ _ _ us hl => match us, hl with | [_], _ => rfl
theorem bi4 : BindB "cells_of" (top 18) ["board"] := fun _ _ _ _ _ _ us hl => match us, hl with | [_], _ => rfl
theorem bi5 : BindB "is_square_by" (top 19) ["board", "value"] := fun _ _ _ _ _ _ us hl => match us, hl with | [_, _], _ => rfl
theorem bi6 : BindB "is_picture_on" (top 20) ["board", "value"] := fun _ _ _ _ _ _ us hl => match us, hl with | [_, _], _ => rfl
theorem bi7 : BindB "is_direction_by" (top 21) ["value"] := fun _ _ _ _ _ _ us hl => match us, hl with | [_], _ => rfl
theorem bi8 : BindB "are_directions_by" (top 22) ["value"] := fun _ _ _ _ _ _ us hl => match us, hl with | [_], _ => rfl
theorem bi9 : BindB "check_directions" (top 23) ["directions"] := fun _ _ _ _ _ _ us hl => match us, hl with | [_], _ => rfl
theorem bi10 : BindB "number_of" (top 24) ["direction", "cell"] := fun _ _ _ _ _ _ us hl => match us, hl with | [_, _], _ => rfl
theorem bi11 : BindB "lines_by" (top 25) ["board", "direction"] := fun _ _ _ _ _ _ us hl => match us, hl with | [_, _], _ => rfl
theorem bi12 : BindB "all_lines" (top 26) ["board", "directions"] := fun _ _ _ _ _ _ us hl => match us, hl with | [_, _], _ => rfl
theorem bi13 : BindB "sum_along" (top 27) ["table", "line"] := fun _ _ _ _ _ _ us hl => match us, hl with | [_, _], _ => rfl
theorem bi14 : BindB "is_cell_of" (top 31) ["board", "value"] := fun _ _ _ _ _ _ us hl => match us, hl with | [_, _], _ => rfl
theorem bi15 : BindB "is_fact_by" (top 32) ["board", "lines", "value"] := fun _ _ _ _ _ _ us hl => match us, hl with | [_, _, _], _ => rfl
theorem bi16 : BindB "are_facts_by" (top 33) ["board", "lines", "value"] := fun _ _ _ _ _ _ us hl => match us, hl with | [_, _, _], _ => rfl
theorem bi17 : BindB "check_small" (top 34) ["board", "directions"] := fun _ _ _ _ _ _ us hl => match us, hl with | [_, _], _ => rfl
theorem bi18 : BindB "are_facts" (top 35) ["board", "directions", "value"] := fun _ _ _ _ _ _ us hl => match us, hl with | [_, _, _], _ => rfl
theorem bi19 : BindB "check_facts" (top 36) ["board", "directions", "facts"] := fun _ _ _ _ _ _ us hl => match us, hl with | [_, _, _], _ => rfl
theorem bi20 : BindB "keeps" (top 37) ["lines", "picture", "fact"] := fun _ _ _ _ _ _ us hl => match us, hl with | [_, _, _], _ => rfl
theorem bi21 : BindB "every_picture" (top 38) ["board"] := fun _ _ _ _ _ _ us hl => match us, hl with | [_], _ => rfl
theorem bi22 : BindB "left_by" (top 39) ["board", "lines", "facts"] := fun _ _ _ _ _ _ us hl => match us, hl with | [_, _, _], _ => rfl
theorem bi23 : BindB "left_pictures" (top 40) ["board", "directions", "facts"] := fun _ _ _ _ _ _ us hl => match us, hl with | [_, _, _], _ => rfl
theorem bi24 : BindB "how_many_left" (top 41) ["board", "directions", "facts"] := fun _ _ _ _ _ _ us hl => match us, hl with | [_, _, _], _ => rfl
theorem bi25 : BindB "sure_by" (top 42) ["board", "pictures"] := fun _ _ _ _ _ _ us hl => match us, hl with | [_, _], _ => rfl
theorem bi26 : BindB "sure_left" (top 43) ["board", "directions", "facts"] := fun _ _ _ _ _ _ us hl => match us, hl with | [_, _, _], _ => rfl
theorem bi27 : BindB "counted" (top 44) ["numbers"] := fun _ _ _ _ _ _ us hl => match us, hl with | [_], _ => rfl
theorem bi28 : BindB "parts_by_line" (top 45) ["board", "directions", "facts", "number"] := fun _ _ _ _ _ _ us hl => match us, hl with | [_, _, _, _], _ => rfl
theorem bi29 : BindB "most_alike" (top 46) ["numbers"] := fun _ _ _ _ _ _ us hl => match us, hl with | [_], _ => rfl
theorem bi30 : BindB "best_among" (top 47) ["lines", "pictures"] := fun _ _ _ _ _ _ us hl => match us, hl with | [_, _], _ => rfl
theorem bi31 : BindB "best_line" (top 48) ["board", "directions", "facts"] := fun _ _ _ _ _ _ us hl => match us, hl with | [_, _, _], _ => rfl
theorem bi32 : BindB "best_cell" (top 49) ["board", "directions", "facts"] := fun _ _ _ _ _ _ us hl => match us, hl with | [_, _, _], _ => rfl
theorem bi33 : BindB "check_few" (top 52) ["board", "directions", "facts"] := fun _ _ _ _ _ _ us hl => match us, hl with | [_, _, _], _ => rfl
theorem bi34 : BindB "sums_of_all" (top 53) ["lines", "picture"] := fun _ _ _ _ _ _ us hl => match us, hl with | [_, _], _ => rfl
theorem bi35 : BindB "parted_lots" (top 54) ["sums", "lot", "number"] := fun _ _ _ _ _ _ us hl => match us, hl with | [_, _, _], _ => rfl
theorem bi36 : BindB "alike_by" (top 56) ["sums", "pictures"] := fun _ _ _ _ _ _ us hl => match us, hl with | [_, _], _ => rfl
theorem bi37 : BindB "asks_by" (top 57) ["lines", "pictures"] := fun _ _ _ _ _ _ us hl => match us, hl with | [_, _], _ => rfl
theorem bi38 : BindB "least_asks" (top 58) ["board", "directions", "facts"] := fun _ _ _ _ _ _ us hl => match us, hl with | [_, _, _], _ => rfl
theorem bi39 : BindB "depth_of" (top 59) ["lines", "pictures", "value"] := fun _ _ _ _ _ _ us hl => match us, hl with | [_, _, _], _ => rfl
theorem bi40 : BindB "branches_of" (top 60) ["lines", "lot", "tree"] := fun _ _ _ _ _ _ us hl => match us, hl with | [_, _, _], _ => rfl
theorem bi41 : BindB "is_asking_tree" (top 61) ["board", "directions", "facts", "value"] := fun _ _ _ _ _ _ us hl => match us, hl with | [_, _, _, _], _ => rfl
theorem bi42 : BindB "is_least_asks" (top 62) ["board", "directions", "facts", "value"] := fun _ _ _ _ _ _ us hl => match us, hl with | [_, _, _, _], _ => rfl
theorem bi43 : BindB "_law_calls" (top 64) [] := fun _ _ _ _ _ _ us hl => match us, hl with | [], _ => rfl
theorem bi44 : BindB "_law_right" (top 65) ["kind"] := fun _ _ _ _ _ _ us hl => match us, hl with | [_], _ => rfl
theorem bi45 : BindB "_law_wrong" (top 66) ["kind"] := fun _ _ _ _ _ _ us hl => match us, hl with | [_], _ => rfl
theorem bi46 : BindB "_law_caught" (top 67) ["call", "parts"] := fun _ _ _ _ _ _ us hl => match us, hl with | [_, _], _ => rfl
theorem bi47 : BindB "_law_asked" (top 68) ["purse", "call", "words", "wrong"] := fun _ _ _ _ _ _ us hl => match us, hl with | [_, _, _, _], _ => rfl
theorem bi48 : BindB "_law_odd_facts" (top 69) ["board", "lines"] := fun _ _ _ _ _ _ us hl => match us, hl with | [_, _], _ => rfl
theorem bi49 : BindB "_law_lines" (top 70) ["board", "directions"] := fun _ _ _ _ _ _ us hl => match us, hl with | [_, _], _ => rfl
theorem bi50 : BindB "_law_purse" (top 71) ["script"] := fun _ _ _ _ _ _ us hl => match us, hl with | [_], _ => rfl
theorem bi51 : BindB "_law_draw" (top 72) ["purse", "many"] := fun _ _ _ _ _ _ us hl => match us, hl with | [_, _], _ => rfl
theorem bi52 : BindB "_law_pick" (top 73) ["purse", "things"] := fun _ _ _ _ _ _ us hl => match us, hl with | [_, _], _ => rfl
theorem bi53 : BindB "law" (top 74) ["script"] := fun _ _ _ _ _ _ us hl => match us, hl with | [_], _ => rfl
theorem end_ok {P : Program} {w : World} {K : PySem.W.Frag} {mg : Str → Option Value} {h : Heap} {fa : Addr} (X : K.In h) (hfa : mg "law" = some (.ref fa)) (A : ∀ d ∈ prgT.ds, ∃ f fd, DF K mg d f fd) (hb : ∀ x ∈ prgT.blt, mg x = none) (hg : ∀ q ∈ prgT.gis, ∃ u, mg q.1 = some u ∧ RelV (.int q.2) u) {C0 C1 C2 C3 C4 C5 C6 : Addr} {fI : Addr} {fdI : FuncData} (x0 : XCls K mg "PictureError" C0 C0 fI) (x1 : XCls K mg "InvalidBoard" C1 C0 fI) (x2 : XCls K mg "InvalidDirection" C2 C0 fI) (x3 : XCls K mg "InvalidNumber" C3 C0 fI) (x4 : XCls K mg "InvalidList" C4 C0 fI) (x5 : XCls K mg "Unlike" C5 C0 fI) (x6 : XCls K mg "TooMany" C6 C0 fI) (xi : IniF P K C0 fI fdI) (xb : Binds K fdI iniN []) (s0_1 : PySem.W.subIn K (.ref C0) (.ref C1) = some false) (s1_1 : PySem.W.subIn K (.ref C1) (.ref C1) = some true) (s2_1 : PySem.W.subIn K (.ref C2) (.ref C1) = some false) (s3_1 : PySem.W.subIn K (.ref C3) (.ref C1) = some false) (s4_1 : PySem.W.subIn K (.ref C4) (.ref C1) = some false) (s5_1 : PySem.W.subIn K (.ref C5) (.ref C1) = some false) (s6_1 : PySem.W.subIn K (.ref C6) (.ref C1) = some false) (s0_2 : PySem.W.subIn K (.ref C0) (.ref C2) = some false) (s1_2 : PySem.W.subIn K (.ref C1) (.ref C2) = some false) (s2_2 : PySem.W.subIn K (.ref C2) (.ref C2) = some true) (s3_2 : PySem.W.subIn K (.ref C3) (.ref C2) = some false) (s4_2 : PySem.W.subIn K (.ref C4) (.ref C2) = some false) (s5_2 : PySem.W.subIn K (.ref C5) (.ref C2) = some false) (s6_2 : PySem.W.subIn K (.ref C6) (.ref C2) = some false) (s0_3 : PySem.W.subIn K (.ref C0) (.ref C3) = some false) (s1_3 : PySem.W.subIn K (.ref C1) (.ref C3) = some false) (s2_3 : PySem.W.subIn K (.ref C2) (.ref C3) = some false) (s3_3 : PySem.W.subIn K (.ref C3) (.ref C3) = some true) (s4_3 : PySem.W.subIn K (.ref C4) (.ref C3) = some false) (s5_3 : PySem.W.subIn K (.ref C5) (.ref C3) = some false) (s6_3 : PySem.W.subIn K (.ref C6) (.ref C3) = some false) (s0_4 : PySem.W.subIn K (.ref C0) (.ref C4) = some false) (s1_4 : PySem.W.subIn K (.ref C1) (.ref C4) = some false) (s2_4 : PySem.W.subIn K (.ref C2) (.ref C4) = some false) (s3_4 : PySem.W.subIn K (.ref C3) (.ref C4) = some false) (s4_4 : PySem.W.subIn K (.ref C4) (.ref C4) = some true) (s5_4 : PySem.W.subIn K (.ref C5) (.ref C4) = some false) (s6_4 : PySem.W.subIn K (.ref C6) (.ref C4) = some false) (s0_5 : PySem.W.subIn K (.ref C0) (.ref C5) = some false) (s1_5 : PySem.W.subIn K (.ref C1) (.ref C5) = some false) (s2_5 : PySem.W.subIn K (.ref C2) (.ref C5) = some false) (s3_5 : PySem.W.subIn K (.ref C3) (.ref C5) = some false) (s4_5 : PySem.W.subIn K (.ref C4) (.ref C5) = some false) (s5_5 : PySem.W.subIn K (.ref C5) (.ref C5) = some true) (s6_5 : PySem.W.subIn K (.ref C6) (.ref C5) = some false) (s0_6 : PySem.W.subIn K (.ref C0) (.ref C6) = some false) (s1_6 : PySem.W.subIn K (.ref C1) (.ref C6) = some false) (s2_6 : PySem.W.subIn K (.ref C2) (.ref C6) = some false) (s3_6 : PySem.W.subIn K (.ref C3) (.ref C6) = some false) (s4_6 : PySem.W.subIn K (.ref C4) (.ref C6) = some false) (s5_6 : PySem.W.subIn K (.ref C5) (.ref C6) = some false) (s6_6 : PySem.W.subIn K (.ref C6) (.ref C6) = some true) (t0_0 : PySem.W.subIn K (.ref C0) (.ref C0) = some true) (t1_0 : PySem.W.subIn K (.ref C1) (.ref C0) = some true) (t2_0 : PySem.W.subIn K (.ref C2) (.ref C0) = some true) (t3_0 : PySem.W.subIn K (.ref C3) (.ref C0) = some true) (t4_0 : PySem.W.subIn K (.ref C4) (.ref C0) = some true) (t5_0 : PySem.W.subIn K (.ref C5) (.ref C0) = some true) (t6_0 : PySem.W.subIn K (.ref C6) (.ref C0) = some true) (n0_1 : C0 ≠ C1) (n2_1 : C2 ≠ C1) (n3_1 : C3 ≠ C1) (n4_1 : C4 ≠ C1) (n5_1 : C5 ≠ C1) (n6_1 : C6 ≠ C1) (n0_2 : C0 ≠ C2) (n1_2 : C1 ≠ C2) (n3_2 : C3 ≠ C2) (n4_2 : C4 ≠ C2) (n5_2 : C5 ≠ C2) (n6_2 : C6 ≠ C2) (n0_3 : C0 ≠ C3) (n1_3 : C1 ≠ C3) (n2_3 : C2 ≠ C3) (n4_3 : C4 ≠ C3) (n5_3 : C5 ≠ C3) (n6_3 : C6 ≠ C3) (n0_4 : C0 ≠ C4) (n1_4 : C1 ≠ C4) (n2_4 : C2 ≠ C4) (n3_4 : C3 ≠ C4) (n5_4 : C5 ≠ C4) (n6_4 : C6 ≠ C4) (n0_5 : C0 ≠ C5) (n1_5 : C1 ≠ C5) (n2_5 : C2 ≠ C5) (n3_5 : C3 ≠ C5) (n4_5 : C4 ≠ C5) (n6_5 : C6 ≠ C5) (n0_6 : C0 ≠ C6) (n1_6 : C1 ≠ C6) (n2_6 : C2 ≠ C6) (n3_6 : C3 ≠ C6) (n4_6 : C4 ≠ C6) (n5_6 : C5 ≠ C6) :
    ∃ (fd : FuncData) (sp : Sp), (∀ (s : Shared) (u : Value), BindsTo s fd ⟨[u], []⟩ [("script", u)]) ∧ (∀ base : Heap, K.In base → base.Ns mainGlobals mg → (∃ o, base.get? sysModules = some o) → FnG P w K mg base 20 fa fd ["script"] sp) ∧
        ∀ (H : Hp) (a : Addr) (ns : List Int), ns.length ≤ 63 → Only H → SqL K H a (ns.map V.int) → sp [.ref a] H (fun v _ => v = .bl true) fun _ _ _ => False := by
  obtain ⟨fas, fds, hall⟩ := pick_all A
  have hX : XAll P K mg prgT [C0, C1, C2, C3, C4, C5, C6] C0 fI fdI := by
    refine ⟨fun c x hc => ?_, fun _ => ⟨xi, xb⟩, fun q hq => ?_, fun x hx => ?_⟩
    · match c, hc with
      | 0, hc => cases hc; exact x0
      | 1, hc => cases hc; exact x1
      | 2, hc => cases hc; exact x2
      | 3, hc => cases hc; exact x3
      | 4, hc => cases hc; exact x4
      | 5, hc => cases hc; exact x5
      | 6, hc => cases hc; exact x6
      | _ + 7, hc => cases hc
    · have hq : q ∈ cnsl := hq
      rcases List.mem_cons.mp hq with rfl | hq
      · refine ⟨by decide, fun c hc => ?_⟩
        match c, hc with
        | 0, _ => exact ⟨s0_1, fun e => absurd e n0_1⟩
        | 1, _ => exact ⟨s1_1, fun _ => rfl⟩
        | 2, _ => exact ⟨s2_1, fun e => absurd e n2_1⟩
        | 3, _ => exact ⟨s3_1, fun e => absurd e n3_1⟩
        | 4, _ => exact ⟨s4_1, fun e => absurd e n4_1⟩
        | 5, _ => exact ⟨s5_1, fun e => absurd e n5_1⟩
        | 6, _ => exact ⟨s6_1, fun e => absurd e n6_1⟩
        | m + 7, hc => exact absurd hc (by show ¬ m + 7 < 7; omega)
      rcases List.mem_cons.mp hq with rfl | hq
      · refine ⟨by decide, fun c hc => ?_⟩
        match c, hc with
        | 0, _ => exact ⟨s0_2, fun e => absurd e n0_2⟩
        | 1, _ => exact ⟨s1_2, fun e => absurd e n1_2⟩
        | 2, _ => exact ⟨s2_2, fun _ => rfl⟩
        | 3, _ => exact ⟨s3_2, fun e => absurd e n3_2⟩
        | 4, _ => exact ⟨s4_2, fun e => absurd e n4_2⟩
        | 5, _ => exact ⟨s5_2, fun e => absurd e n5_2⟩
        | 6, _ => exact ⟨s6_2, fun e => absurd e n6_2⟩
        | m + 7, hc => exact absurd hc (by show ¬ m + 7 < 7; omega)
      rcases List.mem_cons.mp hq with rfl | hq
      · refine ⟨by decide, fun c hc => ?_⟩
        match c, hc with
        | 0, _ => exact ⟨s0_3, fun e => absurd e n0_3⟩
        | 1, _ => exact ⟨s1_3, fun e => absurd e n1_3⟩
        | 2, _ => exact ⟨s2_3, fun e => absurd e n2_3⟩
        | 3, _ => exact ⟨s3_3, fun _ => rfl⟩
        | 4, _ => exact ⟨s4_3, fun e => absurd e n4_3⟩
        | 5, _ => exact ⟨s5_3, fun e => absurd e n5_3⟩
        | 6, _ => exact ⟨s6_3, fun e => absurd e n6_3⟩
        | m + 7, hc => exact absurd hc (by show ¬ m + 7 < 7; omega)
      rcases List.mem_cons.mp hq with rfl | hq
      · refine ⟨by decide, fun c hc => ?_⟩
        match c, hc with
        | 0, _ => exact ⟨s0_4, fun e => absurd e n0_4⟩
        | 1, _ => exact ⟨s1_4, fun e => absurd e n1_4⟩
        | 2, _ => exact ⟨s2_4, fun e => absurd e n2_4⟩
        | 3, _ => exact ⟨s3_4, fun e => absurd e n3_4⟩
        | 4, _ => exact ⟨s4_4, fun _ => rfl⟩
        | 5, _ => exact ⟨s5_4, fun e => absurd e n5_4⟩
        | 6, _ => exact ⟨s6_4, fun e => absurd e n6_4⟩
        | m + 7, hc => exact absurd hc (by show ¬ m + 7 < 7; omega)
      rcases List.mem_cons.mp hq with rfl | hq
      · refine ⟨by decide, fun c hc => ?_⟩
        match c, hc with
        | 0, _ => exact ⟨s0_5, fun e => absurd e n0_5⟩
        | 1, _ => exact ⟨s1_5, fun e => absurd e n1_5⟩
        | 2, _ => exact ⟨s2_5, fun e => absurd e n2_5⟩
        | 3, _ => exact ⟨s3_5, fun e => absurd e n3_5⟩
        | 4, _ => exact ⟨s4_5, fun e => absurd e n4_5⟩
        | 5, _ => exact ⟨s5_5, fun _ => rfl⟩
        | 6, _ => exact ⟨s6_5, fun e => absurd e n6_5⟩
        | m + 7, hc => exact absurd hc (by show ¬ m + 7 < 7; omega)
      rcases List.mem_cons.mp hq with rfl | hq
      · refine ⟨by decide, fun c hc => ?_⟩
        match c, hc with
        | 0, _ => exact ⟨s0_6, fun e => absurd e n0_6⟩
        | 1, _ => exact ⟨s1_6, fun e => absurd e n1_6⟩
        | 2, _ => exact ⟨s2_6, fun e => absurd e n2_6⟩
        | 3, _ => exact ⟨s3_6, fun e => absurd e n3_6⟩
        | 4, _ => exact ⟨s4_6, fun e => absurd e n4_6⟩
        | 5, _ => exact ⟨s5_6, fun e => absurd e n5_6⟩
        | 6, _ => exact ⟨s6_6, fun _ => rfl⟩
        | m + 7, hc => exact absurd hc (by show ¬ m + 7 < 7; omega)
      cases hq
    · have hx : x ∈ basel := hx
      rcases List.mem_cons.mp hx with rfl | hx
      · refine ⟨0, rfl, fun c hc => ?_⟩
        match c, hc with
        | 0, _ => exact t0_0
        | 1, _ => exact t1_0
        | 2, _ => exact t2_0
        | 3, _ => exact t3_0
        | 4, _ => exact t4_0
        | 5, _ => exact t5_0
        | 6, _ => exact t6_0
        | m + 7, hc => exact absurd hc (by show ¬ m + 7 < 7; omega)
      cases hx
  have hs : Has P prgT (plOf prgT K fas [C0, C1, C2, C3, C4, C5, C6] fds) K mg := has_of hall hb hg (fun f ks ix hk => by
    have hm : (f, ks, ix) ∈ kwl := hk
    cases hm) hX
  have hlaw := hall 53 d_law rfl
  have efa : fa = fas.getD 53 0 := by
    have := hfa.symm.trans hlaw.mgf
    cases this
    rfl
  refine ⟨fds.getD 53 default, spF (plOf prgT K fas [C0, C1, C2, C3, C4, C5, C6] fds) (callF prg 18 53) 1, fun s u => ?_, fun base kB nB mods => ?_, fun H a ns hl only hS => ?_⟩
  · obtain ⟨_, _, kV, doc, pm, an, cdv, ct, _, hfd, _, _⟩ := hlaw.fn.ex
    rw [hfd]
    exact .of_eq rfl
  · have := ((pg_n (P := P) (w := w) (base := base) hs mods all_chk fun n i d hd hn => absurd hn (all_body d (List.mem_of_getElem? hd))) 18).fn 53 rfl
    rw [efa]
    exact this.1
  · obtain ⟨σ, e⟩ := law_ok 0 hl
    exact law_sp only hS e
end PY.k90
open PySem PySem.W PyProof.Rows
set_option maxHeartbeats 0 in
theorem PySem.Challenge.cw_linepictures_k90_asking_refused_holds : PySem.Challenge.rw_linepictures_k90_asking_refused.Holds := by
  w_on; o_law; k_head; (case hw => w_witness2)
  k_fill
  refine PY.walk_G (l := PySem.Challenge.rw_linepictures_k90_asking_refused) (n := 63) (k := 20) (x := "script") (sp := fun _ => fun _ _ _ _ => True) rfl (by decide) rfl ⟨rfl, by decide, by decide⟩ rfl (fun w h Y => PySem.W.kIn_of Y) ?F
  case F =>
    intro w mg fa h KX G hmg
    refine' PY.k90.end_ok KX hmg ?A ?B ?G ?x0 ?x1 ?x2 ?x3 ?x4 ?x5 ?x6 ?xi ?xb ?s0_1 ?s1_1 ?s2_1 ?s3_1 ?s4_1 ?s5_1 ?s6_1 ?s0_2 ?s1_2 ?s2_2 ?s3_2 ?s4_2 ?s5_2 ?s6_2 ?s0_3 ?s1_3 ?s2_3 ?s3_3 ?s4_3 ?s5_3 ?s6_3 ?s0_4 ?s1_4 ?s2_4 ?s3_4 ?s4_4 ?s5_4 ?s6_4 ?s0_5 ?s1_5 ?s2_5 ?s3_5 ?s4_5 ?s5_5 ?s6_5 ?s0_6 ?s1_6 ?s2_6 ?s3_6 ?s4_6 ?s5_6 ?s6_6 ?t0_0 ?t1_0 ?t2_0 ?t3_0 ?t4_0 ?t5_0 ?t6_0 ?n0_1 ?n2_1 ?n3_1 ?n4_1 ?n5_1 ?n6_1 ?n0_2 ?n1_2 ?n3_2 ?n4_2 ?n5_2 ?n6_2 ?n0_3 ?n1_3 ?n2_3 ?n4_3 ?n5_3 ?n6_3 ?n0_4 ?n1_4 ?n2_4 ?n3_4 ?n5_4 ?n6_4 ?n0_5 ?n1_5 ?n2_5 ?n3_5 ?n4_5 ?n6_5 ?n0_6 ?n1_6 ?n2_6 ?n3_6 ?n4_6 ?n5_6
    case x0 =>
      refine' PY.xcls_mk KX G ?a ?L ?rf ?sa ?exC ?tyC ?kC ?sup ?mro ?subV ?noF ?isC ?ga ?gg ?hd ?cl ?get ?tk ?ob ?fi ?ty; (case a => k_is); (case L => k_is); (case sa => k_is); (case exC => k_is); (case tyC => k_is); (case kC => k_is); (case sup => ks_is); (case mro => k_is); (case subV => k_is); (case noF => k_is); (case isC => k_is); (case ga => k_is); (case gg => k_is); (case hd => k_is); (case cl => k_is); (case get => k_is); (case tk => k_is); (case ob => k_is); (case fi => k_is); (case ty => k_is); (case rf => decide +kernel)
    case x1 =>
      refine' PY.xcls_mk KX G ?a ?L ?rf ?sa ?exC ?tyC ?kC ?sup ?mro ?subV ?noF ?isC ?ga ?gg ?hd ?cl ?get ?tk ?ob ?fi ?ty; (case a => k_is); (case L => k_is); (case sa => k_is); (case exC => k_is); (case tyC => k_is); (case kC => k_is); (case sup => ks_is); (case mro => k_is); (case subV => k_is); (case noF => k_is); (case isC => k_is); (case ga => k_is); (case gg => k_is); (case hd => k_is); (case cl => k_is); (case get => k_is); (case tk => k_is); (case ob => k_is); (case fi => k_is); (case ty => k_is); (case rf => decide +kernel)
    case x2 =>
      refine' PY.xcls_mk KX G ?a ?L ?rf ?sa ?exC ?tyC ?kC ?sup ?mro ?subV ?noF ?isC ?ga ?gg ?hd ?cl ?get ?tk ?ob ?fi ?ty; (case a => k_is); (case L => k_is); (case sa => k_is); (case exC => k_is); (case tyC => k_is); (case kC => k_is); (case sup => ks_is); (case mro => k_is); (case subV => k_is); (case noF => k_is); (case isC => k_is); (case ga => k_is); (case gg => k_is); (case hd => k_is); (case cl => k_is); (case get => k_is); (case tk => k_is); (case ob => k_is); (case fi => k_is); (case ty => k_is); (case rf => decide +kernel)
    case x3 =>
      refine' PY.xcls_mk KX G ?a ?L ?rf ?sa ?exC ?tyC ?kC ?sup ?mro ?subV ?noF ?isC ?ga ?gg ?hd ?cl ?get ?tk ?ob ?fi ?ty; (case a => k_is); (case L => k_is); (case sa => k_is); (case exC => k_is); (case tyC => k_is); (case kC => k_is); (case sup => ks_is); (case mro => k_is); (case subV => k_is); (case noF => k_is); (case isC => k_is); (case ga => k_is); (case gg => k_is); (case hd => k_is); (case cl => k_is); (case get => k_is); (case tk => k_is); (case ob => k_is); (case fi => k_is); (case ty => k_is); (case rf => decide +kernel)
    case x4 =>
      refine' PY.xcls_mk KX G ?a ?L ?rf ?sa ?exC ?tyC ?kC ?sup ?mro ?subV ?noF ?isC ?ga ?gg ?hd ?cl ?get ?tk ?ob ?fi ?ty; (case a => k_is); (case L => k_is); (case sa => k_is); (case exC => k_is); (case tyC => k_is); (case kC => k_is); (case sup => ks_is); (case mro => k_is); (case subV => k_is); (case noF => k_is); (case isC => k_is); (case ga => k_is); (case gg => k_is); (case hd => k_is); (case cl => k_is); (case get => k_is); (case tk => k_is); (case ob => k_is); (case fi => k_is); (case ty => k_is); (case rf => decide +kernel)
    case x5 =>
      refine' PY.xcls_mk KX G ?a ?L ?rf ?sa ?exC ?tyC ?kC ?sup ?mro ?subV ?noF ?isC ?ga ?gg ?hd ?cl ?get ?tk ?ob ?fi ?ty; (case a => k_is); (case L => k_is); (case sa => k_is); (case exC => k_is); (case tyC => k_is); (case kC => k_is); (case sup => ks_is); (case mro => k_is); (case subV => k_is); (case noF => k_is); (case isC => k_is); (case ga => k_is); (case gg => k_is); (case hd => k_is); (case cl => k_is); (case get => k_is); (case tk => k_is); (case ob => k_is); (case fi => k_is); (case ty => k_is); (case rf => decide +kernel)
    case x6 =>
      refine' PY.xcls_mk KX G ?a ?L ?rf ?sa ?exC ?tyC ?kC ?sup ?mro ?subV ?noF ?isC ?ga ?gg ?hd ?cl ?get ?tk ?ob ?fi ?ty; (case a => k_is); (case L => k_is); (case sa => k_is); (case exC => k_is); (case tyC => k_is); (case kC => k_is); (case sup => ks_is); (case mro => k_is); (case subV => k_is); (case noF => k_is); (case isC => k_is); (case ga => k_is); (case gg => k_is); (case hd => k_is); (case cl => k_is); (case get => k_is); (case tk => k_is); (case ob => k_is); (case fi => k_is); (case ty => k_is); (case rf => decide +kernel)
    case xi =>
      refine' PY.inif_mk ?l ?c ?lc ?hv ?hf ?lcc ?hD ?h1 ?h2 ?h3 ?h4 ?h5 ?h6 ?h7 ?h8 ?h9 ?h10 ?h11 ?h12 ?sup ?st ?top; (case l => k_is); (case c => k_is); (case lc => k_is); (case hv => rfl); (case hf => rfl); (case lcc => k_is); (case hD => k_is); (case h1 => rfl); (case h2 => rfl); (case h3 => rfl); (case h4 => rfl); (case h5 => rfl); (case h6 => rfl); (case h7 => rfl); (case h8 => rfl); (case h9 => rfl); (case h10 => decide); (case h11 => decide); (case h12 => rfl); (case sup => k_is); (case st => k_is); (case top => rfl)
    case xb =>
      refine' PY.inib_mk (its := #[_]) ?lT PY.inib_bind; (case lT => k_is)
    case s0_1 => k_is
    case s1_1 => k_is
    case s2_1 => k_is
    case s3_1 => k_is
    case s4_1 => k_is
    case s5_1 => k_is
    case s6_1 => k_is
    case s0_2 => k_is
    case s1_2 => k_is
    case s2_2 => k_is
    case s3_2 => k_is
    case s4_2 => k_is
    case s5_2 => k_is
    case s6_2 => k_is
    case s0_3 => k_is
    case s1_3 => k_is
    case s2_3 => k_is
    case s3_3 => k_is
    case s4_3 => k_is
    case s5_3 => k_is
    case s6_3 => k_is
    case s0_4 => k_is
    case s1_4 => k_is
    case s2_4 => k_is
    case s3_4 => k_is
    case s4_4 => k_is
    case s5_4 => k_is
    case s6_4 => k_is
    case s0_5 => k_is
    case s1_5 => k_is
    case s2_5 => k_is
    case s3_5 => k_is
    case s4_5 => k_is
    case s5_5 => k_is
    case s6_5 => k_is
    case s0_6 => k_is
    case s1_6 => k_is
    case s2_6 => k_is
    case s3_6 => k_is
    case s4_6 => k_is
    case s5_6 => k_is
    case s6_6 => k_is
    case t0_0 => k_is
    case t1_0 => k_is
    case t2_0 => k_is
    case t3_0 => k_is
    case t4_0 => k_is
    case t5_0 => k_is
    case t6_0 => k_is
    case n0_1 => decide
    case n2_1 => decide
    case n3_1 => decide
    case n4_1 => decide
    case n5_1 => decide
    case n6_1 => decide
    case n0_2 => decide
    case n1_2 => decide
    case n3_2 => decide
    case n4_2 => decide
    case n5_2 => decide
    case n6_2 => decide
    case n0_3 => decide
    case n1_3 => decide
    case n2_3 => decide
    case n4_3 => decide
    case n5_3 => decide
    case n6_3 => decide
    case n0_4 => decide
    case n1_4 => decide
    case n2_4 => decide
    case n3_4 => decide
    case n5_4 => decide
    case n6_4 => decide
    case n0_5 => decide
    case n1_5 => decide
    case n2_5 => decide
    case n3_5 => decide
    case n4_5 => decide
    case n6_5 => decide
    case n0_6 => decide
    case n1_6 => decide
    case n2_6 => decide
    case n3_6 => decide
    case n4_6 => decide
    case n5_6 => decide
    case A =>
      refine PY.all_cons ?_ ?_
      · refine' PY.df_mk (x := "is_whole") (st := PY.k90.top 9) (ps := ["value"]) KX G ?a ?l ?c ?k PY.k90.bi0; (case a => k_is); (case l => k_is); (case c => k_is); (case k => k_is)
      refine PY.all_cons ?_ ?_
      · refine' PY.df_mk (x := "common_divisor") (st := PY.k90.top 10) (ps := ["one", "other"]) KX G ?a ?l ?c ?k PY.k90.bi1; (case a => k_is); (case l => k_is); (case c => k_is); (case k => k_is)
      refine PY.all_cons ?_ ?_
      · refine' PY.df_mk (x := "is_board_by") (st := PY.k90.top 16) (ps := ["value"]) KX G ?a ?l ?c ?k PY.k90.bi2; (case a => k_is); (case l => k_is); (case c => k_is); (case k => k_is)
      refine PY.all_cons ?_ ?_
      · refine' PY.df_mk (x := "check_board") (st := PY.k90.top 17) (ps := ["board"]) KX G ?a ?l ?c ?k PY.k90.bi3; (case a => k_is); (case l => k_is); (case c => k_is); (case k => k_is)
      refine PY.all_cons ?_ ?_
      · refine' PY.df_mk (x := "cells_of") (st := PY.k90.top 18) (ps := ["board"]) KX G ?a ?l ?c ?k PY.k90.bi4; (case a => k_is); (case l => k_is); (case c => k_is); (case k => k_is)
      refine PY.all_cons ?_ ?_
      · refine' PY.df_mk (x := "is_square_by") (st := PY.k90.top 19) (ps := ["board", "value"]) KX G ?a ?l ?c ?k PY.k90.bi5; (case a => k_is); (case l => k_is); (case c => k_is); (case k => k_is)
      refine PY.all_cons ?_ ?_
      · refine' PY.df_mk (x := "is_picture_on") (st := PY.k90.top 20) (ps := ["board", "value"]) KX G ?a ?l ?c ?k PY.k90.bi6; (case a => k_is); (case l => k_is); (case c => k_is); (case k => k_is)
      refine PY.all_cons ?_ ?_
      · refine' PY.df_mk (x := "is_direction_by") (st := PY.k90.top 21) (ps := ["value"]) KX G ?a ?l ?c ?k PY.k90.bi7; (case a => k_is); (case l => k_is); (case c => k_is); (case k => k_is)
      refine PY.all_cons ?_ ?_
      · refine' PY.df_mk (x := "are_directions_by") (st := PY.k90.top 22) (ps := ["value"]) KX G ?a ?l ?c ?k PY.k90.bi8; (case a => k_is); (case l => k_is); (case c => k_is); (case k => k_is)
      refine PY.all_cons ?_ ?_
      · refine' PY.df_mk (x := "check_directions") (st := PY.k90.top 23) (ps := ["directions"]) KX G ?a ?l ?c ?k PY.k90.bi9; (case a => k_is); (case l => k_is); (case c => k_is); (case k => k_is)
      refine PY.all_cons ?_ ?_
      · refine' PY.df_mk (x := "number_of") (st := PY.k90.top 24) (ps := ["direction", "cell"]) KX G ?a ?l ?c ?k PY.k90.bi10; (case a => k_is); (case l => k_is); (case c => k_is); (case k => k_is)
      refine PY.all_cons ?_ ?_
      · refine' PY.df_mk (x := "lines_by") (st := PY.k90.top 25) (ps := ["board", "direction"]) KX G ?a ?l ?c ?k PY.k90.bi11; (case a => k_is); (case l => k_is); (case c => k_is); (case k => k_is)
      refine PY.all_cons ?_ ?_
      · refine' PY.df_mk (x := "all_lines") (st := PY.k90.top 26) (ps := ["board", "directions"]) KX G ?a ?l ?c ?k PY.k90.bi12; (case a => k_is); (case l => k_is); (case c => k_is); (case k => k_is)
      refine PY.all_cons ?_ ?_
      · refine' PY.df_mk (x := "sum_along") (st := PY.k90.top 27) (ps := ["table", "line"]) KX G ?a ?l ?c ?k PY.k90.bi13; (case a => k_is); (case l => k_is); (case c => k_is); (case k => k_is)
      refine PY.all_cons ?_ ?_
      · refine' PY.df_mk (x := "is_cell_of") (st := PY.k90.top 31) (ps := ["board", "value"]) KX G ?a ?l ?c ?k PY.k90.bi14; (case a => k_is); (case l => k_is); (case c => k_is); (case k => k_is)
      refine PY.all_cons ?_ ?_
      · refine' PY.df_mk (x := "is_fact_by") (st := PY.k90.top 32) (ps := ["board", "lines", "value"]) KX G ?a ?l ?c ?k PY.k90.bi15; (case a => k_is); (case l => k_is); (case c => k_is); (case k => k_is)
      refine PY.all_cons ?_ ?_
      · refine' PY.df_mk (x := "are_facts_by") (st := PY.k90.top 33) (ps := ["board", "lines", "value"]) KX G ?a ?l ?c ?k PY.k90.bi16; (case a => k_is); (case l => k_is); (case c => k_is); (case k => k_is)
      refine PY.all_cons ?_ ?_
      · refine' PY.df_mk (x := "check_small") (st := PY.k90.top 34) (ps := ["board", "directions"]) KX G ?a ?l ?c ?k PY.k90.bi17; (case a => k_is); (case l => k_is); (case c => k_is); (case k => k_is)
      refine PY.all_cons ?_ ?_
      · refine' PY.df_mk (x := "are_facts") (st := PY.k90.top 35) (ps := ["board", "directions", "value"]) KX G ?a ?l ?c ?k PY.k90.bi18; (case a => k_is); (case l => k_is); (case c => k_is); (case k => k_is)
      refine PY.all_cons ?_ ?_
      · refine' PY.df_mk (x := "check_facts") (st := PY.k90.top 36) (ps := ["board", "directions", "facts"]) KX G ?a ?l ?c ?k PY.k90.bi19; (case a => k_is); (case l => k_is); (case c => k_is); (case k => k_is)
      refine PY.all_cons ?_ ?_
      · refine' PY.df_mk (x := "keeps") (st := PY.k90.top 37) (ps := ["lines", "picture", "fact"]) KX G ?a ?l ?c ?k PY.k90.bi20; (case a => k_is); (case l => k_is); (case c => k_is); (case k => k_is)
      refine PY.all_cons ?_ ?_
      · refine' PY.df_mk (x := "every_picture") (st := PY.k90.top 38) (ps := ["board"]) KX G ?a ?l ?c ?k PY.k90.bi21; (case a => k_is); (case l => k_is); (case c => k_is); (case k => k_is)
      refine PY.all_cons ?_ ?_
      · refine' PY.df_mk (x := "left_by") (st := PY.k90.top 39) (ps := ["board", "lines", "facts"]) KX G ?a ?l ?c ?k PY.k90.bi22; (case a => k_is); (case l => k_is); (case c => k_is); (case k => k_is)
      refine PY.all_cons ?_ ?_
      · refine' PY.df_mk (x := "left_pictures") (st := PY.k90.top 40) (ps := ["board", "directions", "facts"]) KX G ?a ?l ?c ?k PY.k90.bi23; (case a => k_is); (case l => k_is); (case c => k_is); (case k => k_is)
      refine PY.all_cons ?_ ?_
      · refine' PY.df_mk (x := "how_many_left") (st := PY.k90.top 41) (ps := ["board", "directions", "facts"]) KX G ?a ?l ?c ?k PY.k90.bi24; (case a => k_is); (case l => k_is); (case c => k_is); (case k => k_is)
      refine PY.all_cons ?_ ?_
      · refine' PY.df_mk (x := "sure_by") (st := PY.k90.top 42) (ps := ["board", "pictures"]) KX G ?a ?l ?c ?k PY.k90.bi25; (case a => k_is); (case l => k_is); (case c => k_is); (case k => k_is)
      refine PY.all_cons ?_ ?_
      · refine' PY.df_mk (x := "sure_left") (st := PY.k90.top 43) (ps := ["board", "directions", "facts"]) KX G ?a ?l ?c ?k PY.k90.bi26; (case a => k_is); (case l => k_is); (case c => k_is); (case k => k_is)
      refine PY.all_cons ?_ ?_
      · refine' PY.df_mk (x := "counted") (st := PY.k90.top 44) (ps := ["numbers"]) KX G ?a ?l ?c ?k PY.k90.bi27; (case a => k_is); (case l => k_is); (case c => k_is); (case k => k_is)
      refine PY.all_cons ?_ ?_
      · refine' PY.df_mk (x := "parts_by_line") (st := PY.k90.top 45) (ps := ["board", "directions", "facts", "number"]) KX G ?a ?l ?c ?k PY.k90.bi28; (case a => k_is); (case l => k_is); (case c => k_is); (case k => k_is)
      refine PY.all_cons ?_ ?_
      · refine' PY.df_mk (x := "most_alike") (st := PY.k90.top 46) (ps := ["numbers"]) KX G ?a ?l ?c ?k PY.k90.bi29; (case a => k_is); (case l => k_is); (case c => k_is); (case k => k_is)
      refine PY.all_cons ?_ ?_
      · refine' PY.df_mk (x := "best_among") (st := PY.k90.top 47) (ps := ["lines", "pictures"]) KX G ?a ?l ?c ?k PY.k90.bi30; (case a => k_is); (case l => k_is); (case c => k_is); (case k => k_is)
      refine PY.all_cons ?_ ?_
      · refine' PY.df_mk (x := "best_line") (st := PY.k90.top 48) (ps := ["board", "directions", "facts"]) KX G ?a ?l ?c ?k PY.k90.bi31; (case a => k_is); (case l => k_is); (case c => k_is); (case k => k_is)
      refine PY.all_cons ?_ ?_
      · refine' PY.df_mk (x := "best_cell") (st := PY.k90.top 49) (ps := ["board", "directions", "facts"]) KX G ?a ?l ?c ?k PY.k90.bi32; (case a => k_is); (case l => k_is); (case c => k_is); (case k => k_is)
      refine PY.all_cons ?_ ?_
      · refine' PY.df_mk (x := "check_few") (st := PY.k90.top 52) (ps := ["board", "directions", "facts"]) KX G ?a ?l ?c ?k PY.k90.bi33; (case a => k_is); (case l => k_is); (case c => k_is); (case k => k_is)
      refine PY.all_cons ?_ ?_
      · refine' PY.df_mk (x := "sums_of_all") (st := PY.k90.top 53) (ps := ["lines", "picture"]) KX G ?a ?l ?c ?k PY.k90.bi34; (case a => k_is); (case l => k_is); (case c => k_is); (case k => k_is)
      refine PY.all_cons ?_ ?_
      · refine' PY.df_mk (x := "parted_lots") (st := PY.k90.top 54) (ps := ["sums", "lot", "number"]) KX G ?a ?l ?c ?k PY.k90.bi35; (case a => k_is); (case l => k_is); (case c => k_is); (case k => k_is)
      refine PY.all_cons ?_ ?_
      · refine' PY.df_mk (x := "alike_by") (st := PY.k90.top 56) (ps := ["sums", "pictures"]) KX G ?a ?l ?c ?k PY.k90.bi36; (case a => k_is); (case l => k_is); (case c => k_is); (case k => k_is)
      refine PY.all_cons ?_ ?_
      · refine' PY.df_mk (x := "asks_by") (st := PY.k90.top 57) (ps := ["lines", "pictures"]) KX G ?a ?l ?c ?k PY.k90.bi37; (case a => k_is); (case l => k_is); (case c => k_is); (case k => k_is)
      refine PY.all_cons ?_ ?_
      · refine' PY.df_mk (x := "least_asks") (st := PY.k90.top 58) (ps := ["board", "directions", "facts"]) KX G ?a ?l ?c ?k PY.k90.bi38; (case a => k_is); (case l => k_is); (case c => k_is); (case k => k_is)
      refine PY.all_cons ?_ ?_
      · refine' PY.df_mk (x := "depth_of") (st := PY.k90.top 59) (ps := ["lines", "pictures", "value"]) KX G ?a ?l ?c ?k PY.k90.bi39; (case a => k_is); (case l => k_is); (case c => k_is); (case k => k_is)
      refine PY.all_cons ?_ ?_
      · refine' PY.df_mk (x := "branches_of") (st := PY.k90.top 60) (ps := ["lines", "lot", "tree"]) KX G ?a ?l ?c ?k PY.k90.bi40; (case a => k_is); (case l => k_is); (case c => k_is); (case k => k_is)
      refine PY.all_cons ?_ ?_
      · refine' PY.df_mk (x := "is_asking_tree") (st := PY.k90.top 61) (ps := ["board", "directions", "facts", "value"]) KX G ?a ?l ?c ?k PY.k90.bi41; (case a => k_is); (case l => k_is); (case c => k_is); (case k => k_is)
      refine PY.all_cons ?_ ?_
      · refine' PY.df_mk (x := "is_least_asks") (st := PY.k90.top 62) (ps := ["board", "directions", "facts", "value"]) KX G ?a ?l ?c ?k PY.k90.bi42; (case a => k_is); (case l => k_is); (case c => k_is); (case k => k_is)
      refine PY.all_cons ?_ ?_
      · refine' PY.df_mk (x := "_law_calls") (st := PY.k90.top 64) (ps := []) KX G ?a ?l ?c ?k PY.k90.bi43; (case a => k_is); (case l => k_is); (case c => k_is); (case k => k_is)
      refine PY.all_cons ?_ ?_
      · refine' PY.df_mk (x := "_law_right") (st := PY.k90.top 65) (ps := ["kind"]) KX G ?a ?l ?c ?k PY.k90.bi44; (case a => k_is); (case l => k_is); (case c => k_is); (case k => k_is)
      refine PY.all_cons ?_ ?_
      · refine' PY.df_mk (x := "_law_wrong") (st := PY.k90.top 66) (ps := ["kind"]) KX G ?a ?l ?c ?k PY.k90.bi45; (case a => k_is); (case l => k_is); (case c => k_is); (case k => k_is)
      refine PY.all_cons ?_ ?_
      · refine' PY.df_mk (x := "_law_caught") (st := PY.k90.top 67) (ps := ["call", "parts"]) KX G ?a ?l ?c ?k PY.k90.bi46; (case a => k_is); (case l => k_is); (case c => k_is); (case k => k_is)
      refine PY.all_cons ?_ ?_
      · refine' PY.df_mk (x := "_law_asked") (st := PY.k90.top 68) (ps := ["purse", "call", "words", "wrong"]) KX G ?a ?l ?c ?k PY.k90.bi47; (case a => k_is); (case l => k_is); (case c => k_is); (case k => k_is)
      refine PY.all_cons ?_ ?_
      · refine' PY.df_mk (x := "_law_odd_facts") (st := PY.k90.top 69) (ps := ["board", "lines"]) KX G ?a ?l ?c ?k PY.k90.bi48; (case a => k_is); (case l => k_is); (case c => k_is); (case k => k_is)
      refine PY.all_cons ?_ ?_
      · refine' PY.df_mk (x := "_law_lines") (st := PY.k90.top 70) (ps := ["board", "directions"]) KX G ?a ?l ?c ?k PY.k90.bi49; (case a => k_is); (case l => k_is); (case c => k_is); (case k => k_is)
      refine PY.all_cons ?_ ?_
      · refine' PY.df_mk (x := "_law_purse") (st := PY.k90.top 71) (ps := ["script"]) KX G ?a ?l ?c ?k PY.k90.bi50; (case a => k_is); (case l => k_is); (case c => k_is); (case k => k_is)
      refine PY.all_cons ?_ ?_
      · refine' PY.df_mk (x := "_law_draw") (st := PY.k90.top 72) (ps := ["purse", "many"]) KX G ?a ?l ?c ?k PY.k90.bi51; (case a => k_is); (case l => k_is); (case c => k_is); (case k => k_is)
      refine PY.all_cons ?_ ?_
      · refine' PY.df_mk (x := "_law_pick") (st := PY.k90.top 73) (ps := ["purse", "things"]) KX G ?a ?l ?c ?k PY.k90.bi52; (case a => k_is); (case l => k_is); (case c => k_is); (case k => k_is)
      refine PY.all_cons ?_ ?_
      · refine' PY.df_mk (x := "law") (st := PY.k90.top 74) (ps := ["script"]) KX G ?a ?l ?c ?k PY.k90.bi53; (case a => k_is); (case l => k_is); (case c => k_is); (case k => k_is)
      exact PY.all_nil
    case B =>
      refine PY.all_cons ?_ ?_
      · refine' PySem.W.mg_none_of (n := "ValueError") KX G ?z; (case z => k_is)
      refine PY.all_cons ?_ ?_
      · refine' PySem.W.mg_none_of (n := "abs") KX G ?z; (case z => k_is)
      refine PY.all_cons ?_ ?_
      · refine' PySem.W.mg_none_of (n := "all") KX G ?z; (case z => k_is)
      refine PY.all_cons ?_ ?_
      · refine' PySem.W.mg_none_of (n := "any") KX G ?z; (case z => k_is)
      refine PY.all_cons ?_ ?_
      · refine' PySem.W.mg_none_of (n := "bool") KX G ?z; (case z => k_is)
      refine PY.all_cons ?_ ?_
      · refine' PySem.W.mg_none_of (n := "enumerate") KX G ?z; (case z => k_is)
      refine PY.all_cons ?_ ?_
      · refine' PySem.W.mg_none_of (n := "int") KX G ?z; (case z => k_is)
      refine PY.all_cons ?_ ?_
      · refine' PySem.W.mg_none_of (n := "isinstance") KX G ?z; (case z => k_is)
      refine PY.all_cons ?_ ?_
      · refine' PySem.W.mg_none_of (n := "len") KX G ?z; (case z => k_is)
      refine PY.all_cons ?_ ?_
      · refine' PySem.W.mg_none_of (n := "list") KX G ?z; (case z => k_is)
      refine PY.all_cons ?_ ?_
      · refine' PySem.W.mg_none_of (n := "max") KX G ?z; (case z => k_is)
      refine PY.all_cons ?_ ?_
      · refine' PySem.W.mg_none_of (n := "range") KX G ?z; (case z => k_is)
      refine PY.all_cons ?_ ?_
      · refine' PySem.W.mg_none_of (n := "repr") KX G ?z; (case z => k_is)
      refine PY.all_cons ?_ ?_
      · refine' PySem.W.mg_none_of (n := "set") KX G ?z; (case z => k_is)
      refine PY.all_cons ?_ ?_
      · refine' PySem.W.mg_none_of (n := "sorted") KX G ?z; (case z => k_is)
      refine PY.all_cons ?_ ?_
      · refine' PySem.W.mg_none_of (n := "str") KX G ?z; (case z => k_is)
      refine PY.all_cons ?_ ?_
      · refine' PySem.W.mg_none_of (n := "sum") KX G ?z; (case z => k_is)
      refine PY.all_cons ?_ ?_
      · refine' PySem.W.mg_none_of (n := "tuple") KX G ?z; (case z => k_is)
      exact PY.all_nil
    case G =>
      refine PY.all_cons ?_ ?_
      · refine' PY.gi_mk (n := "MOST_SIDE") (i := 6) KX G ?z; (case z => k_is)
      refine PY.all_cons ?_ ?_
      · refine' PY.gi_mk (n := "MOST_CELLS") (i := 25) KX G ?z; (case z => k_is)
      refine PY.all_cons ?_ ?_
      · refine' PY.gi_mk (n := "MOST_STEP") (i := 3) KX G ?z; (case z => k_is)
      refine PY.all_cons ?_ ?_
      · refine' PY.gi_mk (n := "MOST_DIRECTIONS") (i := 4) KX G ?z; (case z => k_is)
      refine PY.all_cons ?_ ?_
      · refine' PY.gi_mk (n := "MOST_ASKED") (i := 12) KX G ?z; (case z => k_is)
      refine PY.all_cons ?_ ?_
      · refine' PY.gi_mk (n := "MOST_FACTS") (i := 40) KX G ?z; (case z => k_is)
      refine PY.all_cons ?_ ?_
      · refine' PY.gi_mk (n := "MOST_LEFT") (i := 24) KX G ?z; (case z => k_is)
      exact PY.all_nil
