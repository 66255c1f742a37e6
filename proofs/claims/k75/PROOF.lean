import PyProof.Rows.All
import HandS.ForMost
import HandS.ForExc
import HandS.TryMany
import HandS.CallSlots
import HandS.MakeKwOnly
import HandS.Flow
import HandS.IsInst
import HandS.Star
import HandS.Conv
import HandS.Style
import HandS.TupLe
import HandS.SetBool
import HandS.Strs
import HandS.HeadEnd
import HandS.Head2
import HandS.TupMul
import HandS.TupAny
import HandS.AnyAll
import KE.KIndexOf
import HandS.HeadHook4
import HandS.Codes
import PySem.Challenge.RW_fardesk_k75_keyforms_read_back
set_option Elab.async false
set_option linter.all false
set_option maxRecDepth 100000
set_option maxHeartbeats 0
/-! A small language and its pure, deterministic interpreter: values are trees, lists, dicts and instances stand at numbered places. -/
namespace Fx
open PySem L2

inductive PV where
  | non | bl (b : Bool) | int (i : Int) | str (x : Str) | tup (l : List PV) | ref (n : Nat)
  deriving Inhabited

abbrev Sl := List (Option PV)

inductive PO where
  | lst (l : List PV) | rol (l : List PV) | dic (kvs : List (Key × PV)) | ins (c : Nat) (fs : List (Nat × PV))

structure PH where
  m : Nat → Option PO
  n : Nat
  wf : ∀ i, n ≤ i → m i = none

def PH.get (h : PH) (a : Nat) : Option PO := h.m a
def PH.set (h : PH) (a : Nat) (o : PO) : PH where
  m := fun b => if b = a ∧ a < h.n then some o else h.m b
  n := h.n
  wf := fun i hi => by
    have : ¬ (i = a ∧ a < h.n) := fun ⟨e, l⟩ => by omega
    rw [if_neg this]
    exact h.wf i hi
def PH.new (h : PH) (o : PO) : PH where
  m := fun b => if b = h.n then some o else h.m b
  n := h.n + 1
  wf := fun i hi => by
    have : ¬ i = h.n := fun e => by omega
    rw [if_neg this]
    exact h.wf i (by omega)
theorem PH.get_lt {h : PH} {a : Nat} {o : PO} (e : h.get a = some o) : a < h.n := by
  rcases Nat.lt_or_ge a h.n with l | g
  · exact l
  · have := h.wf a g
    unfold PH.get at e
    rw [this] at e
    cases e
theorem PH.get_fresh (h : PH) : h.get h.n = none := h.wf _ (Nat.le_refl _)
theorem PH.get_set_same {h : PH} {a : Nat} {o o' : PO} (e : h.get a = some o') : (h.set a o).get a = some o := by
  show (if a = a ∧ a < h.n then some o else h.m a) = some o
  rw [if_pos ⟨rfl, PH.get_lt e⟩]
theorem PH.get_set_ne {h : PH} {a b : Nat} {o : PO} (e : b ≠ a) : (h.set a o).get b = h.get b := by
  show (if b = a ∧ a < h.n then some o else h.m b) = h.m b
  rw [if_neg fun q => e q.1]
theorem PH.get_new_same {h : PH} {o : PO} : (h.new o).get h.n = some o := by
  show (if h.n = h.n then some o else h.m h.n) = some o
  rw [if_pos rfl]
theorem PH.get_new_ne {h : PH} {b : Nat} {o : PO} (e : b ≠ h.n) : (h.new o).get b = h.get b := by
  show (if b = h.n then some o else h.m b) = h.m b
  rw [if_neg e]
theorem PH.get_new_lt {h : PH} {b : Nat} {o : PO} (e : b < h.n) : (h.new o).get b = h.get b := PH.get_new_ne (by omega)
theorem PH.get_new_of {h : PH} {b : Nat} {o o' : PO} (e : h.get b = some o') : (h.new o).get b = some o' := (PH.get_new_lt (PH.get_lt e)).trans e
theorem PH.set_n (h : PH) (a : Nat) (o : PO) : (h.set a o).n = h.n := rfl
theorem PH.new_n (h : PH) (o : PO) : (h.new o).n = h.n + 1 := rfl

inductive Res (α : Type) where
  | ok (a : α) (h : PH) | exc (c : Nat) (fs : List (Nat × PV)) (h : PH) | no
def Res.bind {α β : Type} (r : Res α) (f : α → PH → Res β) : Res β := match r with
  | .ok a h => f a h
  | .exc c fs h => .exc c fs h
  | .no => .no
def Res.quiet {α : Type} (r : Res α) : Res α := match r with
  | .exc _ _ _ => .no
  | r => r
theorem Res.bind_ok {α β : Type} (a : α) (h : PH) (f : α → PH → Res β) : (Res.ok a h).bind f = f a h := rfl
theorem Res.bind_exc {α β : Type} (c : Nat) (fs : List (Nat × PV)) (h : PH) (f : α → PH → Res β) : (Res.exc c fs h).bind f = .exc c fs h := rfl
theorem Res.bind_no {α β : Type} (f : α → PH → Res β) : (Res.no : Res α).bind f = .no := rfl

/-- a value that may be missing -/
def opt {α : Type} (o : Option α) (h : PH) : Res α := match o with
  | some a => .ok a h
  | none => .no
def alloc (o : PO) (h : PH) : Res PV := .ok (.ref h.n) (h.new o)

def LINE : Nat := 16777216
def FUEL : Nat := 16777216

inductive Bop | add | sub | mul | mod | fdiv | pow
  deriving DecidableEq
inductive Cop | eq | ne | lt | le | gt | ge | is | isnot | isin | notin
  deriving DecidableEq
inductive Ty | int | bool | str | tuple | list
  deriving DecidableEq
inductive Blt | len | int | tuple | list | min2 | max2 | bool
  deriving DecidableEq
inductive Lm | append | extend | index | reverse
  deriving DecidableEq

/-- == of scalars; none where it is not told -/
def eqS : PV → PV → Option Bool
  | .non, .non => some true | .non, .int _ => some false | .int _, .non => some false | .non, .bl _ => some false | .bl _, .non => some false
  | .non, .str _ => some false | .str _, .non => some false
  | .int i, .int j => some (decide (i = j)) | .bl i, .bl j => some (i == j) | .str x, .str y => some (decide (x = y))
  | .int _, .str _ => some false | .str _, .int _ => some false | .bl _, .str _ => some false | .str _, .bl _ => some false
  | _, _ => none
/-- the flat values, as «in» compares them (no bools) -/
def flat : PV → Bool
  | .non => true | .int _ => true | .str _ => true | _ => false
def eqF : PV → PV → Bool
  | .non, .non => true | .int i, .int j => decide (i = j) | .str x, .str y => decide (x = y) | _, _ => false
def smallI (i : Int) : Bool := decide (-(2 ^ 64) < i) && decide (i < 2 ^ 64)

def seqOf (h : PH) : PV → Option (List PV)
  | .tup l => some l
  | .ref a => match h.get a with
    | some (.lst l) => some l
    | some (.rol l) => some l
    | _ => none
  | _ => none
def keyOf : PV → Option Key
  | .int i => some (.inl i)
  | .str x => some (.inr x)
  | _ => none
def findK (kvs : List (Key × PV)) (k : Key) : Option PV := (kvs.find? fun kv => decide (kv.1 = k)).map (·.2)
def putKP (kvs : List (Key × PV)) (k : Key) (v : PV) : List (Key × PV) :=
  if (kvs.any fun kv => decide (kv.1 = k)) = true then kvs.map (fun kv => if kv.1 = k then (kv.1, v) else kv) else kvs ++ [(k, v)]
def putFP (f : Nat) (v : PV) : List (Nat × PV) → List (Nat × PV)
  | [] => [(f, v)]
  | (g, x) :: r => if g = f then (g, v) :: r else (g, x) :: putFP f v r

def truth (h : PH) : PV → Option Bool
  | .non => some false
  | .bl b => some b
  | .int i => some (i != 0)
  | .str x => if x.length ≤ LINE then some ((x.length : Int) != 0) else none
  | .tup l => some (!l.isEmpty)
  | .ref a => match h.get a with
    | some (.lst l) => some (!l.isEmpty)
    | some (.rol l) => some (!l.isEmpty)
    | some (.dic kvs) => some (!kvs.isEmpty)
    | _ => none

def bop (o : Bop) (x y : PV) (h : PH) : Res PV := match o, x, y with
  | .add, .int i, .int j => .ok (.int (i + j)) h
  | .add, .tup xs, .tup ys => if xs.length + ys.length ≤ LINE then .ok (.tup (xs ++ ys)) h else .no
  | .add, .ref a, .ref b => match h.get a, h.get b with
    | some (.lst xs), some (.lst ys) => if xs.length + ys.length ≤ LINE then alloc (.lst (xs ++ ys)) h else .no
    | _, _ => .no
  | .sub, .int i, .int j => .ok (.int (i - j)) h
  | .mul, .int i, .int j => if smallI i ∨ smallI j then .ok (.int (i * j)) h else .no
  | .mod, .int i, .int j => if 0 < j then .ok (.int (i % j)) h else .no
  | .fdiv, .int i, .int j => if 0 < j ∧ j < 1073741824 then .ok (.int (i / j)) h else .no
  | .pow, .int i, .int j => if 0 ≤ j ∧ j ≤ 1000000 ∧ i.natAbs < 2 ^ 64 then .ok (.int (i ^ j.toNat)) h else .no
  | _, _, _ => .no

/-- a comparison's answer -/
def cop (o : Cop) (x y : PV) (h : PH) : Option Bool := match o, x, y with
  | .eq, x, y => eqS x y
  | .ne, x, y => (eqS x y).map fun b => !b
  | .lt, .int i, .int j => some (decide (i < j))
  | .le, .int i, .int j => some (decide (i ≤ j))
  | .gt, .int i, .int j => some (decide (j < i))
  | .ge, .int i, .int j => some (decide (j ≤ i))
  | .is, .non, .non => some true
  | .is, _, .non => some false
  | .is, .bl a, .bl b => some (a == b)
  | .is, .non, .bl _ => some false
  | .is, .int _, .bl _ => some false
  | .is, .str _, .bl _ => some false
  | .is, .tup _, .bl _ => some false
  | .is, .ref _, .bl _ => some false
  | .isnot, .non, .non => some false
  | .isnot, _, .non => some true
  | .isin, x, y => if flat x then match seqOf h y with
    | some l => if l.all flat then some (l.any fun z => eqF z x) else none
    | none => none
    else none
  | .notin, x, y => if flat x then match seqOf h y with
    | some l => if l.all flat then some (!l.any fun z => eqF z x) else none
    | none => none
    else none
  | _, _, _ => none

def isT (h : PH) (t : Ty) (x : PV) : Option Bool := match x with
  | .non => some false
  | .bl _ => some (match t with | .int => true | .bool => true | _ => false)
  | .int _ => some (match t with | .int => true | _ => false)
  | .str _ => some (match t with | .str => true | _ => false)
  | .tup _ => some (match t with | .tuple => true | _ => false)
  | .ref a => match h.get a with
    | some (.lst _) => some (match t with | .list => true | _ => false)
    | some (.dic _) => some false
    | _ => none

def getIx (h : PH) (x i : PV) : Option PV := match i with
  | .int k => match seqOf h x with
    | some l => atI l k
    | none => match x with
      | .ref a => match h.get a with
        | some (.dic kvs) => findK kvs (.inl k)
        | _ => none
      | _ => none
  | .str z => match x with
    | .ref a => match h.get a with
      | some (.dic kvs) => findK kvs (.inr z)
      | _ => none
    | _ => none
  | _ => none
/-- the bounds of a slice -/
def cutP (xs : List PV) (lo hi : Option Int) : List PV := (xs.drop (HT.sIx xs.length 0 lo)).take (HT.sIx xs.length xs.length hi - HT.sIx xs.length 0 lo)
def slice (x : PV) (lo hi : Option Int) (h : PH) : Res PV := match x with
  | .tup l => .ok (.tup (cutP l lo hi)) h
  | .ref a => match h.get a with
    | some (.lst l) => alloc (.lst (cutP l lo hi)) h
    | some (.rol l) => alloc (.lst (cutP l lo hi)) h
    | _ => .no
  | _ => .no

def intsOf : List PV → Option (List Int)
  | [] => some []
  | .int i :: r => (intsOf r).map (i :: ·)
  | _ :: _ => none
def insI (i : Int) : List Int → List Int
  | [] => [i]
  | j :: r => if i ≤ j then i :: j :: r else j :: insI i r
def sortI : List Int → List Int
  | [] => []
  | i :: r => insI i (sortI r)
def dedup : List Int → List Int
  | [] => []
  | i :: r => if r.contains i then dedup r else i :: dedup r

def blt (b : Blt) (vs : List PV) (h : PH) : Res PV := match b, vs with
  | .len, [.str z] => if z.length ≤ LINE then .ok (.int z.length) h else .no
  | .len, [x] => match seqOf h x with
    | some l => .ok (.int l.length) h
    | none => .no
  | .int, [.int i] => .ok (.int i) h
  | .int, [.bl b] => .ok (.int (if b then 1 else 0)) h
  | .bool, [.int i] => .ok (.bl (i != 0)) h
  | .bool, [.bl b] => .ok (.bl b) h
  | .tuple, [x] => match seqOf h x with
    | some l => .ok (.tup l) h
    | none => .no
  | .list, [x] => match seqOf h x with
    | some l => alloc (.lst l) h
    | none => .no
  | .min2, [.int i, .int j] => .ok (.int (if j < i then j else i)) h
  | .max2, [.int i, .int j] => .ok (.int (if j > i then j else i)) h
  | _, _ => .no

/-- the first place of a value -/
def indexP (x : PV) : List PV → Option Nat
  | [] => none
  | y :: r => if eqF y x then some 0 else (indexP x r).map (· + 1)

def lstAt (h : PH) : PV → Option Unit
  | .ref a => match h.get a with
    | some (.lst _) => some ()
    | some (.rol _) => some ()
    | _ => none
  | _ => none
def lmeth (m : Lm) (o : PV) (vs : List PV) (h : PH) : Res PV := match m, o, vs with
  | .append, .ref a, [v] => match h.get a with
    | some (.lst l) => if l.length < LINE then .ok .non (h.set a (.lst (l ++ [v]))) else .no
    | _ => .no
  | .extend, .ref a, [.ref b] => match h.get a, h.get b with
    | some (.lst l), some (.lst r) => if a ≠ b ∧ l.length + r.length ≤ LINE then .ok .non (h.set a (.lst (l ++ r))) else .no
    | _, _ => .no
  | .index, .ref a, [x] => if flat x then match seqOf h (.ref a) with
    | some l => if l.all flat then match indexP x l with
      | some j => .ok (.int j) h
      | none => .no
      else .no
    | none => .no
    else .no
  | .reverse, .ref a, [] => match h.get a with
    | some (.lst l) => .ok .non (h.set a (.lst l.reverse))
    | _ => .no
  | _, _, _ => .no

/-! ### the language -/
inductive P1 where
  | wild | cap (i : Nat) | val (v : PV)
inductive Pt where
  | atom (p : P1) | seq (ps : List P1) | seqs (ps : List P1) | ors (pss : List (List P1)) | orv (vs : List PV)
/-- targets: a name, a field, a tuple of names -/
inductive Tg where
  | name (i : Nat) | names (is : List Nat)
inductive HE where
  | cst (v : PV) | xfld (f : Nat) | xis (c : Nat) | eq (a b : HE) | and (a b : HE) | not (a : HE)

mutual
inductive E where
  | var (i : Nat) | cst (v : PV)
  | bin (o : Bop) (a b : E) | neg (a : E) | not (a : E) | and (a b : E) | or (a b : E)
  | cmp (o : Cop) (a b : E) | chain (o p : Cop) (a b c : E) | ite (c a b : E)
  | tup (es : Es) | lst (es : Es) | dic (ks : List PV) (es : Es) | idx (a i : E) | slc (a : E) (lo hi : Oe) | fld (a : E) (f : Nat)
  | call (f : Nat) (es : Es) (ds : List PV) | meth (o : E) (m : Nat) (es : Es) | mk (c : Nat) (es : Es) (ds : List PV)
  | blt (b : Blt) (es : Es) | lm (m : Lm) (o : E) (es : Es) | isi (a : E) (t : Ty) | tidx (l : List PV) (a : E)
  | lc (own : List Nat) (tg : Tg) (it : It) (cnd : Oe) (elt : E)
  | sortset (i : Nat) (it : It) (cnd : Oe) | lenset (a : E) | lrng1 (a : E) | listrng (a b : E) | allq (f : Nat) (a : E) (c : PV)
inductive Es where
  | nil | cons (e : E) (r : Es) | star (e : E) (r : Es)
inductive Oe where
  | none | some (e : E)
inductive It where
  | seq (e : E) | rng1 (a : E) | rng (a b : E) | enum (e : E)
end
mutual
inductive S where
  | pass | brk | cont | retN | expr (e : E) | set (i : Nat) (e : E) | fset (o : E) (f : Nat) (e : E) | iset (o i e : E)
  | tset (is : List Nat) (e : E) | par (is : List Nat) (es : Es) | ftset (i : Nat) (o : E) (f : Nat) (e : E) (sw : Bool)
  | ret (e : E) | ite (c : E) (a b : Ss) | forr (tg : Tg) (it : It) (b : Ss) | whl (c : E) (b : Ss) | whlw (i : Nat) (e : E) (b : Ss)
  | raise (c : Nat) (es : Es) | mtch (e : E) (cs : Cs) | tryx (b : Ss) (hs : List (Nat × HE))
inductive Ss where
  | nil | cons (s : S) (r : Ss)
inductive Cs where
  | nil | cons (p : Pt) (b : Ss) (r : Cs)
end

structure FD where
  np : Nat
  ns : Nat
  body : Ss
/-- the program: defs, methods by class and name, makers, exception classes (their one field, if any), what «except» takes -/
structure Pg where
  fn : Nat → Option FD
  mt : Nat → Nat → Option Nat
  ini : Nat → Option Nat
  exi : Nat → Option (Option Nat)
  sub : Nat → Nat → Option Bool
  fl : Nat → Nat → Bool
  qf : Nat → List PV → Option Bool

abbrev Rn := Nat → List PV → PH → Res PV

/-! ### iteration -/
inductive Src where
  | vals (l : List PV) | live (a : Nat) | lenum (a : Nat)
def srcOf (h : PH) : PV → Option Src
  | .tup l => some (.vals l)
  | .ref a => match h.get a with
    | some (.lst _) => some (.live a)
    | some (.rol _) => some (.live a)
    | _ => none
  | .str x => some (.vals (x.cps.toList.map fun c => .str ⟨#[c]⟩))
  | _ => none
def enumOf (h : PH) : PV → Option Src
  | .ref a => match h.get a with
    | some (.lst _) => some (.lenum a)
    | some (.rol _) => some (.lenum a)
    | _ => none
  | _ => none
def nxt (s : Src) (i : Nat) (h : PH) : Option (Option PV) := match s with
  | .vals l => some l[i]?
  | .live a => (seqOf h (.ref a)).map fun l => l[i]?
  | .lenum a => (seqOf h (.ref a)).map fun l => l[i]?.map fun x => .tup [.int (i : Int), x]
def fuelOf (s : Src) (h : PH) : Nat := match s with
  | .vals l => l.length
  | .live a => ((seqOf h (.ref a)).map List.length).getD 0
  | .lenum a => ((seqOf h (.ref a)).map List.length).getD 0

def setAll : List Nat → List PV → Sl → Option Sl
  | [], [], σ => some σ
  | i :: is, v :: vs, σ => setAll is vs (σ.set i (some v))
  | _, _, _ => none
def wipeP (σ : Sl) : List Nat → Sl
  | [] => σ
  | v :: vs => (wipeP σ vs).set v none
def bindT (t : Tg) (v : PV) (σ : Sl) : Option Sl := match t with
  | .name i => some (σ.set i (some v))
  | .names is => match v with
    | .tup l => setAll is l σ
    | _ => none
/-- the items that a comprehension makes -/
def loopC (body : PV → PH → Res (Option PV)) (s : Src) : Nat → Nat → List PV → PH → Res (List PV)
  | 0, i, acc, h => match nxt s i h with
    | some none => .ok acc h
    | _ => .no
  | n + 1, i, acc, h => match nxt s i h with
    | some none => .ok acc h
    | some (some x) => (body x h).bind fun r h1 => match r with
      | none => loopC body s n (i + 1) acc h1
      | some v => if acc.length < LINE then loopC body s n (i + 1) (acc ++ [v]) h1 else .no
    | none => .no

/-- a comprehension's turn -/
def cBody (own : List Nat) (tg : Tg) (dt : Sl → PH → Res Bool) (de : Sl → PH → Res PV) (σ : Sl) : PV → PH → Res (Option PV) := fun x h2 => (opt (bindT tg x (wipeP σ own)) h2).bind fun σ' h3 => ((dt σ' h3).quiet).bind fun b h4 => if b = true then ((de σ' h4).quiet).bind fun v h5 => .ok (some v) h5 else .ok none h4
/-! ### expressions -/
section
variable (P : Pg) (rc rm : Rn)
def mfind (o : PV) (m : Nat) (h : PH) : Option Nat := match o with
  | .ref a => match h.get a with
    | some (.ins c _) => P.mt c m
    | _ => none
  | _ => none
def mkObj (c : Nat) (vs : List PV) (h : PH) : Res PV := match P.ini c with
  | some f => (rm f (.ref h.n :: vs) (h.new (.ins c []))).bind fun r h1 => match r with
    | .non => .ok (.ref h.n) h1
    | _ => .no
  | none => .no
def getFld (o : PV) (f : Nat) (h : PH) : Option PV := match o with
  | .ref a => match h.get a with
    | some (.ins _ fs) => fs.lookup f
    | _ => none
  | _ => none
def setFld (o : PV) (f : Nat) (v : PV) (h : PH) : Option PH := match o with
  | .ref a => match h.get a with
    | some (.ins c fs) => if fs.length < 900 ∧ P.fl c f = true then some (h.set a (.ins c (putFP f v fs))) else none
    | _ => none
  | _ => none
def setIx (o i v : PV) (h : PH) : Option PH := match o with
  | .ref a => match h.get a, i with
    | some (.lst l), .int k => match ixN l.length k with
      | some j => some (h.set a (.lst (l.set j v)))
      | none => none
    | some (.dic kvs), i => match keyOf i with
      | some k => if kvs.length < LINE then some (h.set a (.dic (putKP kvs k v))) else none
      | none => none
    | _, _ => none
  | _ => none
/-- a test's value -/
def tru (r : Res PV) : Res Bool := r.bind fun v h => opt (truth h v) h
def rngV (i j : Int) : List PV := (List.range (j - i).toNat).map fun (k : Nat) => .int (i + (k : Int))
def inR (i : Int) : Bool := decide (-(2 ^ 62) ≤ i) && decide (i < 2 ^ 62)

mutual
def ev : E → Sl → PH → Res PV
  | .var i, σ, h => opt (σ[i]?.join) h
  | .cst v, _, h => .ok v h
  | .bin o a b, σ, h => (ev a σ h).bind fun x h1 => (ev b σ h1).bind fun y h2 => bop o x y h2
  | .neg a, σ, h => (ev a σ h).bind fun x h1 => match x with
    | .int i => .ok (.int (-i)) h1
    | _ => .no
  | .not a, σ, h => (tru (ev a σ h)).bind fun b h1 => .ok (.bl (!b)) h1
  | .and a b, σ, h => (ev a σ h).bind fun x h1 => (opt (truth h1 x) h1).bind fun t h2 => if t = true then ev b σ h2 else .ok x h2
  | .or a b, σ, h => (ev a σ h).bind fun x h1 => (opt (truth h1 x) h1).bind fun t h2 => if t = true then .ok x h2 else ev b σ h2
  | .cmp o a b, σ, h => (ev a σ h).bind fun x h1 => (ev b σ h1).bind fun y h2 => (opt (cop o x y h2) h2).bind fun t h3 => .ok (.bl t) h3
  | .chain o p a b c, σ, h => (ev a σ h).bind fun x h1 => (ev b σ h1).bind fun y h2 => (opt (cop o x y h2) h2).bind fun t h3 =>
      if t = true then (ev c σ h3).bind fun z h4 => (opt (cop p y z h4) h4).bind fun t h5 => .ok (.bl t) h5 else .ok (.bl false) h3
  | .ite c a b, σ, h => (tru (ev c σ h)).bind fun t h1 => if t = true then ev a σ h1 else ev b σ h1
  | .tup es, σ, h => (evs es σ h).bind fun vs h1 => if vs.length ≤ LINE then .ok (.tup vs) h1 else .no
  | .lst es, σ, h => (evs es σ h).bind fun vs h1 => if vs.length ≤ LINE then alloc (.lst vs) h1 else .no
  | .dic ks es, σ, h => (evs es σ h).bind fun vs h1 => .no
  | .idx a i, σ, h => (ev a σ h).bind fun x h1 => (ev i σ h1).bind fun y h2 => opt (getIx h2 x y) h2
  | .slc a lo hi, σ, h => (ev a σ h).bind fun x h1 => (evo lo σ h1).bind fun l h2 => (evo hi σ h2).bind fun u h3 => slice x l u h3
  | .fld a f, σ, h => (ev a σ h).bind fun x h1 => opt (getFld x f h1) h1
  | .call f es ds, σ, h => (evs es σ h).bind fun vs h1 => rc f (vs ++ ds) h1
  | .meth o m es, σ, h => (ev o σ h).bind fun x h1 => (opt (mfind P x m h1) h1).bind fun f h2 => (evs es σ h2).bind fun vs h3 => rc f (x :: vs) h3
  | .mk c es ds, σ, h => (evs es σ h).bind fun vs h1 => mkObj P rm c (vs ++ ds) h1
  | .blt b es, σ, h => (evs es σ h).bind fun vs h1 => blt b vs h1
  | .lm m o es, σ, h => (ev o σ h).bind fun x h1 => (opt (lstAt h1 x) h1).bind fun _ h2 => (evs es σ h2).bind fun vs h3 => lmeth m x vs h3
  | .isi a t, σ, h => (ev a σ h).bind fun x h1 => (opt (isT h1 t x) h1).bind fun b h2 => .ok (.bl b) h2
  | .tidx l a, σ, h => (ev a σ h).bind fun x h1 => if flat x ∧ l.all flat then match indexP x l with
      | some j => .ok (.int j) h1
      | none => .no
      else .no
  | .lc own tg it cnd elt, σ, h => (evi it σ h).bind fun s h1 =>
      (loopC (cBody own tg (evt cnd) (ev elt) σ) s (fuelOf s h1) 0 [] h1).bind fun vs h6 => alloc (.lst vs) h6
  | .sortset i it cnd, σ, h => (evi it σ h).bind fun s h1 =>
      (loopC (fun x h2 => ((evt cnd ((σ.set i none).set i (some x)) h2).quiet).bind fun b h3 => if b = true then .ok (some x) h3 else .ok none h3)
        s (fuelOf s h1) 0 [] h1).bind fun vs h4 => match intsOf vs with
          | some ns => if ns.length < 60 then alloc (.lst ((sortI (dedup ns)).map .int)) h4 else .no
          | none => .no
  | .lenset a, σ, h => (ev a σ h).bind fun x h1 => match x with
    | .tup l => match intsOf l with
      | some ns => if ns.length < 60 then .ok (.int (dedup ns).length) h1 else .no
      | none => .no
    | _ => .no
  | .lrng1 a, σ, h => (ev a σ h).bind fun y h2 => match y with
    | .int j => if inR j = true ∧ j.toNat ≤ LINE then alloc (.lst (rngV 0 j)) h2 else .no
    | _ => .no
  | .listrng a b, σ, h => (ev a σ h).bind fun x h1 => (ev b σ h1).bind fun y h2 => match x, y with
    | .int i, .int j => if inR i = true ∧ inR j = true ∧ (j - i).toNat ≤ LINE then alloc (.lst (rngV i j)) h2 else .no
    | _, _ => .no
  | .allq f a c, σ, h => (ev a σ h).bind fun x h1 => match x with
    | .tup l => (opt (l.foldr (fun v r => match P.qf f [v, c] with
        | some true => r
        | some false => if r.isSome then some false else none
        | none => none) (some true)) h1).bind fun b h2 => .ok (.bl b) h2
    | _ => .no
def evs : Es → Sl → PH → Res (List PV)
  | .nil, _, h => .ok [] h
  | .cons e r, σ, h => (ev e σ h).bind fun x h1 => (evs r σ h1).bind fun xs h2 => .ok (x :: xs) h2
  | .star e r, σ, h => (ev e σ h).bind fun x h1 => (opt (seqOf h1 x) h1).bind fun ys h2 => (evs r σ h2).bind fun xs h3 => .ok (ys ++ xs) h3
def evo : Oe → Sl → PH → Res (Option Int)
  | .none, _, h => .ok none h
  | .some e, σ, h => (ev e σ h).bind fun x h1 => match x with
    | .int i => .ok (some i) h1
    | _ => .no
def evt : Oe → Sl → PH → Res Bool
  | .none, _, h => .ok true h
  | .some e, σ, h => tru (ev e σ h)
def evi : It → Sl → PH → Res Src
  | .seq e, σ, h => (ev e σ h).bind fun x h1 => opt (srcOf h1 x) h1
  | .enum e, σ, h => (ev e σ h).bind fun x h1 => opt (enumOf h1 x) h1
  | .rng1 a, σ, h => (ev a σ h).bind fun y h2 => match y with
    | .int j => if inR j = true then .ok (.vals (rngV 0 j)) h2 else .no
    | _ => .no
  | .rng a b, σ, h => (ev a σ h).bind fun x h1 => (ev b σ h1).bind fun y h2 => match x, y with
    | .int i, .int j => if inR i = true ∧ inR j = true then .ok (.vals (rngV i j)) h2 else .no
    | _, _ => .no
end
end

/-! ### statements -/
inductive SR where
  | nx (σ : Sl) (h : PH) | rt (v : PV) (h : PH) | bk (σ : Sl) (h : PH) | ct (σ : Sl) (h : PH) | ex (c : Nat) (fs : List (Nat × PV)) (σ : Sl) (h : PH) | no
def SR.seq (r : SR) (f : Sl → PH → SR) : SR := match r with
  | .nx σ h => f σ h
  | r => r
def ofRes {α : Type} (σ : Sl) (r : Res α) (f : α → PH → SR) : SR := match r with
  | .ok a h => f a h
  | .exc c fs h => .ex c fs σ h
  | .no => .no

def m1 : P1 → PV → Option (Option (List (Nat × PV)))
  | .wild, _ => some (some [])
  | .cap i, v => some (some [(i, v)])
  | .val c, v => (eqS v c).map fun b => if b = true then some [] else none
def mEach : List P1 → List PV → Option (Option (List (Nat × PV)))
  | [], [] => some (some [])
  | p :: ps, v :: vs => match m1 p v with
    | some (some b) => match mEach ps vs with
      | some (some m) => some (some (b ++ m))
      | r => r
    | r => r
  | _, _ => none
def mSeq (ps : List P1) (v : PV) : Option (Option (List (Nat × PV))) := match v with
  | .tup l => if l.length = ps.length then mEach ps l else some none
  | _ => none
def mSeqs (ps : List P1) (v : PV) : Option (Option (List (Nat × PV))) := match v with
  | .tup l => if ps.length ≤ l.length then mEach ps (l.take ps.length) else some none
  | _ => none
def mOrs (v : PV) : List (List P1) → Option (Option (List (Nat × PV)))
  | [] => some none
  | ps :: r => match mSeq ps v with
    | some none => mOrs v r
    | some (some _) => some (some [])
    | none => none
def mOrv (v : PV) : List PV → Option (Option (List (Nat × PV)))
  | [] => some none
  | c :: r => match eqS v c with
    | some true => some (some [])
    | some false => mOrv v r
    | none => none
def mtch (p : Pt) (v : PV) : Option (Option (List (Nat × PV))) := match p with
  | .atom p => m1 p v
  | .seq ps => mSeq ps v
  | .seqs ps => mSeqs ps v
  | .ors pss => mOrs v pss
  | .orv vs => mOrv v vs
def bindAll (bs : List (Nat × PV)) (σ : Sl) : Sl := bs.foldl (fun σ b => σ.set b.1 (some b.2)) σ

/-- an except suite's value -/
def evh (P : Pg) (c : Nat) (fs : List (Nat × PV)) : HE → Option PV
  | .cst v => some v
  | .xfld f => fs.lookup f
  | .xis d => (P.sub c d).map .bl
  | .eq a b => match evh P c fs a, evh P c fs b with
    | some x, some y => (eqS x y).map .bl
    | _, _ => none
  | .and a b => match evh P c fs a with
    | some (.bl true) => evh P c fs b
    | some (.bl false) => some (.bl false)
    | _ => none
  | .not a => match evh P c fs a with
    | some (.bl b) => some (.bl (!b))
    | _ => none
def handle (P : Pg) (c : Nat) (fs : List (Nat × PV)) (σ : Sl) (h : PH) : List (Nat × HE) → SR
  | [] => .ex c fs σ h
  | (d, e) :: r => match P.sub c d with
    | some true => match evh P c fs e with
      | some v => .rt v h
      | none => .no
    | some false => handle P c fs σ h r
    | none => .no

/-- a for: what the body does at each item -/
def loopF (body : PV → Sl → PH → SR) (s : Src) : Nat → Nat → Sl → PH → SR
  | 0, i, σ, h => match nxt s i h with
    | some none => .nx σ h
    | _ => .no
  | n + 1, i, σ, h => match nxt s i h with
    | some none => .nx σ h
    | some (some x) => match body x σ h with
      | .nx σ1 h1 => loopF body s n (i + 1) σ1 h1
      | .ct σ1 h1 => loopF body s n (i + 1) σ1 h1
      | .bk σ1 h1 => .nx σ1 h1
      | r => r
    | none => .no
def loopW (test : Sl → PH → SR) : Nat → Sl → PH → SR
  | 0, _, _ => .no
  | n + 1, σ, h => match test σ h with
    | .nx σ1 h1 => loopW test n σ1 h1
    | .ct σ1 h1 => loopW test n σ1 h1
    | .bk σ1 h1 => .nx σ1 h1
    | r => r

/-- a for's turn, a while's turn -/
def forB (tg : Tg) (f : Sl → PH → SR) : PV → Sl → PH → SR := fun x σ' h' => match bindT tg x σ' with
  | some σ2 => f σ2 h'
  | none => .no
def whB (c : Sl → PH → Res PV) (f : Sl → PH → SR) : Sl → PH → SR := fun σ' h' => ofRes σ' (tru (c σ' h')) fun t h1 => if t = true then f σ' h1 else .bk σ' h1
section
variable (P : Pg) (rc rm : Rn)
mutual
def xs : S → Sl → PH → SR
  | .pass, σ, h => .nx σ h
  | .brk, σ, h => .bk σ h
  | .cont, σ, h => .ct σ h
  | .retN, _, h => .rt .non h
  | .expr e, σ, h => ofRes σ (ev P rc rm e σ h) fun _ h1 => .nx σ h1
  | .set i e, σ, h => ofRes σ (ev P rc rm e σ h) fun v h1 => .nx (σ.set i (some v)) h1
  | .fset o f e, σ, h => ofRes σ (ev P rc rm e σ h) fun v h1 => ofRes σ (ev P rc rm o σ h1) fun x h2 => match setFld P x f v h2 with
    | some h3 => .nx σ h3
    | none => .no
  | .iset o i e, σ, h => ofRes σ (ev P rc rm e σ h) fun v h1 => ofRes σ (ev P rc rm o σ h1) fun x h2 => ofRes σ (ev P rc rm i σ h2) fun y h3 => match setIx x y v h3 with
    | some h4 => .nx σ h4
    | none => .no
  | .tset is e, σ, h => ofRes σ (ev P rc rm e σ h) fun v h1 => match v with
    | .tup l => match setAll is l σ with
      | some σ1 => .nx σ1 h1
      | none => .no
    | _ => .no
  | .par is es, σ, h => ofRes σ (evs P rc rm es σ h) fun vs h1 => match setAll is vs σ with
    | some σ1 => .nx σ1 h1
    | none => .no
  | .ftset i o f e sw, σ, h => .no
  | .ret e, σ, h => ofRes σ (ev P rc rm e σ h) fun v h1 => .rt v h1
  | .ite c a b, σ, h => ofRes σ (tru (ev P rc rm c σ h)) fun t h1 => if t = true then xss a σ h1 else xss b σ h1
  | .forr tg it b, σ, h => ofRes σ (evi P rc rm it σ h) fun s h1 => loopF (forB tg (xss b)) s (fuelOf s h1) 0 σ h1
  | .whl c b, σ, h => loopW (whB (ev P rc rm c) (xss b)) FUEL σ h
  | .whlw i e b, σ, h => loopW (fun σ' h' => ofRes σ' (ev P rc rm e σ' h') fun v h1 => match v with
      | .non => .bk (σ'.set i (some v)) h1
      | v => xss b (σ'.set i (some v)) h1) FUEL σ h
  | .raise c es, σ, h => ofRes σ (evs P rc rm es σ h) fun vs h1 => match P.exi c, vs with
    | some none, [] => .ex c [] σ h1
    | some (some f), [v] => .ex c [(f, v)] σ h1
    | _, _ => .no
  | .mtch e cs, σ, h => ofRes σ (ev P rc rm e σ h) fun v h1 => xcs cs v σ h1
  | .tryx b hs, σ, h => match xss b σ h with
    | .ex c fs σ1 h1 => handle P c fs σ1 h1 hs
    | r => r
def xss : Ss → Sl → PH → SR
  | .nil, σ, h => .nx σ h
  | .cons s r, σ, h => (xs s σ h).seq fun σ1 h1 => xss r σ1 h1
def xcs : Cs → PV → Sl → PH → SR
  | .nil, _, σ, h => .nx σ h
  | .cons p b r, v, σ, h => match mtch p v with
    | some (some bs) => xss b (bindAll bs σ) h
    | some none => xcs r v σ h
    | none => .no
end
end

def fin : SR → Res PV
  | .nx _ h => .ok .non h
  | .rt v h => .ok v h
  | .ex c fs _ h => .exc c fs h
  | _ => .no
/-- a def's body over what its calls and makers do -/
def runF (P : Pg) (rc rm : Rn) : Rn := fun f args h => match P.fn f with
  | some fd => if args.length = fd.np then fin (xss P rc rm fd.body (args.map some ++ List.replicate (fd.ns - fd.np) none) h) else .no
  | none => .no
def run (P : Pg) : Nat → Rn
  | 0 => fun _ _ _ => .no
  | 1 => fun _ _ _ => .no
  | k + 2 => runF P (run P (k + 1)) (run P k)
end Fx

/-! How the small language's states stand in the model's. -/
namespace Fx
open PySem PySem.Spec PyProof.Rows L2

/-- what a program's names stand for -/
structure Glob where
  K : PySem.W.Frag
  P : Pg
  nms : List Str
  mns : List Str
  cm : Nat → Addr
  fa : Nat → Addr
  fd : Nat → FuncData
  ps : Nat → List Str
  nd : nms.Nodup

/-- tuples and locked objects stay -/
structure Keep (H H' : Hp) : Prop where
  tup : ∀ a xs, H a = some (.tup xs) → H' a = some (.tup xs)
  frz : ∀ a o u, H a = some (.frz o u) → H' a = some (.frz o u)
theorem Keep.refl (H : Hp) : Keep H H := ⟨fun _ _ e => e, fun _ _ _ e => e⟩
theorem Keep.trans {H H1 H2 : Hp} (a : Keep H H1) (b : Keep H1 H2) : Keep H H2 := ⟨fun x xs e => b.tup x xs (a.tup x xs e), fun x o u e => b.frz x o u (a.frz x o u e)⟩
theorem Keep.new {H : Hp} {p : Addr} {o : HO} (n : H p = none) : Keep H (upd H p o) :=
  ⟨fun a xs e => by rw [upd_ne (ne_of_none e n)]; exact e, fun a o' u e => by rw [upd_ne (ne_of_none e n)]; exact e⟩
/-- an object that is neither is changed -/
def Soft : Option HO → Prop
  | some (.tup _) => False
  | some (.frz _ _) => False
  | _ => True
theorem Keep.upd {H : Hp} {p : Addr} {o : HO} (n : Soft (H p)) : Keep H (upd H p o) :=
  ⟨fun a xs e => by
    rw [upd_ne fun z => ?_]; exact e
    subst z; rw [e] at n; exact n, fun a o' u e => by
    rw [upd_ne fun z => ?_]; exact e
    subst z; rw [e] at n; exact n⟩
theorem SqT.keep {K : PySem.W.Frag} {H H' : Hp} {a : Addr} {xs : List V} (h : SqT K H a xs) (k : Keep H H') : SqT K H' a xs := by
  rcases h with h | h
  · rcases h with h | ⟨o, h⟩
    · exact .inl (.inl (k.tup _ _ h))
    · exact .inl (.inr ⟨o, k.frz _ _ _ h⟩)
  · exact .inr h

def Le (ρ ρ' : List Addr) : Prop := ∀ (n : Nat) (a : Addr), ρ[n]? = some a → ρ'[n]? = some a
theorem Le.refl (ρ : List Addr) : Le ρ ρ := fun _ _ e => e
theorem Le.trans {ρ ρ1 ρ2 : List Addr} (a : Le ρ ρ1) (b : Le ρ1 ρ2) : Le ρ ρ2 := fun n x e => b n x (a n x e)
theorem Le.app (ρ : List Addr) (t : List Addr) : Le ρ (ρ ++ t) := fun n a e => by
  obtain ⟨h, _⟩ := List.getElem?_eq_some_iff.mp e
  rw [List.getElem?_append_left h]
  exact e

/-- what a piece of code leaves: tracked objects may change, what is not tracked stays; what comes is new -/
structure Frm (ρ : List Addr) (H : Hp) (ρ' : List Addr) (H' : Hp) : Prop extends Keep H H' where
  new : ∀ a ∈ ρ', a ∈ ρ ∨ H a = none
  same : ∀ a, a ∉ ρ → H a ≠ none → H' a = H a
instance {ρ : List Addr} {H : Hp} {ρ' : List Addr} {H' : Hp} : CoeOut (Frm ρ H ρ' H') (Keep H H') := ⟨Frm.toKeep⟩
theorem Frm.refl (ρ : List Addr) (H : Hp) : Frm ρ H ρ H := ⟨Keep.refl H, fun _ h => .inl h, fun _ _ _ => rfl⟩
theorem Frm.trans {ρ ρ1 ρ2 : List Addr} {H H1 H2 : Hp} (a : Frm ρ H ρ1 H1) (b : Frm ρ1 H1 ρ2 H2) : Frm ρ H ρ2 H2 := by
  refine ⟨a.toKeep.trans b.toKeep, fun x hx => ?_, fun x hx hn => ?_⟩
  · rcases b.new x hx with h | h
    · exact a.new x h
    · by_cases hm : x ∈ ρ
      · exact .inl hm
      · refine .inr ?_
        by_cases hn : H x = none
        · exact hn
        · rw [a.same x hm hn] at h; exact absurd h hn
  · have h1 := a.same x hx hn
    rw [b.same x (fun hm => ?_) (by rw [h1]; exact hn), h1]
    rcases a.new x hm with h | h
    · exact hx h
    · exact hn h
theorem Frm.lay {ρ : List Addr} {H : Hp} {p : Addr} {o : HO} (n : H p = none) : Frm ρ H ρ (upd H p o) := ⟨.new n, fun _ h => .inl h, fun a _ h => upd_ne fun z => h (z ▸ n)⟩
theorem Frm.alloc {ρ : List Addr} {H : Hp} {p : Addr} {o : HO} (n : H p = none) : Frm ρ H (ρ ++ [p]) (upd H p o) :=
  ⟨.new n, fun a h => (List.mem_append.mp h).imp id fun z => by rw [List.mem_singleton.mp z]; exact n, fun a _ h => upd_ne fun z => h (z ▸ n)⟩
theorem Frm.write {ρ : List Addr} {H : Hp} {p : Addr} {o : HO} (hp : p ∈ ρ) (sf : Soft (H p)) : Frm ρ H ρ (upd H p o) := ⟨.upd sf, fun _ h => .inl h, fun a h _ => upd_ne fun z => h (z ▸ hp)⟩

mutual
inductive VR (K : PySem.W.Frag) (ρ : List Addr) (H : Hp) : PV → V → Prop
  | non : VR K ρ H .non .non
  | bl (b : Bool) : VR K ρ H (.bl b) (.bl b)
  | int (i : Int) : VR K ρ H (.int i) (.int i)
  | str (x : Str) : VR K ρ H (.str x) (.str x)
  | tup {l : List PV} {a : Addr} {vs : List V} : SqT K H a vs → VRs K ρ H l vs → VR K ρ H (.tup l) (.ref a)
  | ref {n : Nat} {a : Addr} : ρ[n]? = some a → VR K ρ H (.ref n) (.ref a)
inductive VRs (K : PySem.W.Frag) (ρ : List Addr) (H : Hp) : List PV → List V → Prop
  | nil : VRs K ρ H [] []
  | cons {p : PV} {v : V} {l : List PV} {vs : List V} : VR K ρ H p v → VRs K ρ H l vs → VRs K ρ H (p :: l) (v :: vs)
end
section
variable {K : PySem.W.Frag} {ρ ρ' : List Addr} {H H' : Hp}
mutual
theorem VR.mono (le : Le ρ ρ') (k : Keep H H') : ∀ {p : PV} {v : V}, VR K ρ H p v → VR K ρ' H' p v
  | _, _, .non => .non
  | _, _, .bl b => .bl b
  | _, _, .int i => .int i
  | _, _, .str x => .str x
  | _, _, .tup h r => .tup (SqT.keep h k) (VRs.mono le k r)
  | _, _, .ref e => .ref (le _ _ e)
theorem VRs.mono (le : Le ρ ρ') (k : Keep H H') : ∀ {l : List PV} {vs : List V}, VRs K ρ H l vs → VRs K ρ' H' l vs
  | _, _, .nil => .nil
  | _, _, .cons h r => .cons (VR.mono le k h) (VRs.mono le k r)
end
theorem VRs.length : ∀ {l : List PV} {vs : List V}, VRs K ρ H l vs → l.length = vs.length
  | _, _, .nil => rfl
  | _, _, .cons _ r => congrArg Nat.succ (VRs.length r)
theorem VRs.append : ∀ {l r : List PV} {vs ws : List V}, VRs K ρ H l vs → VRs K ρ H r ws → VRs K ρ H (l ++ r) (vs ++ ws)
  | _, _, _, _, .nil, s => s
  | _, _, _, _, .cons h t, s => .cons h (VRs.append t s)
theorem VRs.get : ∀ {l : List PV} {vs : List V} {i : Nat} {p : PV}, VRs K ρ H l vs → l[i]? = some p → ∃ v, vs[i]? = some v ∧ VR K ρ H p v
  | _, _, _, _, .nil, e => by simp at e
  | _, _, 0, _, .cons h _, e => by simp at e; subst e; exact ⟨_, rfl, h⟩
  | _, _, i + 1, p, .cons _ t, e => by
    obtain ⟨v, h1, h2⟩ := VRs.get (i := i) (p := p) t (by simpa using e)
    exact ⟨v, by simpa using h1, h2⟩
theorem VRs.none : ∀ {l : List PV} {vs : List V} {i : Nat}, VRs K ρ H l vs → l[i]? = none → vs[i]? = none := fun r e => by
  have := r.length
  have h2 := List.getElem?_eq_none_iff.mp e
  exact List.getElem?_eq_none_iff.mpr (by omega)
theorem VRs.take : ∀ {l : List PV} {vs : List V} (n : Nat), VRs K ρ H l vs → VRs K ρ H (l.take n) (vs.take n)
  | _, _, 0, _ => .nil
  | _, _, _ + 1, .nil => .nil
  | _, _, n + 1, .cons h t => .cons h (VRs.take n t)
theorem VRs.drop : ∀ {l : List PV} {vs : List V} (n : Nat), VRs K ρ H l vs → VRs K ρ H (l.drop n) (vs.drop n)
  | _, _, 0, h => h
  | _, _, _ + 1, .nil => .nil
  | _, _, n + 1, .cons _ t => VRs.drop n t
theorem VRs.set {p : PV} {v : V} (h : VR K ρ H p v) : ∀ {l : List PV} {vs : List V} (i : Nat), VRs K ρ H l vs → VRs K ρ H (l.set i p) (vs.set i v)
  | _, _, _, .nil => .nil
  | _, _, 0, .cons _ t => .cons h t
  | _, _, i + 1, .cons q t => .cons q (VRs.set h i t)
theorem VRs.reverse {l : List PV} {vs : List V} (h : VRs K ρ H l vs) : VRs K ρ H l.reverse vs.reverse := by
  induction l generalizing vs with
  | nil => cases h; exact .nil
  | cons p l ih =>
    cases h with
    | cons a b =>
      rw [List.reverse_cons, List.reverse_cons]
      exact (ih b).append (.cons a .nil)
theorem VR.int_inv {i : Int} {v : V} (h : VR K ρ H (.int i) v) : v = .int i := by cases h; rfl
theorem VR.bl_inv {b : Bool} {v : V} (h : VR K ρ H (.bl b) v) : v = .bl b := by cases h; rfl
theorem VR.str_inv {x : Str} {v : V} (h : VR K ρ H (.str x) v) : v = .str x := by cases h; rfl
theorem VR.non_inv {v : V} (h : VR K ρ H .non v) : v = .non := by cases h; rfl
theorem VR.ref_inv {n : Nat} {v : V} (h : VR K ρ H (.ref n) v) : ∃ a, v = .ref a ∧ ρ[n]? = some a := by cases h; exact ⟨_, rfl, by assumption⟩
theorem VR.tup_inv {l : List PV} {v : V} (h : VR K ρ H (.tup l) v) : ∃ a vs, v = .ref a ∧ SqT K H a vs ∧ VRs K ρ H l vs := by cases h; exact ⟨_, _, rfl, by assumption, by assumption⟩
theorem VRs.cons_inv {p : PV} {l : List PV} {vs : List V} (h : VRs K ρ H (p :: l) vs) : ∃ v r, vs = v :: r ∧ VR K ρ H p v ∧ VRs K ρ H l r := by cases h; exact ⟨_, _, rfl, by assumption, by assumption⟩
theorem VRs.nil_inv {vs : List V} (h : VRs K ρ H [] vs) : vs = [] := by cases h; rfl
theorem VRs.ints {ns : List Int} : ∀ {vs : List V}, VRs K ρ H (ns.map PV.int) vs → vs = ns.map V.int := by
  induction ns with
  | nil => intro vs h; exact h.nil_inv
  | cons n ns ih =>
    intro vs h
    obtain ⟨v, r, rfl, h1, h2⟩ := h.cons_inv
    rw [h1.int_inv, ih h2]
    rfl
theorem VRs.of_ints (ns : List Int) : VRs K ρ H (ns.map PV.int) (ns.map V.int) := by
  induction ns with
  | nil => exact .nil
  | cons n ns ih => exact .cons (.int n) ih
end

/-- pairs by a key, related -/
def KVR {κ μ : Type} (T : κ → μ → Prop) (K : PySem.W.Frag) (ρ : List Addr) (H : Hp) : List (κ × PV) → List (μ × V) → Prop := Paired fun p q => T p.1 q.1 ∧ VR K ρ H p.2 q.2
theorem KVR.mono {κ μ : Type} {T : κ → μ → Prop} {K : PySem.W.Frag} {ρ ρ' : List Addr} {H H' : Hp} (le : Le ρ ρ') (k : Keep H H') {l : List (κ × PV)} {r : List (μ × V)} (h : KVR T K ρ H l r) : KVR T K ρ' H' l r :=
  Paired.mapP h fun _ _ q => ⟨q.1, q.2.mono le k⟩

section
variable (G : Glob)
/-- an object, as it stands at a -/
def OR (ρ : List Addr) (H : Hp) (o : PO) (a : Addr) : Prop := match o with
  | .lst l => ∃ vs, H a = some (.lst vs) ∧ VRs G.K ρ H l vs
  | .rol l => ∃ o vs, H a = some (.frz o (.lst vs)) ∧ VRs G.K ρ H l vs
  | .dic kvs => ∃ ws, H a = some (.dK ws) ∧ KVR (· = ·) G.K ρ H kvs ws
  | .ins c fs => ∃ dx ws, H a = some (.ins (G.cm c) dx ws) ∧ Cls G.K (G.cm c) ∧ KVR (fun f name => G.nms[f]? = some name ∧ NoAttr G.K (G.cm c) name) G.K ρ H fs ws
structure HR (ρ : List Addr) (h : PH) (H : Hp) : Prop where
  len : ρ.length = h.n
  nd : ρ.Nodup
  obj : ∀ (n : Nat) (o : PO), h.get n = some o → ∃ a, ρ[n]? = some a ∧ OR G ρ H o a
  full : ∀ a ∈ ρ, H a ≠ none
end
section
variable {G : Glob} {ρ ρ' : List Addr} {h : PH} {H H' : Hp}
theorem OR.carry {o : PO} {a : Addr} (x : OR G ρ H o a) (le : Le ρ ρ') (k : Keep H H') (e : H' a = H a) : OR G ρ' H' o a := by
  cases o with
  | lst l => obtain ⟨vs, h1, h2⟩ := x; exact ⟨vs, e.trans h1, h2.mono le k⟩
  | rol l => obtain ⟨o, vs, h1, h2⟩ := x; exact ⟨o, vs, e.trans h1, h2.mono le k⟩
  | dic kvs => obtain ⟨ws, h1, h2⟩ := x; exact ⟨ws, e.trans h1, h2.mono le k⟩
  | ins c fs => obtain ⟨dx, ws, h1, hc, h2⟩ := x; exact ⟨dx, ws, e.trans h1, hc, h2.mono le k⟩
theorem HR.at_ (r : HR G ρ h H) {n : Nat} {o : PO} {a : Addr} (e : h.get n = some o) (ea : ρ[n]? = some a) : OR G ρ H o a := by
  obtain ⟨b, h1, h2⟩ := r.obj n o e
  rw [ea] at h1
  cases h1
  exact h2
theorem HR.some_ (r : HR G ρ h H) {n : Nat} {o : PO} (e : h.get n = some o) : ∃ a, ρ[n]? = some a ∧ OR G ρ H o a := r.obj n o e
/-- the concrete heap has changed elsewhere -/
theorem HR.keep (r : HR G ρ h H) (k : Keep H H') (e : ∀ a ∈ ρ, H' a = H a) : HR G ρ h H' :=
  ⟨r.len, r.nd, fun n o q => by
    obtain ⟨a, h1, h2⟩ := r.obj n o q
    exact ⟨a, h1, h2.carry (Le.refl _) k (e a (List.mem_of_getElem? h1))⟩, fun a ha => by rw [e a ha]; exact r.full a ha⟩
theorem HR.fresh (r : HR G ρ h H) {p : Addr} (n : H p = none) : p ∉ ρ := fun hp => r.full p hp n
/-- something that is not tracked here is laid -/
theorem HR.other (r : HR G ρ h H) {p : Addr} {o : HO} (n : H p = none) : HR G ρ h (upd H p o) :=
  r.keep (.new n) fun a ha => upd_ne fun z => by subst z; exact r.fresh n ha
/-- a new object -/
theorem HR.new (r : HR G ρ h H) {p : Addr} {o : PO} {ho : HO} (n : H p = none) (hor : OR G (ρ ++ [p]) (upd H p ho) o p) : HR G (ρ ++ [p]) (h.new o) (upd H p ho) := by
  have hp := r.fresh n
  refine ⟨by rw [List.length_append, r.len]; rfl, ?_, fun i o' e => ?_, fun a ha => ?_⟩
  · rw [List.nodup_append]
    exact ⟨r.nd, by simp, fun a ha b hb => by simp at hb; subst hb; exact fun z => hp (z ▸ ha)⟩
  · by_cases hi : i = h.n
    · subst hi
      rw [PH.get_new_same] at e
      cases e
      refine ⟨p, ?_, hor⟩
      rw [← r.len]
      simp
    · rw [PH.get_new_ne hi] at e
      obtain ⟨a, h1, h2⟩ := r.obj i o' e
      exact ⟨a, Le.app _ _ _ _ h1, h2.carry (Le.app _ _) (.new n) (upd_ne fun z => hp (z ▸ List.mem_of_getElem? h1))⟩
  · rcases List.mem_append.mp ha with hb | hb
    · have ne : a ≠ p := fun z => hp (by rw [← z]; exact hb)
      rw [upd_ne ne]
      exact r.full a hb
    · have e : a = p := by simpa using hb
      rw [e, upd_same]
      exact fun z => nomatch z
/-- an object is written -/
theorem HR.set (r : HR G ρ h H) {i : Nat} {a : Addr} {o o' : PO} {ho : HO} (e : h.get i = some o) (ea : ρ[i]? = some a) (sf : Soft (H a)) (hor : OR G ρ (upd H a ho) o' a) : HR G ρ (h.set i o') (upd H a ho) := by
  refine ⟨r.len, r.nd, fun j u ej => ?_, fun b hb => ?_⟩
  · by_cases hj : j = i
    · subst hj
      rw [PH.get_set_same e] at ej
      cases ej
      exact ⟨a, ea, hor⟩
    · rw [PH.get_set_ne hj] at ej
      obtain ⟨b, h1, h2⟩ := r.obj j u ej
      refine ⟨b, h1, h2.carry (Le.refl _) (.upd sf) (upd_ne fun z => hj ?_)⟩
      subst z
      obtain ⟨l1, e1⟩ := List.getElem?_eq_some_iff.mp h1
      obtain ⟨l2, e2⟩ := List.getElem?_eq_some_iff.mp ea
      exact (List.getElem_inj r.nd).mp (e1.trans e2.symm)
  · by_cases hb2 : b = a
    · rw [hb2, upd_same]
      exact fun z => nomatch z
    · rw [upd_ne hb2]
      exact r.full b hb
end

/-! ### slots, results -/
section
variable (G : Glob)
def SlR (ρ : List Addr) (H : Hp) (sp : Sl) (σ : L2.St) : Prop := sp.length = σ.length ∧ ∀ (i : Nat) (p : PV), sp[i]? = some (some p) → ∃ v, σ[i]? = some (some v) ∧ VR G.K ρ H p v
/-- an exception: its class, its own dict -/
def ER (ρ : List Addr) (H : Hp) (c : Nat) (fs : List (Nat × PV)) (cls : Value) (d : Option Addr) : Prop := cls = .ref (G.cm c) ∧ match fs with
  | [] => True
  | [(f, p)] => ∃ dd name v, d = some dd ∧ G.nms[f]? = some name ∧ H dd = some (.xd [(name, v)]) ∧ VR G.K ρ H p v
  | _ => False
/-- what is wanted of a result -/
def Post {α β : Type} (W : XK) (ρ : List Addr) (H : Hp) (rel : List Addr → Hp → α → β → Prop) (r : Res α) (Q : β → Hp → Prop) : Prop := match r with
  | .ok a h' => ∀ ρ' H' b, Le ρ ρ' → Frm ρ H ρ' H' → HR G ρ' h' H' → rel ρ' H' a b → Q b H'
  | .exc c fs h' => ∀ ρ' H' cls d, Le ρ ρ' → Frm ρ H ρ' H' → HR G ρ' h' H' → ER G ρ' H' c fs cls d → W cls d H'
  | .no => False
/-- what holds of a result (the other way round): used to give results -/
def relV (ρ : List Addr) (H : Hp) (p : PV) (v : V) : Prop := VR G.K ρ H p v
def relVs (ρ : List Addr) (H : Hp) (p : List PV) (v : List V) : Prop := VRs G.K ρ H p v
def relB (_ : List Addr) (_ : Hp) (p : Bool) (v : Bool) : Prop := p = v
def relOI (_ : List Addr) (_ : Hp) (p : Option Int) (v : Option Int) : Prop := p = v
end
section
variable {G : Glob} {α β γ δ : Type} {W : XK} {ρ ρ1 : List Addr} {H H1 : Hp} {rel : List Addr → Hp → α → β → Prop} {rel2 : List Addr → Hp → γ → δ → Prop} {Q : β → Hp → Prop} {Q2 : δ → Hp → Prop}
theorem SlR.mono {sp : Sl} {σ : L2.St} (s : SlR G ρ H sp σ) (le : Le ρ ρ1) (k : Keep H H1) : SlR G ρ1 H1 sp σ := ⟨s.1, fun i p e => by
  obtain ⟨v, h1, h2⟩ := s.2 i p e
  exact ⟨v, h1, h2.mono le k⟩⟩
theorem SlR.set {sp : Sl} {σ : L2.St} (s : SlR G ρ H sp σ) (i : Nat) {p : PV} {v : V} (r : VR G.K ρ H p v) : SlR G ρ H (sp.set i (some p)) (σ.set i (some v)) := by
  refine ⟨by simp [s.1], fun j q e => ?_⟩
  by_cases hj : i = j
  · subst hj
    by_cases hl : i < sp.length
    · rw [List.getElem?_set_self hl] at e
      cases e
      exact ⟨v, by rw [List.getElem?_set_self (by rw [← s.1]; exact hl)], r⟩
    · rw [List.getElem?_eq_none (by simpa using hl)] at e
      cases e
  · rw [List.getElem?_set_ne hj] at e ⊢
    exact s.2 j q e
theorem SlR.wipe {sp : Sl} {σ : L2.St} (s : SlR G ρ H sp σ) (i : Nat) : SlR G ρ H (sp.set i none) (σ.set i none) := by
  refine ⟨by simp [s.1], fun j q e => ?_⟩
  by_cases hj : i = j
  · subst hj
    by_cases hl : i < sp.length
    · rw [List.getElem?_set_self hl] at e
      cases e
    · rw [List.getElem?_eq_none (by simpa using hl)] at e
      cases e
  · rw [List.getElem?_set_ne hj] at e ⊢
    exact s.2 j q e
theorem Post.base {r : Res α} (p : Post G W ρ H rel r Q) (le : Le ρ ρ1) (k : Frm ρ H ρ1 H1) : Post G W ρ1 H1 rel r Q := by
  cases r with
  | ok a h' => exact fun ρ' H' b l2 k2 => p ρ' H' b (le.trans l2) (k.trans k2)
  | exc c fs h' => exact fun ρ' H' cls d l2 k2 => p ρ' H' cls d (le.trans l2) (k.trans k2)
  | no => exact p
theorem Post.imp {r : Res α} {Q' : β → Hp → Prop} (p : Post G W ρ H rel r Q) (f : ∀ b H', Q b H' → Q' b H') : Post G W ρ H rel r Q' := by
  cases r with
  | ok a h' => exact fun ρ' H' b l2 k2 x y => f b H' (p ρ' H' b l2 k2 x y)
  | exc c fs h' => exact p
  | no => exact p
theorem Post.bind {r : Res α} {f : α → PH → Res γ} {Q : β → Hp → Prop} (p : Post G W ρ H rel2 (r.bind f) Q2)
    (k : ∀ a h1 ρ1 H1 b, r = .ok a h1 → Le ρ ρ1 → Frm ρ H ρ1 H1 → HR G ρ1 h1 H1 → rel ρ1 H1 a b → Post G W ρ1 H1 rel2 (f a h1) Q2 → Q b H1) : Post G W ρ H rel r Q := by
  cases r with
  | ok a h1 => exact fun ρ1 H1 b le kp hr rl => k a h1 ρ1 H1 b rfl le kp hr rl (Post.base (show Post G W ρ H rel2 (f a h1) Q2 from p) le kp)
  | exc c fs h1 => exact p
  | no => exact p
/-- a value given at once -/
theorem Post.now {a : α} {h : PH} {b : β} (p : Post G W ρ H rel (.ok a h) Q) (hr : HR G ρ h H) (r : rel ρ H a b) : Q b H := p ρ H b (Le.refl _) (Frm.refl _ _) hr r
theorem Post.opt {o : Option α} {h : PH} (p : Post G W ρ H rel (opt o h) Q) : ∃ a, o = some a ∧ Post G W ρ H rel (.ok a h) Q := by
  cases o with
  | some a => exact ⟨a, rfl, p⟩
  | none => exact False.elim p
theorem Post.optBind {o : Option α} {h : PH} {f : α → PH → Res γ} (p : Post G W ρ H rel2 ((Fx.opt o h).bind f) Q2) : ∃ a, o = some a ∧ Post G W ρ H rel2 (f a h) Q2 := by
  cases o with
  | some a => exact ⟨a, rfl, p⟩
  | none => exact False.elim p
end

/-- an expression's reading, by what it does -/
def tD (G : Glob) (W : WX) (d : Sl → PH → Res PV) : TE := fun σ H Q => ∃ ρ sp h, SlR G ρ H sp σ ∧ HR G ρ h H ∧ Post G (fun cls e H' => W cls e σ H') ρ H (relV G) (d sp h) Q
def tDT (G : Glob) (W : WX) (d : Sl → PH → Res Bool) : TT := fun σ H Q => ∃ ρ sp h, SlR G ρ H sp σ ∧ HR G ρ h H ∧ Post G (fun cls e H' => W cls e σ H') ρ H relB (d sp h) Q
def tDA (G : Glob) (W : WX) (d : Sl → PH → Res (List PV)) : TA := fun σ H Q => ∃ ρ sp h, SlR G ρ H sp σ ∧ HR G ρ h H ∧ Post G (fun cls e H' => W cls e σ H') ρ H (relVs G) (d sp h) Q
def tDO (G : Glob) (W : WX) (d : Sl → PH → Res (Option Int)) : TO := fun σ H Q => ∃ ρ sp h, SlR G ρ H sp σ ∧ HR G ρ h H ∧ Post G (fun cls e H' => W cls e σ H') ρ H relOI (d sp h) Q
theorem PE.weak {X : Cx} {e : Expr} {t t' : TE} (p : PE X e t) (f : ∀ σ H Q, t' σ H Q → t σ H Q) : PE X e t' := ⟨fun pins s σ H Q I h => p.run pins s σ H Q I (f _ _ _ h)⟩
theorem PT.weak {X : Cx} {e : Expr} {t t' : TT} (p : PT X e t) (f : ∀ σ H Q, t' σ H Q → t σ H Q) : PT X e t' := ⟨fun pins s σ H Q I h => p.run pins s σ H Q I (f _ _ _ h)⟩
theorem PW.weak {X : Cx} {e : Expr} {t t' : TT} (p : PW X e t) (f : ∀ σ H Q, t' σ H Q → t σ H Q) : PW X e t' := ⟨fun wh pins s σ H Q I h => p.run wh pins s σ H Q I (f _ _ _ h)⟩
theorem PA.weak {X : Cx} {e : List Expr} {t t' : TA} (p : PA X e t) (f : ∀ σ H Q, t' σ H Q → t σ H Q) : PA X e t' := ⟨fun ps pins s σ H Q I h => p.run ps pins s σ H Q I (f _ _ _ h)⟩
theorem PS.weak {X : Cx} {e : Stmt} {t t' : TS} (p : PS X e t) (f : ∀ D σ H, t' D σ H → t D σ H) : PS X e t' := ⟨fun pins s σ H D I h => p.run pins s σ H D I (f _ _ _ h)⟩
theorem PSs.weak {X : Cx} {e : List Stmt} {t t' : TS} (p : PSs X e t) (f : ∀ D σ H, t' D σ H → t D σ H) : PSs X e t' := ⟨fun pins s σ H D I h => p.run pins s σ H D I (f _ _ _ h)⟩
end Fx

/-! The small language's expressions, each by its rule. -/
namespace Fx
open PySem PySem.Spec PyProof.Rows L2
abbrev Dn := Sl → PH → Res PV
section
variable {G : Glob} {X : Cx} {W : WX} {a b c : Expr} {da db dc : Dn} {pos p1 p2 : Pos}

theorem LINE_eq : LINE = sizeLine := by rw [sizeLine_eq]; rfl
/-! ### operators -/
def rD (G : Glob) (f : PV → PV → PH → Res PV) : R2 := fun x y H Q => ∃ Wx ρ h p q, HR G ρ h H ∧ VR G.K ρ H p x ∧ VR G.K ρ H q y ∧ Post G Wx ρ H (relV G) (f p q h) Q
def rDC (G : Glob) (f : List PV → PH → Res PV) : List V → Hp → VK → Prop := fun xs H Q => ∃ Wx ρ h ps, HR G ρ h H ∧ VRs G.K ρ H ps xs ∧ Post G Wx ρ H (relV G) (f ps h) Q
def d2 (f : PV → PV → PH → Res PV) (da db : Dn) : Dn := fun σ h => (da σ h).bind fun x h1 => (db σ h1).bind fun y h2 => f x y h2
theorem to2 {f : PV → PV → PH → Res PV} {σ : L2.St} {H : Hp} {Q : VK} (h : tD G W (d2 f da db) σ H Q) : tOp (rD G f) (tD G W da) (tD G W db) σ H Q := by
  obtain ⟨ρ, sp, h, sl, hr, p⟩ := h
  exact ⟨ρ, sp, h, sl, hr, p.bind fun x h1 ρ1 H1 v _ le k hr1 rx p1 => ⟨ρ1, sp, h1, sl.mono le k, hr1, p1.bind fun y h2 ρ2 H2 u _ le2 k2 hr2 ry p2 => ⟨_, ρ2, h2, x, y, hr2, VR.mono le2 k2 rx, ry, p2⟩⟩⟩
theorem pd_op {op : Operator} {f : PV → PV → PH → Res PV} (ho : OpR X (binaryOp op) (rD G f)) (ha : PE X a (tD G W da)) (hb : PE X b (tD G W db)) : PE X (.BinOp a op b pos) (tD G W (d2 f da db)) :=
  PE.weak (pe_op ho ha hb) fun _ _ _ h => to2 h

section
variable {ρ : List Addr} {H : Hp} {h : PH}
theorem OR.list {n : Nat} {l : List PV} {a : Addr} (hr : HR G ρ h H) (e : h.get n = some (.lst l)) (ea : ρ[n]? = some a) : ∃ vs, H a = some (.lst vs) ∧ VRs G.K ρ H l vs := hr.at_ e ea
/-- a sequence stands there -/
theorem seqOf_rel {p : PV} {v : V} {l : List PV} (hr : HR G ρ h H) (r : VR G.K ρ H p v) (e : seqOf h p = some l) : ∃ a vs, v = .ref a ∧ VRs G.K ρ H l vs ∧ (SqL G.K H a vs ∨ SqT G.K H a vs) := by
  cases r with
  | tup s rs =>
    cases e
    exact ⟨_, _, rfl, rs, .inr s⟩
  | @ref n a ea =>
    simp only [seqOf] at e
    split at e
    · rename_i l' el
      cases e
      obtain ⟨vs, h1, h2⟩ := hr.at_ el ea
      exact ⟨a, vs, rfl, h2, .inl (.inl (.inl h1))⟩
    · rename_i l' el
      cases e
      obtain ⟨o, vs, h1, h2⟩ := hr.at_ el ea
      exact ⟨a, vs, rfl, h2, .inl (.inl (.inr ⟨o, h1⟩))⟩
    · cases e
  | _ => cases e
theorem seqL_rel {n : Nat} {a : Addr} {l : List PV} (hr : HR G ρ h H) (ea : ρ[n]? = some a) (e : seqOf h (.ref n) = some l) : ∃ vs, VRs G.K ρ H l vs ∧ SqL G.K H a vs := by
  simp only [seqOf] at e
  split at e
  · rename_i l' el
    cases e
    obtain ⟨vs, h1, h2⟩ := hr.at_ el ea
    exact ⟨vs, h2, .inl (.inl h1)⟩
  · rename_i l' el
    cases e
    obtain ⟨o, vs, h1, h2⟩ := hr.at_ el ea
    exact ⟨vs, h2, .inl (.inr ⟨o, h1⟩)⟩
  · cases e
theorem new_ref (hr : HR G ρ h H) {p : Addr} : (ρ ++ [p])[h.n]? = some p := by rw [← hr.len]; simp
/-- a value given with a new list -/
theorem Post.newList {Wx : XK} {l : List PV} {vs : List V} {Q : VK} (p : Post G Wx ρ H (relV G) (alloc (.lst l) h) Q) (hr : HR G ρ h H) (r : VRs G.K ρ H l vs) : ∀ p, H p = none → Q (.ref p) (upd H p (.lst vs)) := fun q n =>
  p (ρ ++ [q]) (upd H q (.lst vs)) (.ref q) (Le.app _ _) (Frm.alloc n) (hr.new n ⟨vs, upd_same, r.mono (Le.app _ _) (Keep.new n)⟩) (.ref (new_ref hr))
/-- .. a new tuple -/
theorem Post.newTup {Wx : XK} {l : List PV} {vs : List V} {Q : VK} (p : Post G Wx ρ H (relV G) (.ok (.tup l) h) Q) (hr : HR G ρ h H) (r : VRs G.K ρ H l vs) : ∀ p, H p = none → Q (.ref p) (upd H p (.tup vs)) := fun q n =>
  p ρ (upd H q (.tup vs)) (.ref q) (Le.refl _) (Frm.lay n) (hr.other n) (.tup (.inl (.inl upd_same)) (r.mono (Le.refl _) (Keep.new n)))
theorem VRs.nil_iff {l : List PV} {vs : List V} (r : VRs G.K ρ H l vs) : (l = [] ↔ vs = []) := by
  cases r with
  | nil => simp
  | cons => simp
end

theorem or_add (hK : X.K = G.K) : OpR X (binaryOp .Add) (rD G (bop .add)) := by
  intro pins s σ H x y v u Q I rx ry ⟨Wx, ρ, h, p, q, hr, rp, rq, pq⟩
  cases rp with
  | int i =>
    cases rq with
    | int j => exact op_add pins s σ H _ _ v u Q I rx ry ⟨i, j, rfl, rfl, pq.now hr (.int _)⟩
    | _ => exact False.elim pq
  | tup s1 r1 =>
    cases rq with
    | tup s2 r2 =>
      simp only [bop] at pq
      split at pq
      · rename_i hh
        refine op_catA pins s σ H _ _ v u Q I rx ry ⟨_, _, _, _, rfl, rfl, hK ▸ s1, hK ▸ s2, ?_, fun e => ?_, fun _ e => ?_, fun _ _ => ?_⟩
        · rw [← LINE_eq, ← r1.length, ← r2.length]; exact hh
        · have e2 := r1.nil_iff.mpr e
          subst e2
          exact pq.now hr (.tup s2 r2)
        · have e2 := r2.nil_iff.mpr e
          subst e2
          rw [List.append_nil] at pq
          exact pq.now hr (.tup s1 r1)
        · exact pq.newTup hr (r1.append r2)
      · exact False.elim pq
    | _ => exact False.elim pq
  | @ref n a ea =>
    cases rq with
    | @ref m b eb =>
      simp only [bop] at pq
      split at pq
      · rename_i l r e1 e2
        split at pq
        · rename_i hl
          obtain ⟨vs, h1, r1⟩ := hr.at_ e1 ea
          obtain ⟨ws, h2, r2⟩ := hr.at_ e2 eb
          exact op_cat pins s σ H _ _ v u Q I rx ry ⟨_, _, _, _, rfl, rfl, h1, h2, by rw [← LINE_eq, ← r1.length, ← r2.length]; exact hl, pq.newList hr (r1.append r2)⟩
        · exact False.elim pq
      · exact False.elim pq
    | _ => exact False.elim pq
  | _ => cases rq <;> exact False.elim pq
theorem smallI_iff {i : Int} : smallI i = true ↔ -(2 ^ 64) < i ∧ i < 2 ^ 64 := by simp [smallI]
theorem or_sub : OpR X (binaryOp .Sub) (rD G (bop .sub)) := by
  intro pins s σ H x y v u Q I rx ry ⟨Wx, ρ, h, p, q, hr, rp, rq, pq⟩
  cases rp <;> cases rq <;> first | exact False.elim pq | skip
  exact op_sub pins s σ H _ _ v u Q I rx ry ⟨_, _, rfl, rfl, pq.now hr (.int _)⟩
theorem or_mul : OpR X (binaryOp .Mult) (rD G (bop .mul)) := by
  intro pins s σ H x y v u Q I rx ry ⟨Wx, ρ, h, p, q, hr, rp, rq, pq⟩
  cases rp <;> cases rq <;> first | exact False.elim pq | skip
  simp only [bop] at pq
  split at pq
  · rename_i hh
    exact op_mul pins s σ H _ _ v u Q I rx ry ⟨_, _, rfl, rfl, hh.imp smallI_iff.mp smallI_iff.mp, pq.now hr (.int _)⟩
  · exact False.elim pq
theorem or_mod : OpR X (binaryOp .Mod) (rD G (bop .mod)) := by
  intro pins s σ H x y v u Q I rx ry ⟨Wx, ρ, h, p, q, hr, rp, rq, pq⟩
  cases rp <;> cases rq <;> first | exact False.elim pq | skip
  simp only [bop] at pq
  split at pq
  · rename_i hh
    exact op_mod pins s σ H _ _ v u Q I rx ry ⟨_, _, rfl, rfl, hh, pq.now hr (.int _)⟩
  · exact False.elim pq
theorem or_fdiv : OpR X (binaryOp .FloorDiv) (rD G (bop .fdiv)) := by
  intro pins s σ H x y v u Q I rx ry ⟨Wx, ρ, h, p, q, hr, rp, rq, pq⟩
  cases rp <;> cases rq <;> first | exact False.elim pq | skip
  simp only [bop] at pq
  split at pq
  · rename_i hh
    exact op_fdiv pins s σ H _ _ v u Q I rx ry ⟨_, _, rfl, rfl, hh, pq.now hr (.int _)⟩
  · exact False.elim pq
theorem or_pow : OpR X (binaryOp .Pow) (rD G (bop .pow)) := by
  intro pins s σ H x y v u Q I rx ry ⟨Wx, ρ, h, p, q, hr, rp, rq, pq⟩
  cases rp <;> cases rq <;> first | exact False.elim pq | skip
  simp only [bop] at pq
  split at pq
  · rename_i hh
    exact op_pow pins s σ H _ _ v u Q I rx ry ⟨_, _, rfl, rfl, hh, pq.now hr (.int _)⟩
  · exact False.elim pq
def opOf : Operator → Option Bop
  | .Add => some .add | .Sub => some .sub | .Mult => some .mul | .Mod => some .mod | .FloorDiv => some .fdiv | .Pow => some .pow | _ => none
theorem or_bop (hK : X.K = G.K) {op : Operator} {o : Bop} (e : opOf op = some o) : OpR X (binaryOp op) (rD G (bop o)) := by
  cases op <;> simp only [opOf, Option.some.injEq] at e <;> first | (subst e; first | exact or_add hK | exact or_sub | exact or_mul | exact or_mod | exact or_fdiv | exact or_pow) | cases e

/-! ### comparisons -/
def fC (o : Cop) : PV → PV → PH → Res PV := fun x y h => (opt (cop o x y h) h).bind fun t h' => .ok (.bl t) h'
theorem bl_rel {Wx : XK} {ρ : List Addr} {H : Hp} {h : PH} {t : Bool} {Q : VK} (pq : Post G Wx ρ H (relV G) (.ok (.bl t) h) Q) (hr : HR G ρ h H) : Q (.bl t) H := pq.now hr (.bl t)
theorem eqS_rel {K : PySem.W.Frag} {ρ : List Addr} {H : Hp} {p q : PV} {x y : V} {b : Bool} (rp : VR K ρ H p x) (rq : VR K ρ H q y) (e : eqS p q = some b) : scal x y = true ∧ decide (x = y) = b := by
  cases rp <;> cases rq <;> simp only [eqS, Option.some.injEq, reduceCtorEq] at e <;> subst e <;> refine ⟨rfl, ?_⟩ <;> simp <;> (try (rename_i a b; cases a <;> cases b <;> rfl))
theorem oc_eq : OpR X (compareOp .Eq) (rD G (fC .eq)) := by
  intro pins s σ H x y v u Q I rx ry ⟨Wx, ρ, h, p, q, hr, rp, rq, pq⟩
  obtain ⟨t, e, pq⟩ := Post.optBind pq
  obtain ⟨e1, e2⟩ := eqS_rel rp rq (show eqS p q = some t from by cases p <;> cases q <;> exact e)
  exact op_eq pins s σ H _ _ v u Q I rx ry ⟨e1, by rw [e2]; exact bl_rel pq hr⟩
theorem oc_ne : OpR X (compareOp .NotEq) (rD G (fC .ne)) := by
  intro pins s σ H x y v u Q I rx ry ⟨Wx, ρ, h, p, q, hr, rp, rq, pq⟩
  obtain ⟨t, e, pq⟩ := Post.optBind pq
  have e' : (eqS p q).map (fun b => !b) = some t := by cases p <;> cases q <;> exact e
  obtain ⟨t', et, rfl⟩ := Option.map_eq_some_iff.mp e'
  obtain ⟨e1, e2⟩ := eqS_rel rp rq et
  exact op_ne pins s σ H _ _ v u Q I rx ry ⟨e1, by rw [e2]; exact bl_rel pq hr⟩
theorem oc_lt : OpR X (compareOp .Lt) (rD G (fC .lt)) := by
  intro pins s σ H x y v u Q I rx ry ⟨Wx, ρ, h, p, q, hr, rp, rq, pq⟩
  cases rp <;> cases rq <;> first | exact False.elim pq | skip
  exact op_lt pins s σ H _ _ v u Q I rx ry ⟨_, _, rfl, rfl, bl_rel pq hr⟩
theorem oc_le : OpR X (compareOp .LtE) (rD G (fC .le)) := by
  intro pins s σ H x y v u Q I rx ry ⟨Wx, ρ, h, p, q, hr, rp, rq, pq⟩
  cases rp <;> cases rq <;> first | exact False.elim pq | skip
  exact op_le pins s σ H _ _ v u Q I rx ry ⟨_, _, rfl, rfl, bl_rel pq hr⟩
theorem oc_gt : OpR X (compareOp .Gt) (rD G (fC .gt)) := by
  intro pins s σ H x y v u Q I rx ry ⟨Wx, ρ, h, p, q, hr, rp, rq, pq⟩
  cases rp <;> cases rq <;> first | exact False.elim pq | skip
  exact op_gt pins s σ H _ _ v u Q I rx ry ⟨_, _, rfl, rfl, bl_rel pq hr⟩
theorem oc_ge : OpR X (compareOp .GtE) (rD G (fC .ge)) := by
  intro pins s σ H x y v u Q I rx ry ⟨Wx, ρ, h, p, q, hr, rp, rq, pq⟩
  cases rp <;> cases rq <;> first | exact False.elim pq | skip
  exact op_ge pins s σ H _ _ v u Q I rx ry ⟨_, _, rfl, rfl, bl_rel pq hr⟩
/-- x is y, of plain values -/
theorem is_of {pins : List (Addr × Obj)} {s : Shared} {σ : L2.St} {H : Hp} {v u : Value} {Q : VK} {b : Bool} (I : Inv X pins σ H s) (hp : plainIs v u = true) (e : (v == u) = b) (q : Q (.bl b) H) : wpAny (model X.prog X.w) X.A (compareOp .Is v u) (EP X pins σ Q) X.xe s :=
  wpAny_is_plain hp ⟨.bl b, H, I, by rw [e]; rfl, q⟩
theorem isnot_of {pins : List (Addr × Obj)} {s : Shared} {σ : L2.St} {H : Hp} {v u : Value} {Q : VK} {b : Bool} (I : Inv X pins σ H s) (hp : plainIs v u = true) (e : (v == u) = b) (q : Q (.bl (!b)) H) : wpAny (model X.prog X.w) X.A (compareOp .IsNot v u) (EP X pins σ Q) X.xe s :=
  wpAny_isNot_plain hp ⟨.bl (!b), H, I, by rw [e]; rfl, q⟩
/-- the model's answer to «is» -/
theorem is_rel {K : PySem.W.Frag} {ρ : List Addr} {H : Hp} {h : PH} {p q : PV} {x y : V} {v u : Value} {b : Bool} (rp : VR K ρ H p x) (rq : VR K ρ H q y) (rx : L2.RelV x v) (ry : L2.RelV y u) (e : cop .is p q h = some b) : plainIs v u = true ∧ (v == u) = b := by
  cases rq with
  | non =>
    cases ry
    cases rp with
    | non => cases rx; cases e; exact ⟨rfl, rfl⟩
    | bl b => cases rx; cases e; exact ⟨rfl, rfl⟩
    | int i => obtain ⟨t, rfl⟩ := rx; cases e; exact ⟨rfl, rfl⟩
    | str i => obtain ⟨t, rfl⟩ := rx; cases e; exact ⟨rfl, rfl⟩
    | tup s r => cases rx; cases e; exact ⟨rfl, rfl⟩
    | ref e => cases rx; cases e; exact ⟨rfl, rfl⟩
  | bl c =>
    cases ry
    cases rp with
    | non => cases rx; cases e; exact ⟨rfl, rfl⟩
    | bl b => cases rx; cases e; refine ⟨rfl, ?_⟩; cases b <;> cases c <;> rfl
    | int i => obtain ⟨t, rfl⟩ := rx; cases e; exact ⟨rfl, rfl⟩
    | str i => obtain ⟨t, rfl⟩ := rx; cases e; exact ⟨rfl, rfl⟩
    | tup s r => cases rx; cases e; exact ⟨rfl, rfl⟩
    | ref e => cases rx; cases e; exact ⟨rfl, rfl⟩
  | _ => cases rp <;> cases e
theorem oc_is : OpR X (compareOp .Is) (rD G (fC .is)) := by
  intro pins s σ H x y v u Q I rx ry ⟨Wx, ρ, h, p, q, hr, rp, rq, pq⟩
  obtain ⟨t, e, pq⟩ := Post.optBind pq
  obtain ⟨e1, e2⟩ := is_rel rp rq rx ry e
  exact is_of I e1 e2 (bl_rel pq hr)
theorem cop_isnot {p q : PV} {h : PH} {b : Bool} (e : cop .isnot p q h = some b) : cop .is p q h = some (!b) := by
  cases q <;> cases p <;> cases e <;> rfl
theorem oc_isnot : OpR X (compareOp .IsNot) (rD G (fC .isnot)) := by
  intro pins s σ H x y v u Q I rx ry ⟨Wx, ρ, h, p, q, hr, rp, rq, pq⟩
  obtain ⟨t, e, pq⟩ := Post.optBind pq
  obtain ⟨e1, e2⟩ := is_rel rp rq rx ry (cop_isnot e)
  exact isnot_of I e1 e2 (by rw [Bool.not_not]; exact bl_rel pq hr)
section
variable {K : PySem.W.Frag} {ρ : List Addr} {H : Hp}
theorem flat_rel {p : PV} {x : V} (r : VR K ρ H p x) (e : flat p = true) : flatV x = true := by cases r <;> first | rfl | cases e
theorem eqF_rel {p q : PV} {x y : V} (r : VR K ρ H p x) (r2 : VR K ρ H q y) (e : flat p = true) (e2 : flat q = true) : eqV x y = eqF p q := by
  cases r <;> cases r2 <;> first | rfl | (simp [eqV, eqF]; done) | (cases e; done) | (cases e2; done)
theorem in_rel {q : PV} {y : V} (r2 : VR K ρ H q y) (e2 : flat q = true) : ∀ {l : List PV} {xs : List V}, VRs K ρ H l xs → l.all flat = true → xs.all flatV = true ∧ inV y xs = l.any fun z => eqF z q
  | _, _, .nil, _ => ⟨rfl, rfl⟩
  | p :: l, x :: xs, .cons a r, e => by
    rw [List.all_cons, Bool.and_eq_true] at e
    obtain ⟨h1, h2⟩ := in_rel r2 e2 r e.2
    refine ⟨by rw [List.all_cons, flat_rel a e.1, h1]; rfl, ?_⟩
    unfold inV at h2 ⊢
    rw [List.any_cons, List.any_cons, h2, eqF_rel a r2 e.1 e2]
end
theorem oc_in (hK : X.K = G.K) : OpR X (compareOp .In) (rD G (fC .isin)) := by
  intro pins s σ H x y v u Q I rx ry ⟨Wx, ρ, h, p, q, hr, rp, rq, pq⟩
  obtain ⟨t, e, pq⟩ := Post.optBind pq
  simp only [cop] at e
  split at e
  · rename_i hf
    split at e
    · rename_i l hl
      split at e
      · rename_i ha
        cases e
        obtain ⟨a, vs, rfl, rs, hs⟩ := seqOf_rel hr rq hl
        obtain ⟨h1, h2⟩ := in_rel rp hf rs ha
        exact op_in_seq pins s σ H _ _ v u Q I rx ry ⟨a, vs, rfl, hK ▸ hs, flat_rel rp hf, h1, by rw [h2]; exact bl_rel pq hr⟩
      · cases e
    · cases e
  · cases e
theorem oc_notin (hK : X.K = G.K) : OpR X (compareOp .NotIn) (rD G (fC .notin)) := by
  intro pins s σ H x y v u Q I rx ry ⟨Wx, ρ, h, p, q, hr, rp, rq, pq⟩
  obtain ⟨t, e, pq⟩ := Post.optBind pq
  simp only [cop] at e
  split at e
  · rename_i hf
    split at e
    · rename_i l hl
      split at e
      · rename_i ha
        cases e
        obtain ⟨a, vs, rfl, rs, hs⟩ := seqOf_rel hr rq hl
        obtain ⟨h1, h2⟩ := in_rel rp hf rs ha
        exact op_notIn_seq pins s σ H _ _ v u Q I rx ry ⟨a, vs, rfl, hK ▸ hs, flat_rel rp hf, h1, by rw [h2]; exact bl_rel pq hr⟩
      · cases e
    · cases e
  · cases e
def copOf : CmpOp → Option Cop
  | .Eq => some .eq | .NotEq => some .ne | .Lt => some .lt | .LtE => some .le | .Gt => some .gt | .GtE => some .ge | .Is => some .is | .IsNot => some .isnot | .In => some .isin | .NotIn => some .notin
theorem oc_cop (hK : X.K = G.K) {op : CmpOp} {o : Cop} (e : copOf op = some o) : OpR X (compareOp op) (rD G (fC o)) := by
  cases op <;> cases e
  · exact oc_eq
  · exact oc_ne
  · exact oc_lt
  · exact oc_le
  · exact oc_gt
  · exact oc_ge
  · exact oc_is
  · exact oc_isnot
  · exact oc_in hK
  · exact oc_notin hK
theorem pd_cmp {op : CmpOp} {f : PV → PV → PH → Res PV} (ho : OpR X (compareOp op) (rD G f)) (ha : PE X a (tD G W da)) (hb : PE X b (tD G W db)) (hm : behindInMarks op b = false) : PE X (.Compare a [op] [b] pos) (tD G W (d2 f da db)) :=
  PE.weak (pe_cmpR ho ha hb hm) fun _ _ _ h => to2 h

/-! ### truth -/
theorem tru_bind {α : Type} (r : Res α) (f : α → PH → Res PV) : tru (r.bind f) = r.bind fun a h => tru (f a h) := by cases r <;> rfl
theorem bind_bind {α β γ : Type} (r : Res α) (f : α → PH → Res β) (g : β → PH → Res γ) : (r.bind f).bind g = r.bind fun a h => (f a h).bind g := by cases r <;> rfl
theorem Post.mapX {α β γ δ : Type} {Wx : XK} {ρ : List Addr} {H : Hp} {rel : List Addr → Hp → α → β → Prop} {rel2 : List Addr → Hp → γ → δ → Prop} {r : Res α} {f : α → PH → Res γ} {Q : β → Hp → Prop} {Q2 : δ → Hp → Prop} (p : Post G Wx ρ H rel2 (r.bind f) Q2)
    (k : ∀ a h1 ρ1 H1 b, r = .ok a h1 → Le ρ ρ1 → Frm ρ H ρ1 H1 → HR G ρ1 h1 H1 → rel ρ1 H1 a b → Post G Wx ρ1 H1 rel2 (f a h1) Q2 → Q b H1) : Post G Wx ρ H rel r Q := p.bind k
/-- of a value that is a bool -/
theorem Post.ofTru {Wx : XK} {ρ : List Addr} {H : Hp} {r : Res PV} {Q : Bool → Hp → Prop} (bl : ∀ v h', r = .ok v h' → ∃ b, v = .bl b) (p : Post G Wx ρ H relB (tru r) Q) : Post G Wx ρ H (relV G) r (fun x H' => ∃ k, x = .bl k ∧ Q k H') :=
  Post.mapX (f := fun v h => Fx.opt (truth h v) h) p fun v h1 ρ1 H1 b e le k hr rv p1 => by
    obtain ⟨t, rfl⟩ := bl v h1 e
    have e2 : b = V.bl t := VR.bl_inv rv
    exact ⟨t, e2, Post.now (rel := relB) p1 hr rfl⟩
theorem truth_rel {ρ : List Addr} {H : Hp} {h : PH} {p : PV} {x : V} {t : Bool} (hr : HR G ρ h H) (r : VR G.K ρ H p x) (e : truth h p = some t) : TruV G.K x H t := by
  cases r with
  | non => cases e; rfl
  | bl b => cases e; rfl
  | int i => cases e; rfl
  | str z =>
    simp only [truth] at e
    split at e
    · rename_i hl
      cases e
      exact ⟨by rw [← LINE_eq]; exact hl, rfl⟩
    · cases e
  | tup s r =>
    cases e
    refine .inr (.inl ⟨_, s, ?_⟩)
    cases r <;> rfl
  | @ref n a ea =>
    have emp : ∀ {l : List PV} {vs : List V}, VRs G.K ρ H l vs → (!l.isEmpty) = !vs.isEmpty := fun r => by cases r <;> rfl
    simp only [truth] at e
    split at e
    · rename_i l el
      cases e
      obtain ⟨vs, h1, r⟩ := hr.at_ el ea
      exact .inl ⟨vs, .inl (.inl h1), emp r⟩
    · rename_i l el
      cases e
      obtain ⟨o, vs, h1, r⟩ := hr.at_ el ea
      exact .inl ⟨vs, .inl (.inr ⟨o, h1⟩), emp r⟩
    · rename_i kvs el
      cases e
      obtain ⟨ws, h1, r⟩ := hr.at_ el ea
      refine .inr (.inr ⟨ws, h1, ?_⟩)
      cases r <;> rfl
    · cases e
/-- of any value with a truth -/
theorem Post.ofTruth {Wx : XK} {ρ : List Addr} {H : Hp} {r : Res PV} {Q : Bool → Hp → Prop} (p : Post G Wx ρ H relB (tru r) Q) : Post G Wx ρ H (relV G) r (fun x H' => ∃ k, TruV G.K x H' k ∧ Q k H') :=
  Post.mapX (f := fun v h => Fx.opt (truth h v) h) p fun v h1 ρ1 H1 b e le k hr rv p1 => by
    obtain ⟨t, et, p2⟩ := Post.opt p1
    exact ⟨t, truth_rel hr rv et, Post.now (rel := relB) p2 hr rfl⟩
abbrev dT (d : Dn) : Sl → PH → Res Bool := fun σ h => tru (d σ h)
theorem pd_truth {e : Expr} {d : Dn} (hK : X.K = G.K) (hp : PE X e (tD G W d)) (he : ∀ whole, isTrue e X.env whole = (do let v ← whole; standAt e.pos; holding [v] (truthy v))) : PT X e (tDT G W (dT d)) :=
  PT.weak (pt_truth hp he) fun σ H Q ⟨ρ, sp, h, sl, hr, p⟩ => ⟨ρ, sp, h, sl, hr, by rw [hK]; exact p.ofTruth⟩
theorem fC_bl {o : Cop} {x y v : PV} {h h' : PH} (e : fC o x y h = .ok v h') : ∃ b, v = .bl b := by
  unfold fC at e
  cases q : cop o x y h with
  | none => rw [q] at e; cases e
  | some t => rw [q] at e; cases e; exact ⟨t, rfl⟩
theorem d2_bl {f : PV → PV → PH → Res PV} (hf : ∀ x y v h h', f x y h = .ok v h' → ∃ b, v = .bl b) {σ : Sl} {h h' : PH} {v : PV} (e : d2 f da db σ h = .ok v h') : ∃ b, v = .bl b := by
  unfold d2 at e
  cases e1 : da σ h with
  | ok x h1 =>
    rw [e1, Res.bind_ok] at e
    cases e2 : db σ h1 with
    | ok y h2 => rw [e2, Res.bind_ok] at e; exact hf _ _ _ _ _ e
    | _ => rw [e2] at e; cases e
  | _ => rw [e1] at e; cases e
theorem pt_cmpD {op : CmpOp} {o : Cop} (ho : OpR X (compareOp op) (rD G (fC o))) (ha : PE X a (tD G W da)) (hb : PE X b (tD G W db)) (hm : behindInMarks op b = false) : PT X (.Compare a [op] [b] pos) (tDT G W (dT (d2 (fC o) da db))) :=
  PT.weak (pt_cmpR ho ha hb hm) fun σ H Q ⟨ρ, sp, h, sl, hr, p⟩ => to2 (W := W) ⟨ρ, sp, h, sl, hr, p.ofTru fun v h' e => d2_bl (fun _ _ _ _ _ => fC_bl) e⟩

/-- and, or, not, if -/
def dAnd (da db : Dn) : Dn := fun σ h => (da σ h).bind fun x h1 => (opt (truth h1 x) h1).bind fun t h2 => if t = true then db σ h2 else .ok x h2
def dOr (da db : Dn) : Dn := fun σ h => (da σ h).bind fun x h1 => (opt (truth h1 x) h1).bind fun t h2 => if t = true then .ok x h2 else db σ h2
def dNot (da : Dn) : Dn := fun σ h => (tru (da σ h)).bind fun b h1 => .ok (.bl (!b)) h1
def dIte (dc da db : Dn) : Dn := fun σ h => (tru (dc σ h)).bind fun t h1 => if t = true then da σ h1 else db σ h1
variable {rest : List Expr}
theorem pd_and (hK : X.K = G.K) (ha : PE X a (tD G W da)) (hb : PE X (.BoolOp .And (b :: rest) pos) (tD G W db)) : PE X (.BoolOp .And (a :: b :: rest) pos) (tD G W (dAnd da db)) :=
  PE.weak (pe_andT ha hb) fun σ H Q ⟨ρ, sp, h, sl, hr, p⟩ => ⟨ρ, sp, h, sl, hr, Post.bind p fun x h1 ρ1 H1 v e le k hr1 rx p1 => by
    obtain ⟨t, et, p2⟩ := Post.optBind p1
    refine ⟨t, by rw [hK]; exact truth_rel hr1 rx et, ?_⟩
    cases t with
    | true => exact ⟨ρ1, sp, h1, sl.mono le k, hr1, p2⟩
    | false => exact Post.now (rel := relV G) p2 hr1 rx⟩
theorem pd_or (hK : X.K = G.K) (ha : PE X a (tD G W da)) (hb : PE X (.BoolOp .Or (b :: rest) pos) (tD G W db)) : PE X (.BoolOp .Or (a :: b :: rest) pos) (tD G W (dOr da db)) :=
  PE.weak (pe_orT ha hb) fun σ H Q ⟨ρ, sp, h, sl, hr, p⟩ => ⟨ρ, sp, h, sl, hr, Post.bind p fun x h1 ρ1 H1 v e le k hr1 rx p1 => by
    obtain ⟨t, et, p2⟩ := Post.optBind p1
    refine ⟨t, by rw [hK]; exact truth_rel hr1 rx et, ?_⟩
    cases t with
    | true => exact Post.now (rel := relV G) p2 hr1 rx
    | false => exact ⟨ρ1, sp, h1, sl.mono le k, hr1, p2⟩⟩
/-- the tests -/
def tAndP (da db : Dn) : Sl → PH → Res Bool := fun σ h => (dT da σ h).bind fun t h1 => if t = true then dT db σ h1 else .ok false h1
def tOrP (da db : Dn) : Sl → PH → Res Bool := fun σ h => (dT da σ h).bind fun t h1 => if t = true then .ok true h1 else dT db σ h1
theorem dT_and (da db : Dn) : dT (dAnd da db) = tAndP da db := by
  funext σ h
  show ((da σ h).bind _).bind _ = ((da σ h).bind _).bind _
  rw [bind_bind, bind_bind]
  congr 1
  funext x h1
  cases e : truth h1 x with
  | none => rfl
  | some t => cases t with
    | true => rfl
    | false => show opt (truth h1 x) h1 = _; rw [e]; rfl
theorem dT_or (da db : Dn) : dT (dOr da db) = tOrP da db := by
  funext σ h
  show ((da σ h).bind _).bind _ = ((da σ h).bind _).bind _
  rw [bind_bind, bind_bind]
  congr 1
  funext x h1
  cases e : truth h1 x with
  | none => rfl
  | some t => cases t with
    | false => rfl
    | true => show opt (truth h1 x) h1 = _; rw [e]; rfl
theorem pwd_and (ha : PT X a (tDT G W (dT da))) (hb : PW X (.BoolOp .And (b :: rest) pos) (tDT G W (dT db))) : PW X (.BoolOp .And (a :: b :: rest) pos) (tDT G W (dT (dAnd da db))) :=
  PW.weak (pw_and ha hb) fun σ H Q ⟨ρ, sp, h, sl, hr, p⟩ => ⟨ρ, sp, h, sl, hr, by
    rw [dT_and] at p
    exact Post.bind p fun t h1 ρ1 H1 v e le k hr1 rx p1 => by
      cases (show t = v from rx)
      cases t with
      | true => exact ⟨ρ1, sp, h1, sl.mono le k, hr1, p1⟩
      | false => exact Post.now (rel := relB) p1 hr1 rfl⟩
theorem pwd_or (ha : PT X a (tDT G W (dT da))) (hb : PW X (.BoolOp .Or (b :: rest) pos) (tDT G W (dT db))) : PW X (.BoolOp .Or (a :: b :: rest) pos) (tDT G W (dT (dOr da db))) :=
  PW.weak (pw_or ha hb) fun σ H Q ⟨ρ, sp, h, sl, hr, p⟩ => ⟨ρ, sp, h, sl, hr, by
    rw [dT_or] at p
    exact Post.bind p fun t h1 ρ1 H1 v e le k hr1 rx p1 => by
      cases (show t = v from rx)
      cases t with
      | false => exact ⟨ρ1, sp, h1, sl.mono le k, hr1, p1⟩
      | true => exact Post.now (rel := relB) p1 hr1 rfl⟩
theorem pd_not (hK : X.K = G.K) (ha : PE X a (tD G W da)) : PE X (.UnaryOp .Not a pos) (tD G W (dNot da)) :=
  PE.weak (pe_notT ha) fun σ H Q ⟨ρ, sp, h, sl, hr, p⟩ => ⟨ρ, sp, h, sl, hr, by
    have p' : Post G (fun cls e H' => W cls e σ H') ρ H relB (tru (da sp h)) (fun b H' => Q (.bl (!b)) H') := Post.mapX (rel := relB) p fun t h1 ρ1 H1 v e le k hr1 rx p1 => by
      cases (show t = v from rx)
      exact bl_rel p1 hr1
    rw [hK]
    exact p'.ofTruth⟩
theorem ptd_not (ha : PT X a (tDT G W (dT da))) : PT X (.UnaryOp .Not a pos) (tDT G W (dT (dNot da))) :=
  PT.weak (pt_not ha) fun σ H Q ⟨ρ, sp, h, sl, hr, p⟩ => ⟨ρ, sp, h, sl, hr, by
    have e : dT (dNot da) sp h = (dT da sp h).bind fun b h1 => .ok (!b) h1 := by
      show ((tru (da sp h)).bind _).bind _ = _
      rw [bind_bind]
      rfl
    rw [e] at p
    exact Post.bind p fun t h1 ρ1 H1 v e le k hr1 rx p1 => by
      cases (show t = v from rx)
      exact Post.now (rel := relB) p1 hr1 rfl⟩
theorem pd_ite (hc : PT X c (tDT G W (dT dc))) (ha : PE X a (tD G W da)) (hb : PE X b (tD G W db)) : PE X (.IfExp c a b pos) (tD G W (dIte dc da db)) :=
  PE.weak (pe_ifExp hc ha hb) fun σ H Q ⟨ρ, sp, h, sl, hr, p⟩ => ⟨ρ, sp, h, sl, hr, Post.bind p fun t h1 ρ1 H1 v e le k hr1 rx p1 => by
    cases (show t = v from rx)
    cases t with
    | true => exact ⟨ρ1, sp, h1, sl.mono le k, hr1, p1⟩
    | false => exact ⟨ρ1, sp, h1, sl.mono le k, hr1, p1⟩⟩
def dCh (o p : Cop) (da db dc : Dn) : Dn := fun σ h => (da σ h).bind fun x h1 => (db σ h1).bind fun y h2 => (opt (cop o x y h2) h2).bind fun t h3 =>
      if t = true then (dc σ h3).bind fun z h4 => (opt (cop p y z h4) h4).bind fun t h5 => .ok (.bl t) h5 else .ok (.bl false) h3
theorem toCh {o p : Cop} {σ : L2.St} {H : Hp} {Q : VK} (h : tD G W (dCh o p da db dc) σ H Q) : tChain (rD G (fC o)) (rD G (fC p)) (tD G W da) (tD G W db) (tD G W dc) σ H Q := by
  obtain ⟨ρ, sp, h, sl, hr, pp⟩ := h
  refine ⟨ρ, sp, h, sl, hr, Post.bind pp fun x h1 ρ1 H1 v _ le k hr1 rx p1 => ⟨ρ1, sp, h1, sl.mono le k, hr1, Post.bind p1 fun y h2 ρ2 H2 u _ le2 k2 hr2 ry p2 => ?_⟩⟩
  refine ⟨fun _ _ _ => False, ρ2, h2, x, y, hr2, VR.mono le2 k2 rx, ry, ?_⟩
  obtain ⟨t, et, p3⟩ := Post.optBind p2
  show Post G _ ρ2 H2 (relV G) ((opt (cop o x y h2) h2).bind _) _
  rw [et]
  intro ρ3 H3 b le3 k3 hr3 rb
  have : b = V.bl t := VR.bl_inv rb
  refine ⟨t, this, ?_⟩
  cases t with
  | true =>
    refine ⟨ρ3, sp, h2, ((sl.mono le k.toKeep).mono le2 k2.toKeep).mono le3 k3.toKeep, hr3, Post.bind (Post.base p3 le3 k3) fun z h4 ρ4 H4 w _ le4 k4 hr4 rz p4 => ?_⟩
    exact ⟨_, ρ4, h4, y, z, hr4, VR.mono le4 k4.toKeep (VR.mono le3 k3.toKeep ry), rz, p4⟩
  | false => exact p3 ρ3 H3 _ le3 k3 hr3 (.bl false)
theorem pd_chain {op op' : CmpOp} {o p : Cop} (ho : OpR X (compareOp op) (rD G (fC o))) (ho' : OpR X (compareOp op') (rD G (fC p))) (ha : PE X a (tD G W da)) (hb : PE X b (tD G W db)) (hc : PE X c (tD G W dc)) (hm : lastMarks [op, op'] [b, c] = false) :
    PE X (.Compare a [op, op'] [b, c] pos) (tD G W (dCh o p da db dc)) := PE.weak (pe_chain ho ho' ha hb hc hm) fun _ _ _ h => toCh h
theorem dCh_bl {o p : Cop} {σ : Sl} {h h' : PH} {v : PV} (e : dCh o p da db dc σ h = .ok v h') : ∃ b, v = .bl b := by
  unfold dCh at e
  cases e1 : da σ h with
  | ok x h1 =>
    rw [e1, Res.bind_ok] at e
    cases e2 : db σ h1 with
    | ok y h2 =>
      rw [e2, Res.bind_ok] at e
      cases e3 : cop o x y h2 with
      | none => rw [e3] at e; cases e
      | some t =>
        rw [e3] at e
        cases t with
        | false => cases e; exact ⟨_, rfl⟩
        | true =>
          have e' : (dc σ h2).bind (fun z h4 => (opt (cop p y z h4) h4).bind fun t h5 => Res.ok (.bl t) h5) = .ok v h' := e
          cases e4 : dc σ h2 with
          | ok z h4 => rw [e4, Res.bind_ok] at e'; exact fC_bl e'
          | _ => rw [e4] at e'; cases e'
    | _ => rw [e2] at e; cases e
  | _ => rw [e1] at e; cases e
theorem ptd_chain {op op' : CmpOp} {o p : Cop} (ho : OpR X (compareOp op) (rD G (fC o))) (ho' : OpR X (compareOp op') (rD G (fC p))) (ha : PE X a (tD G W da)) (hb : PE X b (tD G W db)) (hc : PE X c (tD G W dc)) (hm : lastMarks [op, op'] [b, c] = false) :
    PT X (.Compare a [op, op'] [b, c] pos) (tDT G W (dT (dCh o p da db dc))) := PT.weak (pt_chain ho ho' ha hb hc hm) fun σ H Q ⟨ρ, sp, h, sl, hr, p⟩ => toCh (W := W) ⟨ρ, sp, h, sl, hr, p.ofTru fun v h' e => dCh_bl e⟩
end
end Fx

/-! Displays, subscripts, calls. -/
namespace Fx
open PySem PySem.Spec PyProof.Rows L2
abbrev Da := Sl → PH → Res (List PV)
section
variable {G : Glob} {X : Cx} {W : WX} {e o : Expr} {es : List Expr} {d dx : Dn} {ds : Da} {pos p1 p2 apos : Pos}

/-! ### names, constants -/
theorem pd_var {i : Nat} {x : Str} (hN : X.N[i]? = some x) (hv : Vis X.env.scope x) (hd : (x == ("__debug__" : Str)) = false) (hcd : (x == ("__classdict__" : Str)) = false) : PE X (.Name x pos) (tD G W fun σ h => Fx.opt (σ[i]?.join) h) :=
  PE.weak (pe_var hN hv hd hcd) fun σ H Q ⟨ρ, sp, h, sl, hr, p⟩ => by
    obtain ⟨a, ea, p1⟩ := Post.opt p
    obtain ⟨q, eq, e2⟩ := Option.join_eq_some_iff.mp ea |> fun z => (⟨_, z, rfl⟩ : ∃ q, sp[i]? = some q ∧ q = some a)
    subst e2
    obtain ⟨v, ev, rv⟩ := sl.2 i a eq
    exact ⟨v, ev, Post.now (rel := relV G) p1 hr rv⟩
theorem pd_cst {v : V} {c : PV} (hp : PE X e (tC v)) (r : ∀ ρ H, VR G.K ρ H c v) : PE X e (tD G W fun _ h => .ok c h) :=
  PE.weak hp fun σ H Q ⟨ρ, sp, h, sl, hr, p⟩ => Post.now (rel := relV G) p hr (r ρ H)

/-! ### arguments -/
def isStar : Expr → Bool
  | .Starred .. => true
  | _ => false
theorem starEach_cons (h : isStar e = false) (env : Env) : starEach (e :: es) env = (false, eval e env) :: starEach es env := by
  cases e <;> first | rfl | cases h
def plainA (es : List Expr) : Bool := es.all fun e => !isStar e
theorem starEach_plain (h : plainA es = true) (env : Env) : ∀ x ∈ starEach es env, x.1 = false := by
  induction es with
  | nil => intro x hx; exact absurd hx (by unfold starEach; simp)
  | cons e es ih =>
    unfold plainA at h
    rw [List.all_cons, Bool.and_eq_true] at h
    intro x hx
    rw [starEach_cons (by simpa using h.1)] at hx
    rcases List.mem_cons.mp hx with q | q
    · rw [q]
    · exact ih h.2 x q
theorem any_plain (h : plainA es = true) (env : Env) : (backTo pos (starEach es env)).any (·.1) = false := by
  rw [List.any_eq_false]
  intro x hx
  unfold backTo at hx
  obtain ⟨y, hy, rfl⟩ := List.mem_map.mp hx
  simp [starEach_plain h env y hy]
def dNil : Da := fun _ h => .ok [] h
def dCons (d : Dn) (ds : Da) : Da := fun σ h => (d σ h).bind fun x h1 => (ds σ h1).bind fun xs h2 => .ok (x :: xs) h2
def dStar (d : Dn) (ds : Da) : Da := fun σ h => (d σ h).bind fun x h1 => (Fx.opt (seqOf h1 x) h1).bind fun ys h2 => (ds σ h2).bind fun xs h3 => .ok (ys ++ xs) h3
theorem pd_nil : PA X [] (tDA G W dNil) := PA.weak pa_nil fun σ H Q ⟨ρ, sp, h, sl, hr, p⟩ => Post.now (rel := relVs G) p hr .nil
theorem pd_cons (hs : isStar e = false) (he : PE X e (tD G W d)) (hes : PA X es (tDA G W ds)) : PA X (e :: es) (tDA G W (dCons d ds)) :=
  PA.weak (pa_cons he hes (starEach_cons hs _)) fun σ H Q ⟨ρ, sp, h, sl, hr, p⟩ => ⟨ρ, sp, h, sl, hr, Post.bind p fun x h1 ρ1 H1 v _ le k hr1 rx p1 => ⟨ρ1, sp, h1, sl.mono le k, hr1, Post.bind p1 fun xs h2 ρ2 H2 vs _ le2 k2 hr2 rxs p2 =>
    Post.now (rel := relVs G) p2 hr2 (.cons (VR.mono le2 k2 rx) rxs)⟩⟩
theorem pd_star (hK : X.K = G.K) (he : PE X e (tD G W d)) (hes : PA X es (tDA G W ds)) : PA X (.Starred e pos :: es) (tDA G W (dStar d ds)) :=
  PA.weak (StX.pa_star he hes rfl) fun σ H Q ⟨ρ, sp, h, sl, hr, p⟩ => ⟨ρ, sp, h, sl, hr, Post.bind p fun x h1 ρ1 H1 v _ le k hr1 rx p1 => by
    obtain ⟨ys, ey, p2⟩ := Post.optBind p1
    obtain ⟨a, vs, rfl, rs, hs⟩ := seqOf_rel hr1 rx ey
    refine ⟨a, vs, rfl, ?_, ⟨ρ1, sp, h1, sl.mono le k, hr1, Post.bind p2 fun xs h2 ρ2 H2 ws _ le2 k2 hr2 rxs p3 => Post.now (rel := relVs G) p3 hr2 (VRs.append (VRs.mono le2 k2 rs) rxs)⟩⟩
    rw [hK]
    exact hs.symm⟩

/-! ### displays -/
def dTup (ds : Da) : Dn := fun σ h => (ds σ h).bind fun vs h1 => if vs.length ≤ LINE then .ok (.tup vs) h1 else .no
def dLst (ds : Da) : Dn := fun σ h => (ds σ h).bind fun vs h1 => if vs.length ≤ LINE then alloc (.lst vs) h1 else .no
theorem pd_tup {k : Nat} (h : PA X es (tDA G W ds)) : PE X (.Tuple es k pos) (tD G W (dTup ds)) :=
  PE.weak (pe_tup h) fun σ H Q ⟨ρ, sp, h, sl, hr, p⟩ => ⟨ρ, sp, h, sl, hr, Post.bind p fun xs h1 ρ1 H1 vs _ le k hr1 rx p1 => by
    have rxs : VRs G.K ρ1 H1 xs vs := rx
    split at p1
    · rename_i hl
      exact ⟨by rw [← LINE_eq, ← rxs.length]; exact hl, Post.newTup p1 hr1 rxs⟩
    · exact False.elim p1⟩
theorem pd_lst (h : PA X es (tDA G W ds)) : PE X (.List es pos) (tD G W (dLst ds)) :=
  PE.weak (pe_lst h) fun σ H Q ⟨ρ, sp, h, sl, hr, p⟩ => ⟨ρ, sp, h, sl, hr, Post.bind p fun xs h1 ρ1 H1 vs _ le k hr1 rx p1 => by
    have rxs : VRs G.K ρ1 H1 xs vs := rx
    split at p1
    · rename_i hl
      exact ⟨by rw [← LINE_eq, ← rxs.length]; exact hl, Post.newList p1 hr1 rxs⟩
    · exact False.elim p1⟩

/-! ### subscripts -/
theorem atI_rel {K : PySem.W.Frag} {ρ : List Addr} {H : Hp} {l : List PV} {vs : List V} {i : Int} {p : PV} (r : VRs K ρ H l vs) (e : atI l i = some p) : ∃ v, atI vs i = some v ∧ VR K ρ H p v := by
  unfold atI at e ⊢
  rw [← r.length]
  obtain ⟨j, h1, h2⟩ := Option.bind_eq_some_iff.mp e
  obtain ⟨v, h3, h4⟩ := r.get h2
  exact ⟨v, by rw [h1]; exact h3, h4⟩
theorem valV_rel {K : PySem.W.Frag} {ρ : List Addr} {H : Hp} {k : Key} {p : PV} : ∀ {kvs : List (Key × PV)} {ws : List (Key × V)}, KVR (· = ·) K ρ H kvs ws → findK kvs k = some p → ∃ v, valV ws k = some v ∧ VR K ρ H p v
  | [], _, .nil, e => by cases e
  | (k', p') :: kvs, (k2, v) :: ws, .cons a r, e => by
    obtain ⟨e1, e2⟩ := a
    cases (show k' = k2 from e1)
    unfold findK at e
    rw [List.find?_cons] at e
    by_cases hk : k' = k
    · subst hk
      simp only [decide_true] at e
      cases e
      exact ⟨v, by simp [valV], e2⟩
    · simp only [hk, decide_false] at e
      obtain ⟨v', h1, h2⟩ := valV_rel r e
      exact ⟨v', by simp [valV, List.find?_cons, hk]; simpa [valV] using h1, h2⟩
theorem ix_any (hK : X.K = G.K) (hu : X.A.units + 1 < cLine) : IxR X (rD G fun x i h => Fx.opt (getIx h x i) h) := by
  intro value slice pins s σ H x y v u Q I rx ry ⟨Wx, ρ, h, p, q, hr, rp, rq, pq⟩ hs
  obtain ⟨w, ew, p2⟩ := Post.opt pq
  have dic : ∀ {n : Nat} {a : Addr} {kvs : List (Key × PV)} {k : Key}, p = .ref n → ρ[n]? = some a → h.get n = some (.dic kvs) → findK kvs k = some w → x = .ref a → y = kV k → wpAny (model X.prog X.w) X.A (subscriptTail value slice v u) (EP X pins σ Q) X.xe s := by
    intro n a kvs k ep ea en ef ex ey
    subst ex; subst ey
    obtain ⟨ws, h1, r⟩ := hr.at_ en ea
    obtain ⟨z, e1, rz⟩ := valV_rel r ef
    obtain rfl : v = Value.ref a := rx
    have g : DGet H a (kV k) (some z) := by rw [← e1]; exact DGet.k h1
    exact tail_any (dict_typeIs I g) PySem.F.slot_dict_getitem.lookup (d_getItem hu I g ry fun w' s3 I3 rw' => ⟨z, H, I3, rw', Post.now (rel := relV G) p2 hr rz⟩) hs
  cases rq with
  | int i =>
    simp only [getIx] at ew
    split at ew
    · rename_i l hl
      obtain ⟨a, vs, rfl, rs, hq⟩ := seqOf_rel hr rp hl
      obtain ⟨z, ez, rz⟩ := atI_rel rs ew
      rcases hq with hq | hq
      · exact ix_list value slice pins s σ H _ _ v u Q I rx ry ⟨a, vs, i, z, rfl, rfl, hK ▸ hq, ez, Post.now (rel := relV G) p2 hr rz⟩ hs
      · exact ix_tup value slice pins s σ H _ _ v u Q I rx ry ⟨a, vs, i, z, rfl, rfl, hK ▸ hq, ez, Post.now (rel := relV G) p2 hr rz⟩ hs
    · split at ew
      · split at ew
        · rename_i kvs en
          obtain ⟨a, rfl, ea⟩ := rp.ref_inv
          exact dic rfl ea en ew rfl rfl
        · cases ew
      · cases ew
  | str z =>
    simp only [getIx] at ew
    split at ew
    · split at ew
      · rename_i kvs en
        obtain ⟨a, rfl, ea⟩ := rp.ref_inv
        exact dic rfl ea en ew rfl rfl
      · cases ew
    · cases ew
  | _ => cases ew
def isSlice : Expr → Bool
  | .Slice .. => true
  | _ => false
theorem plainIx {b : Expr} (h : isSlice b = false) : PlainIx b := fun o i => by
  cases b <;> first | rfl | cases h
theorem pd_idx {b : Expr} {db : Dn} (hK : X.K = G.K) (hu : X.A.units + 1 < cLine) (ha : PE X e (tD G W d)) (hb : PE X b (tD G W db)) (hs : isSlice b = false) : PE X (.Subscript e b pos) (tD G W (d2 (fun x i h => Fx.opt (getIx h x i) h) d db)) :=
  PE.weak (pe_ix (ix_any hK hu) ha hb (plainIx hs)) fun _ _ _ h => to2 h
abbrev Do := Sl → PH → Res (Option Int)
def dPart (d : Dn) : Do := fun σ h => (d σ h).bind fun x h1 => match x with
    | .int i => .ok (some i) h1
    | _ => .no
def dNoP : Do := fun _ h => .ok none h
theorem pd_none : L2.PO X none (tDO G W dNoP) := ⟨fun pins s σ H Q I ⟨ρ, sp, h, sl, hr, p⟩ => po_none.run pins s σ H Q I (Post.now (rel := relOI) p hr rfl)⟩
theorem pd_some (he : PE X e (tD G W d)) : L2.PO X (some e) (tDO G W (dPart d)) := ⟨fun pins s σ H Q I ⟨ρ, sp, h, sl, hr, p⟩ => (po_some he).run pins s σ H Q I ⟨ρ, sp, h, sl, hr, Post.bind p fun x h1 ρ1 H1 v _ le k hr1 rx p1 => by
  cases x with
  | int i => exact ⟨i, VR.int_inv rx, Post.now (rel := relOI) p1 hr1 rfl⟩
  | _ => exact False.elim p1⟩⟩
def dSlc (d : Dn) (dl du : Do) : Dn := fun σ h => (d σ h).bind fun x h1 => (dl σ h1).bind fun l h2 => (du σ h2).bind fun u h3 => slice x l u h3
theorem cut_rel {K : PySem.W.Frag} {ρ : List Addr} {H : Hp} {l : List PV} {vs : List V} (r : VRs K ρ H l vs) (lo hi : Option Int) : VRs K ρ H (cutP l lo hi) (cutV vs lo hi) := by
  unfold cutP cutV
  rw [← r.length]
  exact VRs.take _ (VRs.drop _ r)
theorem pd_slc {lo hi : Option Expr} {dl du : Do} (hK : X.K = G.K) (ha : PE X e (tD G W d)) (hl : L2.PO X lo (tDO G W dl)) (hh : L2.PO X hi (tDO G W du)) : PE X (.Subscript e (.Slice lo hi none p2) pos) (tD G W (dSlc d dl du)) :=
  PE.weak (pe_slice (sl_list.or sl_tupA) ha hl hh) fun σ H Q ⟨ρ, sp, h, sl, hr, p⟩ => ⟨ρ, sp, h, sl, hr, Post.bind p fun x h1 ρ1 H1 v _ le k hr1 rx p1 => ⟨ρ1, sp, h1, sl.mono le k, hr1, Post.bind p1 fun l h2 ρ2 H2 l' _ le2 k2 hr2 rl p2 =>
    ⟨ρ2, sp, h2, (sl.mono le k.toKeep).mono le2 k2.toKeep, hr2, Post.bind p2 fun u h3 ρ3 H3 u' _ le3 k3 hr3 ru p3 => by
      cases (show l = l' from rl)
      cases (show u = u' from ru)
      have rx3 : VR G.K ρ3 H3 x v := VR.mono le3 k3.toKeep (VR.mono le2 k2.toKeep rx)
      cases rx3 with
      | @tup l0 a vs s r =>
        refine .inr ⟨a, vs, rfl, hK ▸ s, fun ⟨e1, e2⟩ => ?_, fun _ => ?_⟩
        · have : cutP l0 l u = l0 := by
            unfold cutP
            rw [r.length, e1, e2, ← r.length]
            simp
          have p4 : Post G (fun cls e H' => W cls e σ H') ρ3 H3 (relV G) (.ok (.tup (cutP l0 l u)) h3) Q := p3
          rw [this] at p4
          exact Post.now (rel := relV G) p4 hr3 (.tup s r)
        · exact Post.newTup p3 hr3 (cut_rel r l u)
      | @ref n a ea =>
        simp only [slice] at p3
        split at p3
        · rename_i l0 el
          obtain ⟨vs, h1, r⟩ := hr3.at_ el ea
          exact .inl ⟨a, vs, rfl, .inl (.inl h1), Post.newList p3 hr3 (cut_rel r l u)⟩
        · rename_i l0 el
          obtain ⟨ob, vs, h1, r⟩ := hr3.at_ el ea
          exact .inl ⟨a, vs, rfl, .inl (.inr ⟨ob, h1⟩), Post.newList p3 hr3 (cut_rel r l u)⟩
        · exact False.elim p3
      | _ => exact False.elim p3⟩⟩⟩

/-! ### fields -/
def isCall0 : Expr → Bool
  | .Call (.Name ..) [] [] _ => true
  | _ => false
theorem base_eq (h : isCall0 o = false) (f : Str) (env : Env) (w : Sem Value) : attributeBase o f env w = w := by
  unfold attributeBase
  split
  · simp [isCall0] at h
  · rfl
theorem lookup_rel {K : PySem.W.Frag} {ρ : List Addr} {H : Hp} {C : Addr} {f : Nat} {name : Str} {p : PV} (nd : G.nms.Nodup) (hn : G.nms[f]? = some name) : ∀ {fs : List (Nat × PV)} {ws : List (Str × V)}, KVR (fun f name => G.nms[f]? = some name ∧ NoAttr K C name) K ρ H fs ws →
    fs.lookup f = some p → ∃ v, ws.lookup name = some v ∧ VR K ρ H p v ∧ NoAttr K C name
  | [], _, .nil, e => by cases e
  | (g, p') :: fs, (n2, v) :: ws, .cons a r, e => by
    obtain ⟨⟨e1, e0⟩, e2⟩ := a
    rw [List.lookup_cons] at e
    by_cases hk : f = g
    · subst hk
      have e3 : G.nms[f]? = some n2 := e1
      rw [hn] at e3
      cases e3
      simp only [beq_self_eq_true] at e
      cases e
      exact ⟨v, by simp [List.lookup_cons], e2, e0⟩
    · have hb : (f == g) = false := beq_eq_false_iff_ne.mpr hk
      rw [hb] at e
      obtain ⟨v', h1, h2⟩ := lookup_rel nd hn r e
      refine ⟨v', ?_, h2⟩
      have hne : name ≠ n2 := fun z => hk (by
        subst z
        have e3 : G.nms[g]? = some name := e1
        obtain ⟨l1, q1⟩ := List.getElem?_eq_some_iff.mp hn
        obtain ⟨l2, q2⟩ := List.getElem?_eq_some_iff.mp e3
        exact (List.getElem_inj nd).mp (q1.trans q2.symm))
      rw [List.lookup_cons, beq_eq_false_iff_ne.mpr hne]
      exact h1
theorem lookup_name {K : PySem.W.Frag} {ρ : List Addr} {H : Hp} {C : Addr} {f : Nat} {p : PV} : ∀ {fs : List (Nat × PV)} {ws : List (Str × V)}, KVR (fun f name => G.nms[f]? = some name ∧ NoAttr K C name) K ρ H fs ws → fs.lookup f = some p → ∃ name, G.nms[f]? = some name
  | [], _, .nil, e => by cases e
  | (g, p') :: fs, (n2, v) :: ws, .cons a r, e => by
    rw [List.lookup_cons] at e
    by_cases hk : f = g
    · subst hk; exact ⟨_, a.1.1⟩
    · rw [beq_eq_false_iff_ne.mpr hk] at e
      exact lookup_name r e
def dFld (d : Dn) (f : Nat) : Dn := fun σ h => (d σ h).bind fun x h1 => Fx.opt (getFld x f h1) h1
theorem pd_fld {f : Nat} {name : Str} (hK : X.K = G.K) (hn : G.nms[f]? = some name) (ho : PE X o (tD G W d)) (hb : isCall0 o = false) : PE X (.Attribute o name pos) (tD G W (dFld d f)) :=
  PE.weak (pe_fld ho (base_eq hb _ _ _)) fun σ H Q ⟨ρ, sp, h, sl, hr, p⟩ => ⟨ρ, sp, h, sl, hr, Post.bind p fun x h1 ρ1 H1 v _ le k hr1 rx p1 => by
    obtain ⟨w, ew, p2⟩ := Post.opt p1
    unfold getFld at ew
    split at ew
    · rename_i n
      split at ew
      · rename_i c fs en
        obtain ⟨a, rfl, ea⟩ := VR.ref_inv rx
        obtain ⟨dx, ws, h2, hc, r⟩ := hr1.at_ en ea
        obtain ⟨z, e1, rz, na⟩ := lookup_rel G.nd hn r ew
        exact ⟨a, G.cm c, dx, ws, z, rfl, h2, by rw [hK]; exact hc, by rw [hK]; exact na, e1, Post.now (rel := relV G) p2 hr1 rz⟩
      · cases ew
    · cases ew⟩

/-! ### calls -/
def spOf (G : Glob) (R : Rn) (f : Nat) : Sp := fun vs H Q E => ∃ ρ args h, HR G ρ h H ∧ VRs G.K ρ H args vs ∧ Post G E ρ H (relV G) (R f args h) Q
abbrev FnC (G : Glob) (X : Cx) (j : Nat) (R : Rn) (f : Nat) : Prop := FnOk X.prog X.w X.K X.mg X.base (L2.CX X.prog X.w) j (G.fa f) (G.fd f) (G.ps f) (spOf G R f)
/-- the values of the parameters that are not given -/
def Dfl (G : Glob) (K : PySem.W.Frag) (f : Nat) (dfs : List PV) : Prop := ∃ (dvs : List V) (dus : List Value), L2.Binds K (G.fd f) (G.ps f) dus ∧ Vals dvs dus ∧ ∀ ρ H, VRs G.K ρ H dfs dvs
def dCall (R : Rn) (f : Nat) (ds : Da) (dfs : List PV) : Dn := fun σ h => (ds σ h).bind fun vs h1 => R f (vs ++ dfs) h1
theorem pd_call {j f : Nat} {R : Rn} {x : Str} {dfs : List PV} (tk : Takes X W) (F : FnC G X j R f) (hr : Room j X.A) (hg : Gl X x) (hm : X.mg x = some (.ref (G.fa f))) (hk : PySem.W.keepIn X.K (.ref (G.fa f)) = true) (hd : Dfl G X.K f dfs)
    (hs : isStar e = false) (hp : plainA es = true) (hdb : (x == ("__debug__" : Str)) = false) (ha : PA X (e :: es) (tDA G W ds)) : PE X (.Call (.Name x p1) (e :: es) [] pos) (tD G W (dCall R f ds dfs)) := by
  obtain ⟨dvs, dus, hb, hv, hr'⟩ := hd
  exact PE.weak (pe_callSD (E := WE W) F hr hg hm hk hb hv (fun σ => passAt tk σ) ha hdb (starEach_cons hs _) (any_plain hp _)) fun σ H Q ⟨ρ, sp, h, sl, hr, p⟩ => ⟨ρ, sp, h, sl, hr, Post.bind p fun xs h1 ρ1 H1 vs _ le k hr1 rx p1 =>
    ⟨ρ1, _, h1, hr1, VRs.append rx (hr' ρ1 H1), p1⟩⟩
theorem pd_call0 {j f : Nat} {R : Rn} {x : Str} {dfs : List PV} (tk : Takes X W) (F : FnC G X j R f) (hr : Room j X.A) (hg : Gl X x) (hm : X.mg x = some (.ref (G.fa f))) (hk : PySem.W.keepIn X.K (.ref (G.fa f)) = true) (hd : Dfl G X.K f dfs)
    (hdb : (x == ("__debug__" : Str)) = false) : PE X (.Call (.Name x p1) [] [] pos) (tD G W (dCall R f dNil dfs)) := by
  obtain ⟨dvs, dus, hb, hv, hr'⟩ := hd
  refine ⟨fun pins s σ H Q I ⟨ρ, sp, h, sl, hr2, p⟩ => ?_⟩
  refine wpAny_Call_Name_kw (ld_glob I hg hm ?_ hdb)
  exact PySem.W.callWith_K0 I.kIn hk (run_fnSD (us := []) (vs := []) (E := WE W) F hr hb hv (passAt tk σ) I .nil ⟨ρ, _, h, hr2, hr' ρ H, p⟩)
/-- methods: the class's own -/
def MtOk (G : Glob) (K : PySem.W.Frag) : Prop := ∀ c m f, G.P.mt c m = some f → ∃ name, G.mns[m]? = some name ∧ Meth K (G.cm c) name (G.fa f) ∧ L2.Binds K (G.fd f) (G.ps f) []
theorem noField {K : PySem.W.Frag} {ρ : List Addr} {H : Hp} {C g : Addr} {m : Str} (k : Meth K C m g) : ∀ {fs : List (Nat × PV)} {ws : List (Str × V)}, KVR (fun f name => G.nms[f]? = some name ∧ NoAttr K C name) K ρ H fs ws → ws.lookup m = none
  | [], _, .nil => rfl
  | (f, p') :: fs, (n2, v) :: ws, .cons a r => by
    have hne : m ≠ n2 := fun z => by
      subst z
      have h1 := a.1.2
      unfold NoAttr at h1
      rw [k.at_] at h1
      cases h1
    rw [List.lookup_cons, beq_eq_false_iff_ne.mpr hne]
    exact noField k r
theorem meth_ht (hb : isCall0 o = false) (hp : plainA es = true) (hl : es.length < 30) (line : (apos.endLine == pos.line) = true) (name : Str) (env : Env) : eval (.Call (.Attribute o name apos) es [] pos) env = (do
      let ov ← eval o env
      standAt apos.atName
      let (f, first) ← holding [ov] (getMethod ov name (do return (← importBound o env).getD true))
      callWith pos f first (backTo pos (starEach es env)) (backToKw pos (keywordEach [] env))) := by
  have hf : methodCallForm (es.length + ([] : List Keyword).length) (backTo pos (starEach es env)) (backToKw pos (keywordEach [] env)) = true := by
    have h1 : (backTo pos (starEach es env)).all (!·.1) = true := by
      rw [List.all_eq_true]
      intro x hx
      unfold backTo at hx
      obtain ⟨y, hy, rfl⟩ := List.mem_map.mp hx
      simp [starEach_plain hp env y hy]
    unfold methodCallForm
    rw [h1]
    have h2 : (backToKw pos (keywordEach [] env)) = [] := rfl
    rw [h2]
    simp [hl]
  rw [arm_eval_Call, base_eq hb]
  unfold methodCall methodCallPos calleeOf
  rw [hf]
  simp only [Bool.not_true, Bool.false_or, line, if_true]
  rfl
end
end Fx

/-! Built-in functions, methods of lists, makers, comprehensions. -/
namespace Fx
open PySem PySem.Spec PyProof.Rows L2
section
variable {G : Glob} {X : Cx} {W : WX} {e o : Expr} {es : List Expr} {d dx : Dn} {ds : Da} {pos p1 p2 apos : Pos}

/-! ### built-in functions -/
def dBlt (b : Blt) (ds : Da) : Dn := fun σ h => (ds σ h).bind fun vs h1 => Fx.blt b vs h1
theorem toCB {f : List PV → PH → Res PV} {σ : L2.St} {H : Hp} {Q : VK} (h : tD G W (fun σ h => (ds σ h).bind fun vs h1 => f vs h1) σ H Q) : tCB (rDC G f) (tDA G W ds) σ H Q := by
  obtain ⟨ρ, sp, h, sl, hr, p⟩ := h
  exact ⟨ρ, sp, h, sl, hr, Post.bind p fun x h1 ρ1 H1 v _ le k hr1 rx p1 => ⟨_, ρ1, h1, x, hr1, rx, p1⟩⟩
theorem VRs.one_inv {K : PySem.W.Frag} {ρ : List Addr} {H : Hp} {p : PV} {vs : List V} (h : VRs K ρ H [p] vs) : ∃ v, vs = [v] ∧ VR K ρ H p v := by
  obtain ⟨v, r, rfl, h1, h2⟩ := h.cons_inv
  exact ⟨v, by rw [h2.nil_inv], h1⟩
theorem VRs.two_inv {K : PySem.W.Frag} {ρ : List Addr} {H : Hp} {p q : PV} {vs : List V} (h : VRs K ρ H [p, q] vs) : ∃ v w, vs = [v, w] ∧ VR K ρ H p v ∧ VR K ρ H q w := by
  obtain ⟨v, r, rfl, h1, h2⟩ := h.cons_inv
  obtain ⟨w, rfl, h3⟩ := h2.one_inv
  exact ⟨v, w, rfl, h1, h3⟩
theorem cr_len (hK : X.K = G.K) : CallR X (.builtin "len") (rDC G (Fx.blt .len)) := by
  intro pins s σ H xs us Q I rs ⟨Wx, ρ, h, ps, hr, rp, pq⟩
  match ps, rp, pq with
  | [], _, pq => exact False.elim pq
  | p :: _ :: _, _, pq => exact False.elim (by cases p <;> exact pq)
  | [p], rp, pq =>
    obtain ⟨v, rfl, rv⟩ := rp.one_inv
    cases rv with
    | str z =>
      have pq' : Post G Wx ρ H (relV G) (if z.length ≤ LINE then .ok (.int z.length) h else .no) Q := pq
      split at pq'
      · rename_i hl
        exact call_len pins s σ H _ us Q I rs ⟨_, _, rfl, ⟨by rw [← LINE_eq]; exact hl, rfl⟩, Post.now (rel := relV G) pq' hr (.int _)⟩
      · exact False.elim pq'
    | tup sq r =>
      have := Post.now (rel := relV G) (show Post G Wx ρ H (relV G) (.ok (.int _) h) Q from pq) hr (.int _)
      rw [r.length] at this
      exact call_len_seq pins s σ H _ us Q I rs ⟨_, _, rfl, .inr (hK ▸ sq), this⟩
    | @ref n a ea =>
      have pq' : Post G Wx ρ H (relV G) (match seqOf h (.ref n) with | some l => .ok (.int l.length) h | none => .no) Q := pq
      split at pq'
      · rename_i l hl
        obtain ⟨a', vs, e', r, sq⟩ := seqOf_rel hr (.ref ea) hl
        have := Post.now (rel := relV G) pq' hr (.int _)
        rw [r.length] at this
        cases e'
        exact call_len_seq pins s σ H _ us Q I rs ⟨_, _, rfl, hK ▸ sq, this⟩
      · exact False.elim pq'
    | _ => exact False.elim pq
theorem cr_int : CallR X (.type "int") (rDC G (Fx.blt .int)) := by
  intro pins s σ H xs us Q I rs ⟨Wx, ρ, h, ps, hr, rp, pq⟩
  match ps, rp, pq with
  | [], _, pq => exact False.elim pq
  | p :: _ :: _, _, pq => exact False.elim (by cases p <;> exact pq)
  | [p], rp, pq =>
    obtain ⟨v, rfl, rv⟩ := rp.one_inv
    cases rv with
    | int i => exact call_int1 pins s σ H _ us Q I rs (.inl ⟨i, rfl, Post.now (rel := relV G) pq hr (.int _)⟩)
    | bl b => exact call_int1 pins s σ H _ us Q I rs (.inr ⟨b, rfl, Post.now (rel := relV G) pq hr (.int _)⟩)
    | _ => exact False.elim pq
theorem cr_bool : CallR X (.type "bool") (rDC G (Fx.blt .bool)) := by
  intro pins s σ H xs us Q I rs ⟨Wx, ρ, h, ps, hr, rp, pq⟩
  match ps, rp, pq with
  | [], _, pq => exact False.elim pq
  | p :: _ :: _, _, pq => exact False.elim (by cases p <;> exact pq)
  | [p], rp, pq =>
    obtain ⟨v, rfl, rv⟩ := rp.one_inv
    cases rv with
    | int i => exact call_bool1 pins s σ H _ us Q I rs (.inl ⟨i, rfl, Post.now (rel := relV G) pq hr (.bl _)⟩)
    | bl b => exact call_bool1 pins s σ H _ us Q I rs (.inr ⟨b, rfl, Post.now (rel := relV G) pq hr (.bl _)⟩)
    | _ => exact False.elim pq
theorem cr_tuple (hK : X.K = G.K) : CallR X (.type "tuple") (rDC G (Fx.blt .tuple)) := by
  intro pins s σ H xs us Q I rs ⟨Wx, ρ, h, ps, hr, rp, pq⟩
  match ps, rp, pq with
  | [], _, pq => exact False.elim pq
  | p :: _ :: _, _, pq => exact False.elim (by cases p <;> exact pq)
  | [p], rp, pq =>
    obtain ⟨v, rfl, rv⟩ := rp.one_inv
    have pq' : Post G Wx ρ H (relV G) (match seqOf h p with | some l => .ok (.tup l) h | none => .no) Q := pq
    split at pq'
    · rename_i l hl
      obtain ⟨a, vs, rfl, r, sq⟩ := seqOf_rel hr rv hl
      refine call_tuple_of pins s σ H _ us Q I rs ⟨a, vs, rfl, ?_⟩
      rcases sq with sq | sq
      · exact .inl ⟨hK ▸ sq, Post.newTup pq' hr r⟩
      · exact .inr ⟨hK ▸ sq, Post.now (rel := relV G) pq' hr (.tup sq r)⟩
    · exact False.elim pq'
theorem cr_list (hK : X.K = G.K) : CallR X (.type "list") (rDC G (Fx.blt .list)) := by
  intro pins s σ H xs us Q I rs ⟨Wx, ρ, h, ps, hr, rp, pq⟩
  match ps, rp, pq with
  | [], _, pq => exact False.elim pq
  | p :: _ :: _, _, pq => exact False.elim (by cases p <;> exact pq)
  | [p], rp, pq =>
    obtain ⟨v, rfl, rv⟩ := rp.one_inv
    have pq' : Post G Wx ρ H (relV G) (match seqOf h p with | some l => alloc (.lst l) h | none => .no) Q := pq
    split at pq'
    · rename_i l hl
      obtain ⟨a, vs, rfl, r, sq⟩ := seqOf_rel hr rv hl
      exact call_list_of pins s σ H _ us Q I rs ⟨a, vs, rfl, hK ▸ sq, Post.newList pq' hr r⟩
    · exact False.elim pq'
theorem cr_min (hc : X.calm = true) : CallR X (.builtin "min") (rDC G (Fx.blt .min2)) := by
  intro pins s σ H xs us Q I rs ⟨Wx, ρ, h, ps, hr, rp, pq⟩
  rcases ps with _ | ⟨p, _ | ⟨q, _ | ⟨w, ws⟩⟩⟩
  · exact False.elim pq
  · exact False.elim (by cases p <;> exact pq)
  rotate_left
  · exact False.elim (by cases p <;> cases q <;> exact pq)
  cases p <;> cases q <;> first | exact False.elim pq | skip
  rename_i i j
  obtain ⟨v, w, rfl, r1, r2⟩ := rp.two_inv
  cases r1.int_inv
  cases r2.int_inv
  exact call_min2 hc pins s σ H _ us Q I rs ⟨i, j, rfl, Post.now (rel := relV G) pq hr (.int _)⟩
theorem cr_max (hc : X.calm = true) : CallR X (.builtin "max") (rDC G (Fx.blt .max2)) := by
  intro pins s σ H xs us Q I rs ⟨Wx, ρ, h, ps, hr, rp, pq⟩
  rcases ps with _ | ⟨p, _ | ⟨q, _ | ⟨w, ws⟩⟩⟩
  · exact False.elim pq
  · exact False.elim (by cases p <;> exact pq)
  rotate_left
  · exact False.elim (by cases p <;> cases q <;> exact pq)
  cases p <;> cases q <;> first | exact False.elim pq | skip
  rename_i i j
  obtain ⟨v, w, rfl, r1, r2⟩ := rp.two_inv
  cases r1.int_inv
  cases r2.int_inv
  exact call_max2 hc pins s σ H _ us Q I rs ⟨i, j, rfl, Post.now (rel := relV G) pq hr (.int _)⟩
def bltName : Blt → Str
  | .len => "len" | .int => "int" | .tuple => "tuple" | .list => "list" | .min2 => "min" | .max2 => "max" | .bool => "bool"
theorem pd_blt {b : Blt} (hK : X.K = G.K) (hc : X.calm = true) (hg : Gl X (bltName b)) (hm : X.mg (bltName b) = none) (hs : isStar e = false) (hp : plainA es = true) (ha : PA X (e :: es) (tDA G W ds)) : PE X (.Call (.Name (bltName b) p1) (e :: es) [] pos) (tD G W (dBlt b ds)) := by
  cases b with
  | len => exact PE.weak (pe_callB (cr_len hK) hg hm boot_len ha (by decide) (by decide) (starEach_cons hs _) (any_plain hp _)) fun _ _ _ h => toCB h
  | int => exact PE.weak (pe_callTy cr_int hg hm boot_int ha (by decide) (by decide) (starEach_cons hs _) (any_plain hp _)) fun _ _ _ h => toCB h
  | tuple => exact PE.weak (pe_callTy (cr_tuple hK) hg hm boot_tuple ha (by decide) (by decide) (starEach_cons hs _) (any_plain hp _)) fun _ _ _ h => toCB h
  | list => exact PE.weak (pe_callTy (cr_list hK) hg hm boot_list ha (by decide) (by decide) (starEach_cons hs _) (any_plain hp _)) fun _ _ _ h => toCB h
  | min2 => exact PE.weak (pe_callB (cr_min hc) hg hm boot_min ha (by decide) (by decide) (starEach_cons hs _) (any_plain hp _)) fun _ _ _ h => toCB h
  | max2 => exact PE.weak (pe_callB (cr_max hc) hg hm boot_max ha (by decide) (by decide) (starEach_cons hs _) (any_plain hp _)) fun _ _ _ h => toCB h
  | bool => exact PE.weak (pe_callTy cr_bool hg hm boot_bool ha (by decide) (by decide) (starEach_cons hs _) (any_plain hp _)) fun _ _ _ h => toCB h

/-! ### isinstance -/
def tyName : Ty → String
  | .int => "int" | .bool => "bool" | .str => "str" | .tuple => "tuple" | .list => "list"
def kinds : List String := ["NoneType", "bool", "int", "str", "tuple", "list", "dict"]
theorem kit_all : ∀ a ∈ kinds, ∀ t : Ty, kitB a (tyName t) = some (a == tyName t || (a == "bool" && tyName t == "int")) := by
  intro a ha t
  revert a
  cases t <;> decide +kernel
theorem isT_rel {ρ : List Addr} {H : Hp} {h : PH} {p : PV} {x : V} {t : Ty} {b : Bool} (hr : HR G ρ h H) (r : VR G.K ρ H p x) (e : isT h t p = some b) : ∃ a ∈ kinds, TyX G.K H x (.type a) ∧ (a == tyName t || (a == "bool" && tyName t == "int")) = b := by
  cases r with
  | non => cases e; exact ⟨"NoneType", by simp [kinds], .base .non, by cases t <;> decide⟩
  | bl c => cases e; exact ⟨"bool", by simp [kinds], .base (.bl c), by cases t <;> decide⟩
  | int c => cases e; exact ⟨"int", by simp [kinds], .base (.int c), by cases t <;> decide⟩
  | str c => cases e; exact ⟨"str", by simp [kinds], .base (.str c), by cases t <;> decide⟩
  | tup s r =>
    cases e
    refine ⟨"tuple", by simp [kinds], ?_, by cases t <;> decide⟩
    rcases s with (s | ⟨o, s⟩) | ⟨o, its, n, h1, h2, _⟩
    · exact .base (.tup s)
    · exact .fTuple s
    · exact .kTuple h1 h2
  | @ref n a ea =>
    simp only [isT] at e
    split at e
    · rename_i l el
      cases e
      obtain ⟨vs, h1, _⟩ := hr.at_ el ea
      exact ⟨"list", by simp [kinds], .base (.lst h1), by cases t <;> decide⟩
    · rename_i l el
      cases e
      obtain ⟨vs, h1, _⟩ := hr.at_ el ea
      exact ⟨"dict", by simp [kinds], .base (.dK h1), by cases t <;> decide⟩
    · cases e
theorem boot_ty (t : Ty) : bootBuiltins (Str.ofString (tyName t)) = some (.type (tyName t)) := by
  cases t
  · exact boot_int
  · exact boot_bool
  · exact boot_str
  · exact boot_tuple
  · exact boot_list
def dIsi (d : Dn) (t : Ty) : Dn := fun σ h => (d σ h).bind fun x h1 => (Fx.opt (isT h1 t x) h1).bind fun b h2 => .ok (.bl b) h2
theorem pd_isi {t : Ty} (hK : X.K = G.K) (hg : Gl X "isinstance") (hm : X.mg "isinstance" = none) (hg2 : Gl X (Str.ofString (tyName t))) (hm2 : X.mg (Str.ofString (tyName t)) = none) (hs : isStar e = false) (he : PE X e (tD G W d)) :
    PE X (.Call (.Name "isinstance" p1) [e, .Name (Str.ofString (tyName t)) p2] [] pos) (tD G W (dIsi d t)) := by
  have ha : PA X [e, .Name (Str.ofString (tyName t)) p2] (tCons (tD G W d) (tCons (tC (.ty (tyName t))) tNil)) :=
    pa_cons he (pa_cons (pe_bltn (v := .ty (tyName t)) hg2 hm2 (boot_ty t) rfl (by cases t <;> decide) (by cases t <;> decide)) pa_nil rfl) (starEach_cons hs _)
  refine PE.weak (pe_callB call_isi hg hm boot_isinstance ha (by decide) (by decide) (starEach_cons hs _) rfl) fun σ H Q ⟨ρ, sp, h, sl, hr, p⟩ => ⟨ρ, sp, h, sl, hr, Post.bind p fun x h1 ρ1 H1 v _ le k hr1 rx p1 => ?_⟩
  obtain ⟨b, eb, p2⟩ := Post.optBind p1
  obtain ⟨a, ha, tx, e2⟩ := isT_rel hr1 rx eb
  refine ⟨v, .ty (tyName t), .type a, .type (tyName t), b, rfl, .ty _, hK ▸ tx, kit_ty (by rw [kit_all a ha t, e2]), bl_rel p2 hr1⟩

/-! ### methods of lists -/
theorem indexP_at {x : PV} : ∀ {l : List PV} {j : Nat}, indexP x l = some j → ∃ z, l[j]? = some z ∧ eqF z x = true ∧ ∀ m z', m < j → l[m]? = some z' → eqF z' x = false
  | [], j, e => by cases e
  | y :: r, j, e => by
    unfold indexP at e
    by_cases hy : eqF y x = true
    · rw [if_pos hy] at e
      cases e
      exact ⟨y, rfl, hy, fun m _ h => by omega⟩
    · rw [if_neg hy] at e
      obtain ⟨i, ei, rfl⟩ := Option.map_eq_some_iff.mp e
      obtain ⟨z, h1, h2, h3⟩ := indexP_at ei
      refine ⟨z, by simpa using h1, h2, fun m z' hm ez => ?_⟩
      cases m with
      | zero => simp at ez; subst ez; simpa using hy
      | succ m => exact h3 m z' (by omega) (by simpa using ez)
theorem index_rel {K : PySem.W.Frag} {ρ : List Addr} {H : Hp} {l : List PV} {vs : List V} {x : PV} {y : V} {j : Nat} (r : VRs K ρ H l vs) (rx : VR K ρ H x y) (f : flat x = true) (fl : l.all flat = true) (e : indexP x l = some j) :
    ∃ z, vs[j]? = some z ∧ eqV z y = true ∧ ∀ m z', m < j → vs[m]? = some z' → eqV z' y = false := by
  obtain ⟨z, h1, h2, h3⟩ := indexP_at e
  have fa : ∀ {m : Nat} {z : PV}, l[m]? = some z → flat z = true := fun h => List.all_eq_true.mp fl _ (List.mem_of_getElem? h)
  obtain ⟨v, e1, rv⟩ := r.get h1
  refine ⟨v, e1, by rw [eqF_rel rv rx (fa h1) f]; exact h2, fun m z' hm ez => ?_⟩
  cases hq : l[m]? with
  | none =>
    have := r.none hq
    rw [this] at ez; cases ez
  | some q =>
    obtain ⟨v2, e2, rv2⟩ := r.get hq
    rw [ez] at e2
    cases e2
    rw [eqF_rel rv2 rx (fa hq) f]
    exact h3 m q hm hq
def rDM (G : Glob) (f : PV → List PV → PH → Res PV) : V → List V → Hp → VK → Prop := fun x xs H Q => ∃ Wx ρ h p ps, HR G ρ h H ∧ VR G.K ρ H p x ∧ VRs G.K ρ H ps xs ∧ Post G Wx ρ H (relV G) (f p ps h) Q
theorem lst_wr {ρ : List Addr} {H : Hp} {h : PH} {n : Nat} {a : Addr} {l l' : List PV} {vs vs' : List V} {Wx : XK} {Q : VK} (hr : HR G ρ h H) (en : h.get n = some (.lst l)) (ea : ρ[n]? = some a) (h1 : H a = some (.lst vs)) (r : VRs G.K ρ H l' vs')
    (p : Post G Wx ρ H (relV G) (.ok .non (h.set n (.lst l'))) Q) : Q .non (upd H a (.lst vs')) := by
  have sf : Soft (H a) := by rw [h1]; trivial
  exact p ρ _ _ (Le.refl _) (Frm.write (List.mem_of_getElem? ea) sf) (hr.set en ea sf ⟨vs', upd_same, r.mono (Le.refl _) (Keep.upd sf)⟩) .non
theorem mr_append : MtR X "list.append" (rDM G (lmeth .append)) := by
  intro pins s σ H x xs v us Q I rx rs ⟨Wx, ρ, h, p, ps, hr, rp, rps, pq⟩
  unfold lmeth at pq
  split at pq <;> first | exact False.elim pq | (rename_i e; cases e; done) | skip
  rename_i a z e
  split at pq
  · rename_i l el
    split at pq
    · rename_i hl
      obtain ⟨ad, rfl, ea⟩ := rp.ref_inv
      obtain ⟨y, rfl, ry⟩ := rps.one_inv
      obtain ⟨vs, h1, r⟩ := hr.at_ el ea
      exact mt_append pins s σ H _ _ v us Q I rx rs ⟨ad, vs, y, rfl, rfl, h1, by rw [← LINE_eq, ← r.length]; exact hl, lst_wr hr el ea h1 (r.append (.cons ry .nil)) pq⟩
    · exact False.elim pq
  · exact False.elim pq
theorem mr_extend : MtR X "list.extend" (rDM G (lmeth .extend)) := by
  intro pins s σ H x xs v us Q I rx rs ⟨Wx, ρ, h, p, ps, hr, rp, rps, pq⟩
  unfold lmeth at pq
  split at pq <;> first | exact False.elim pq | (rename_i e; cases e; done) | skip
  rename_i a b e
  split at pq
  · rename_i l r el er
    split at pq
    · rename_i hl
      obtain ⟨ad, rfl, ea⟩ := rp.ref_inv
      obtain ⟨y, rfl, ry⟩ := rps.one_inv
      obtain ⟨bd, rfl, eb⟩ := ry.ref_inv
      obtain ⟨vs, h1, r1⟩ := hr.at_ el ea
      obtain ⟨ws, h2, r2⟩ := hr.at_ er eb
      exact mt_extend pins s σ H _ _ v us Q I rx rs ⟨ad, bd, vs, ws, rfl, rfl, h1, h2, by rw [← LINE_eq, ← r1.length, ← r2.length]; exact hl.2, lst_wr hr el ea h1 (r1.append r2) pq⟩
    · exact False.elim pq
  · exact False.elim pq
theorem mr_reverse : MtR X "list.reverse" (rDM G (lmeth .reverse)) := by
  intro pins s σ H x xs v us Q I rx rs ⟨Wx, ρ, h, p, ps, hr, rp, rps, pq⟩
  unfold lmeth at pq
  split at pq <;> first | exact False.elim pq | (rename_i e; cases e; done) | skip
  rename_i a e
  split at pq
  · rename_i l el
    obtain ⟨ad, rfl, ea⟩ := rp.ref_inv
    cases rps.nil_inv
    obtain ⟨vs, h1, r⟩ := hr.at_ el ea
    exact mt_reverse pins s σ H _ _ v us Q I rx rs ⟨ad, vs, rfl, rfl, h1, lst_wr hr el ea h1 r.reverse pq⟩
  · exact False.elim pq
theorem mr_index (hK : X.K = G.K) : MtR X "list.index" (rDM G (lmeth .index)) := by
  intro pins s σ H x xs v us Q I rx rs ⟨Wx, ρ, h, p, ps, hr, rp, rps, pq⟩
  unfold lmeth at pq
  split at pq <;> first | exact False.elim pq | (rename_i e; cases e; done) | skip
  rename_i a z e
  split at pq
  · rename_i hf
    split at pq
    · rename_i l hl
      split at pq
      · rename_i hfl
        split at pq
        · rename_i j ej
          obtain ⟨ad, rfl, ea⟩ := rp.ref_inv
          obtain ⟨y, rfl, ry⟩ := rps.one_inv
          obtain ⟨vs, r, sl⟩ := seqL_rel hr ea hl
          obtain ⟨w, h1, h2, h3⟩ := index_rel r ry hf hfl ej
          exact L2.mt_index pins s σ H _ _ v us Q I rx rs ⟨ad, vs, y, j, w, rfl, rfl, hK ▸ sl, flat_rel ry hf, (in_rel ry hf r hfl).1, h1, h2, h3, Post.now (rel := relV G) pq hr (.int _)⟩
        · exact False.elim pq
      · exact False.elim pq
    · exact False.elim pq
  · exact False.elim pq
end
end Fx

/-! Methods of lists by name; what is walked; comprehensions. -/
namespace Fx
open PySem PySem.Spec PyProof.Rows L2
section
variable {G : Glob} {X : Cx} {W : WX} {e o : Expr} {es : List Expr} {d dx : Dn} {ds : Da} {pos p1 p2 apos : Pos}
def dLm (m : Lm) (d : Dn) (ds : Da) : Dn := fun σ h => (d σ h).bind fun x h1 => (Fx.opt (lstAt h1 x) h1).bind fun _ h2 => (ds σ h2).bind fun vs h3 => lmeth m x vs h3
theorem lstAt_rel {ρ : List Addr} {H : Hp} {h : PH} {p : PV} {x : V} {u : Unit} (hr : HR G ρ h H) (r : VR G.K ρ H p x) (e : lstAt h p = some u) : tyV G.K "list" x H := by
  unfold lstAt at e
  split at e
  · obtain ⟨ad, rfl, ea⟩ := r.ref_inv
    split at e
    · rename_i l el
      obtain ⟨vs, h1, _⟩ := hr.at_ el ea
      exact .inl ⟨rfl, vs, .inl (.inl h1)⟩
    · rename_i l el
      obtain ⟨ob, vs, h1, _⟩ := hr.at_ el ea
      exact .inl ⟨rfl, vs, .inl (.inr ⟨ob, h1⟩)⟩
    · cases e
  · cases e
theorem few_ok (hs : isStar e = false) (hp : plainA es = true) (hl : es.length < 29) (env : Env) : ((backTo pos (starEach (e :: es) env)).all (fun x => !x.1) && (backToKw pos (keywordEach [] env)).all (fun x => x.1.isSome)
      && decide ((e :: es).length + ([] : List Keyword).length + (if ([] : List Keyword).isEmpty then 0 else 1) < 30)) = true := by
  have h1 : (backTo pos (starEach (e :: es) env)).all (fun x => !x.1) = true := by
    rw [List.all_eq_true]
    intro x hx
    unfold backTo at hx
    obtain ⟨y, hy, rfl⟩ := List.mem_map.mp hx
    simp [starEach_plain (es := e :: es) (by unfold plainA; rw [List.all_cons, hs]; exact hp) env y hy]
  rw [h1]
  have h2 : (backToKw pos (keywordEach [] env)) = [] := rfl
  rw [h2]
  simp
  omega
theorem pd_lm {m : Lm} {name id : _} (hK : X.K = G.K) (slot : Slot "list" name id) (hty : typeOf (.builtin id) = pure (.type "method_descriptor")) (hm : MtR X id (rDM G (lmeth m))) (ho : PE X o (tD G W d)) (ha : PA X (e :: es) (tDA G W ds))
    (hb : isCall0 o = false) (hs : isStar e = false) (hp : plainA es = true) (hl : es.length < 29) (line : (apos.endLine == pos.line) = true) : PE X (.Call (.Attribute o name apos) (e :: es) [] pos) (tD G W (dLm m d ds)) :=
  PE.weak (pe_bm PySem.F.plainAttrs_list slot hty hm ho ha (base_eq hb _ _ _) (few_ok hs hp hl _) line (starEach_cons hs _) (any_plain hp _)) fun σ H Q ⟨ρ, sp, h, sl, hr, p⟩ => ⟨ρ, sp, h, sl, hr, Post.bind p fun x h1 ρ1 H1 v _ le k hr1 rx p1 => by
    obtain ⟨u, eu, p2⟩ := Post.optBind p1
    exact ⟨by rw [hK]; exact lstAt_rel hr1 rx eu, ⟨ρ1, sp, h1, sl.mono le k, hr1, Post.bind p2 fun xs h2 ρ2 H2 vs _ le2 k2 hr2 rxs p3 => ⟨_, ρ2, h2, x, xs, hr2, VR.mono le2 k2.toKeep rx, rxs, p3⟩⟩⟩⟩
theorem pd_lm0 {m : Lm} {name id : _} (hK : X.K = G.K) (slot : Slot "list" name id) (hty : typeOf (.builtin id) = pure (.type "method_descriptor")) (hm : MtR X id (rDM G (lmeth m))) (ho : PE X o (tD G W d))
    (hb : isCall0 o = false) (line : (apos.endLine == pos.line) = true) : PE X (.Call (.Attribute o name apos) [] [] pos) (tD G W (dLm m d dNil)) :=
  PE.weak (pe_bm0 PySem.F.plainAttrs_list slot hty hm ho (base_eq hb _ _ _) line) fun σ H Q ⟨ρ, sp, h, sl, hr, p⟩ => ⟨ρ, sp, h, sl, hr, Post.bind p fun x h1 ρ1 H1 v _ le k hr1 rx p1 => by
    obtain ⟨u, eu, p2⟩ := Post.optBind p1
    exact ⟨by rw [hK]; exact lstAt_rel hr1 rx eu, ⟨_, ρ1, h1, x, [], hr1, rx, .nil, p2⟩⟩⟩
/-- a constant tuple of the module -/
def TupK (K : PySem.W.Frag) (a : Addr) : Prop := ∃ o, K.lookup a = some o ∧ o.cls = .type "tuple" ∧ o.dict = none
theorem eqF_dec {K : PySem.W.Frag} {ρ : List Addr} {H : Hp} {p q : PV} {x y : V} (r : VR K ρ H p x) (r2 : VR K ρ H q y) (e : flat p = true) (e2 : flat q = true) : decide (x = y) = eqV x y := by
  cases r <;> cases r2 <;> first | exact dec_int | exact dec_str | rfl | (simp [eqV]; done) | (cases e; done) | (cases e2; done)
theorem mr_tidx (hK : X.K = G.K) : MtR X "tuple.index" (fun x xs H Q => ∃ a vs y, x = .ref a ∧ xs = [y] ∧ SqT G.K H a vs ∧ ∃ (ρ : List Addr) (l : List PV) (q : PV) (j : Nat), VRs G.K ρ H l vs ∧ VR G.K ρ H q y ∧ flat q = true ∧ l.all flat = true ∧ indexP q l = some j ∧ Q (.int j) H) := by
  intro pins s σ H x xs v us Q I rx rs ⟨a, vs, y, ex, exs, sq, ρ, l, q, j, rl, rq, fq, fl, ej, hq⟩
  subst ex; subst exs
  obtain rfl : v = Value.ref a := rx
  obtain ⟨u, rfl, ru⟩ := vals1 rs
  obtain ⟨its, rv, ht, hz⟩ := I.tuple (hK ▸ sq)
  obtain ⟨z, h1, h2, h3⟩ := index_rel rl rq fq fl ej
  obtain ⟨hf, _⟩ := in_rel rq fq rl fl
  have hlen := rv.length
  have fz : ∀ {m : Nat} {w : V}, vs[m]? = some w → flatV w = true := fun h => List.all_eq_true.mp hf _ (List.mem_of_getElem? h)
  have dec : ∀ {m : Nat} {w : V}, vs[m]? = some w → decide (w = y) = eqV w y := fun {m w} h => by
    cases hl : l[m]? with
    | none => rw [rl.none hl] at h; cases h
    | some p =>
      obtain ⟨w', e1, rw'⟩ := rl.get hl
      rw [h] at e1; cases e1
      exact eqF_dec rw' rq (List.all_eq_true.mp fl _ (List.mem_of_getElem? hl)) fq
  have he : SeqAt.ItemsEq X.A.in1 s its vs u y := by
    refine ⟨hlen.symm, fun i g1 g2 => ?_⟩
    have e1 : vs[i]? = some vs[i] := List.getElem?_eq_getElem g2
    obtain ⟨w, ew, rw'⟩ := rv.get e1
    rw [List.getElem?_eq_getElem g1] at ew
    cases ew
    rw [dec e1, ← eqU_of rw' (fz e1)]
    exact mem_eqAt ru (flat_rel rq fq) rv hf _ (List.getElem_mem g1)
  obtain ⟨hj, ej2⟩ := List.getElem?_eq_some_iff.mp h1
  have hyz : z = y := by
    have := dec h1
    rw [h2] at this
    exact of_decide_eq_true this
  have hmem : y ∈ vs := by rw [← hyz, ← ej2]; exact List.getElem_mem hj
  have hidx : vs.idxOf y = j := by
    rcases Nat.lt_trichotomy (vs.idxOf y) j with hlt | heq | hgt
    · have hi := List.idxOf_lt_length_iff.mpr hmem
      have e1 : vs[vs.idxOf y]? = some y := by rw [List.getElem?_eq_getElem hi]; simp
      have := h3 _ _ hlt e1
      rw [← dec e1] at this
      simp at this
    · exact heq
    · have := SeqAt.lt_idxOf_ne hgt hj
      rw [ej2] at this
      exact absurd hyz this
  refine SeqAt.call_tuple_index ht he hmem ⟨.int j, H, I.tok _, ⟨s.toks, by rw [hidx]⟩, hq⟩
def dTidx (l : List PV) (d : Dn) : Dn := fun σ h => (d σ h).bind fun x h1 => if flat x ∧ l.all flat then match indexP x l with
      | some j => .ok (.int j) h1
      | none => .no
      else .no
theorem pd_tidx {x : Str} {a : Addr} {l : List PV} {u : Value} (hK : X.K = G.K) (hg : Gl X x) (hm : X.mg x = some (.ref a)) (ht : TupK G.K a) (hv : ∀ ρ H, VR G.K ρ H (.tup l) (.ref a)) (hd : (x == ("__debug__" : Str)) = false) (he : PE X e (tD G W d)) (hs : isStar e = false)
    (line : (apos.endLine == pos.line) = true) : PE X (.Call (.Attribute (.Name x p1) "index" apos) [e] [] pos) (tD G W (dTidx l d)) :=
  PE.weak (pe_bm PySem.F.plainAttrs_tuple PySem.F.slot_tuple_index PySem.F.type_tuple_index (mr_tidx hK) (pe_glob (v := .ref a) hg hm rfl hd) (pd_cons hs he pd_nil) (base_eq rfl _ _ _) (few_ok hs rfl (by simp) _) line (starEach_cons hs _) rfl) fun σ H Q ⟨ρ, sp, h, sl, hr, p⟩ => by
    refine ⟨.inr (.inl ⟨rfl, hK ▸ ht⟩), ⟨ρ, sp, h, sl, hr, ?_⟩⟩
    have e : dCons d dNil sp h = (d sp h).bind fun x h1 => .ok [x] h1 := rfl
    rw [e]
    cases hq : d sp h with
    | no =>
      have p' : Post G (fun cls e H' => W cls e σ H') ρ H (relV G) ((d sp h).bind _) Q := p
      rw [hq] at p'
      exact p'
    | exc c fs h' =>
      have p' : Post G (fun cls e H' => W cls e σ H') ρ H (relV G) ((d sp h).bind _) Q := p
      rw [hq] at p'
      exact p'
    | ok q h1 =>
      have p' : Post G (fun cls e H' => W cls e σ H') ρ H (relV G) ((d sp h).bind _) Q := p
      rw [hq, Res.bind_ok] at p'
      intro ρ1 H1 b le k hr1 rb
      obtain ⟨v, rfl, rv⟩ := VRs.one_inv rb
      split at p'
      · rename_i hf
        split at p'
        · rename_i j ej
          obtain ⟨a', vs, e1, s1, r1⟩ := (hv ρ1 H1).tup_inv
          cases e1
          exact ⟨a, vs, v, rfl, rfl, s1, ρ1, l, q, j, r1, rv, hf.1, hf.2, ej, p' ρ1 H1 _ le k hr1 (.int _)⟩
        · exact False.elim p'
      · exact False.elim p'

/-! ### what is walked -/
/-- s walked is J, from the heap H on -/
def ItR (G : Glob) (ρ : List Addr) (H : Hp) (s : Src) (J : L2.It) : Prop := ∀ ρ' H' h' i, Le ρ ρ' → Frm ρ H ρ' H' → HR G ρ' h' H' →
  (nxt s i h' = some none → J.stop i H') ∧ ∀ p, nxt s i h' = some (some p) → J.go i H' ∧ ∀ x H'', J.yld i H' x H'' → Frm ρ' H' ρ' H'' ∧ HR G ρ' h' H'' ∧ VR G.K ρ' H'' p x
def tDI (G : Glob) (W : WX) (d : Sl → PH → Res Src) : TI := fun σ H R => ∃ ρ sp h, SlR G ρ H sp σ ∧ HR G ρ h H ∧ Post G (fun cls e H' => W cls e σ H') ρ H (ItR G) (d sp h) R
theorem itr_tup {ρ : List Addr} {H : Hp} {l : List PV} {a : Addr} {vs : List V} (s : SqT G.K H a vs) (r : VRs G.K ρ H l vs) : ItR G ρ H (.vals l) (Itt G.K a) := fun ρ' H' h' i le k hr => by
  have s' := SqT.keep s k.toKeep
  have r' := VRs.mono le k.toKeep r
  refine ⟨fun e => ⟨vs, s', ?_⟩, fun p e => ?_⟩
  · have e' : l[i]? = none := Option.some.inj e
    rw [← r.length]
    exact List.getElem?_eq_none_iff.mp e'
  · have e' : l[i]? = some p := Option.some.inj e
    obtain ⟨v, h1, h2⟩ := r'.get e'
    refine ⟨⟨vs, v, s', h1⟩, fun x H'' ⟨eH, hx⟩ => ?_⟩
    subst eH
    have := hx vs s'
    rw [h1] at this
    cases this
    exact ⟨Frm.refl _ _, hr, h2⟩
theorem itr_lst {ρ : List Addr} {H : Hp} {n : Nat} {a : Addr} (ea : ρ[n]? = some a) : ItR G ρ H (.live n) (Itl G.K a) := fun ρ' H' h' i le k hr => by
  refine ⟨fun e => ?_, fun p e => ?_⟩
  · obtain ⟨l, el, e2⟩ := Option.map_eq_some_iff.mp e
    obtain ⟨vs, r, s⟩ := seqL_rel hr (le _ _ ea) el
    exact ⟨vs, s, by rw [← r.length]; exact List.getElem?_eq_none_iff.mp e2⟩
  · obtain ⟨l, el, e2⟩ := Option.map_eq_some_iff.mp e
    obtain ⟨vs, r, s⟩ := seqL_rel hr (le _ _ ea) el
    obtain ⟨v, h1, h2⟩ := r.get e2
    refine ⟨⟨vs, v, s, h1⟩, fun x H'' ⟨eH, hx⟩ => ?_⟩
    subst eH
    have := hx vs s
    rw [h1] at this
    cases this
    exact ⟨Frm.refl _ _, hr, h2⟩
theorem itr_enum {ρ : List Addr} {H : Hp} {n : Nat} {a : Addr} (ea : ρ[n]? = some a) : ItR G ρ H (.lenum n) (Ite G.K a) := fun ρ' H' h' i le k hr => by
  refine ⟨fun e => ?_, fun p e => ?_⟩
  · obtain ⟨l, el, e2⟩ := Option.map_eq_some_iff.mp e
    obtain ⟨vs, r, s⟩ := seqL_rel hr (le _ _ ea) el
    refine ⟨vs, s, by rw [← r.length]; exact List.getElem?_eq_none_iff.mp (by simpa using e2)⟩
  · obtain ⟨l, el, e2⟩ := Option.map_eq_some_iff.mp e
    obtain ⟨q, e3, rfl⟩ := Option.map_eq_some_iff.mp e2
    obtain ⟨vs, r, s⟩ := seqL_rel hr (le _ _ ea) el
    obtain ⟨v, h1, h2⟩ := r.get e3
    refine ⟨⟨vs, v, s, h1⟩, fun x H'' ⟨T, y, ex, n, eH, hx⟩ => ?_⟩
    subst ex; subst eH
    have := hx vs s
    rw [h1] at this
    cases this
    exact ⟨Frm.lay n, hr.other n, .tup (.inl (.inl upd_same)) (.cons (.int _) (.cons (VR.mono (Le.refl _) (Keep.new n) h2) .nil))⟩
theorem itr_str {ρ : List Addr} {H : Hp} {x : Str} : ItR G ρ H (.vals (x.cps.toList.map fun c => .str ⟨#[c]⟩)) (Its x) := fun ρ' H' h' i le k hr => by
  refine ⟨fun e => ?_, fun p e => ?_⟩
  · have e' : (x.cps.toList.map fun c => PV.str ⟨#[c]⟩)[i]? = none := Option.some.inj e
    have := List.getElem?_eq_none_iff.mp e'
    simpa [Its] using this
  · have e' : (x.cps.toList.map fun c => PV.str ⟨#[c]⟩)[i]? = some p := Option.some.inj e
    rw [List.getElem?_map] at e'
    obtain ⟨c, ec, rfl⟩ := Option.map_eq_some_iff.mp e'
    obtain ⟨hl, _⟩ := List.getElem?_eq_some_iff.mp ec
    refine ⟨by simpa [Its] using hl, fun y H'' ⟨eH, c', hc, ey⟩ => ?_⟩
    subst eH; subst ey
    have : c = c' := by
      have h2 : x.cps.toList[i]? = some c' := by rw [Array.getElem?_toList]; exact hc
      rw [h2] at ec; exact (Option.some.inj ec).symm
    subst this
    exact ⟨Frm.refl _ _, hr, .str _⟩
theorem itr_rng {ρ : List Addr} {H : Hp} {i j : Int} : ItR G ρ H (.vals (rngV i j)) (Itr i (j - i).toNat) := fun ρ' H' h' m le k hr => by
  refine ⟨fun e => ?_, fun p e => ?_⟩
  · have e' : (rngV i j)[m]? = none := Option.some.inj e
    have := List.getElem?_eq_none_iff.mp e'
    simpa [rngV, Itr] using this
  · have e' : (rngV i j)[m]? = some p := Option.some.inj e
    unfold rngV at e'
    rw [List.getElem?_map] at e'
    obtain ⟨c, ec, rfl⟩ := Option.map_eq_some_iff.mp e'
    obtain ⟨hl, hc⟩ := List.getElem?_eq_some_iff.mp ec
    rw [List.getElem_range] at hc
    subst hc
    refine ⟨by simpa [Itr] using hl, fun y H'' ⟨eH, ey⟩ => ?_⟩
    subst eH; subst ey
    exact ⟨Frm.refl _ _, hr, .int _⟩
variable {tg : Expr}
def dSeq (d : Dn) : Sl → PH → Res Src := fun σ h => (d σ h).bind fun x h1 => Fx.opt (srcOf h1 x) h1
theorem pdi_seq (hK : X.K = G.K) (he : PE X e (tD G W d)) : PI X tg e (tDI G W (dSeq d)) := by
  refine ⟨fun pins s σ H R I ⟨ρ, sp, h, sl, hr, p⟩ => ?_⟩
  refine thn (he.run pins s σ H _ I ⟨ρ, sp, h, sl, hr, Post.bind p fun x h1 ρ1 H1 v _ le k hr1 rx p1 => (⟨ρ1, h1, x, hr1, rx, p1⟩ : ∃ ρ1 h1 x, HR G ρ1 h1 H1 ∧ VR G.K ρ1 H1 x v ∧ Post G _ ρ1 H1 (ItR G) (Fx.opt (srcOf h1 x) h1) R)⟩) fun u s1 ⟨v, H1, I1, ru, ρ1, h1, x, hr1, rx, p1⟩ => ?_
  obtain ⟨S, eS, p2⟩ := Post.opt p1
  cases rx with
  | tup sq r =>
    cases eS
    cases ru
    obtain ⟨its, rv, ht, hz⟩ := I1.tuple (hK ▸ sq)
    exact wpAny_pyIter_tuple ht (pi_one (tk := s1.toks) I1 _ (turn_tuple _ _) ⟨_, Heap.get?_push_size _ rfl, rfl, rfl⟩ (by rw [hK]; exact Post.now (rel := ItR G) p2 hr1 (itr_tup sq r)))
  | str z =>
    cases eS
    obtain ⟨t, rfl⟩ := ru
    have q := Post.now (rel := ItR G) p2 hr1 itr_str
    cases ha : z.cps.all (· < 128)
    · exact wpAny_pyIter_wide ha (pi_one (tk := s1.toks) I1 _ (turn_str _ z t "str_iterator" (.inr rfl)) ⟨_, Heap.get?_push_size _ rfl, rfl, rfl⟩ q)
    · exact wpAny_pyIter_ascii ha (pi_one (tk := s1.toks) I1 _ (turn_str _ z t "str_ascii_iterator" (.inl rfl)) ⟨_, Heap.get?_push_size _ rfl, rfl, rfl⟩ q)
  | @ref n a ea =>
    have fin : ∀ vs, SqL G.K H1 a vs → S = .live n → wpAny (model X.prog X.w) X.A (pyIter u) (PIE X pins σ tg R) X.xe s1 := fun vs sq eq => by
      subst eq
      cases ru
      obtain ⟨its, rv, ht, hz⟩ := I1.list (hK ▸ sq)
      exact wpAny_pyIter_list ht.isList (pi_one (tk := s1.toks) I1 _ (turn_list _ _) ⟨_, Heap.get?_push_size _ rfl, rfl, rfl⟩ (by rw [hK]; exact Post.now (rel := ItR G) p2 hr1 (itr_lst ea)))
    simp only [srcOf] at eS
    split at eS
    · rename_i l el
      obtain ⟨vs, q, _⟩ := hr1.at_ el ea
      exact fin vs (.inl (.inl q)) (Option.some.inj eS).symm
    · rename_i l el
      obtain ⟨ob, vs, q, _⟩ := hr1.at_ el ea
      exact fin vs (.inl (.inr ⟨ob, q⟩)) (Option.some.inj eS).symm
    · cases eS
  | _ => cases eS
def dEnum (d : Dn) : Sl → PH → Res Src := fun σ h => (d σ h).bind fun x h1 => Fx.opt (enumOf h1 x) h1
theorem pdi_enum {elts : List Expr} {kk : Nat} (hK : X.K = G.K) (hg : Gl X "enumerate") (hm : X.mg "enumerate" = none) (hs : isStar e = false) (he : PE X e (tD G W d)) : PI X (.Tuple elts kk p2) (.Call (.Name "enumerate" p1) [e] [] pos) (tDI G W (dEnum d)) := by
  have z := pi_enum (p := p1) (pos := pos) (tpos := p2) (elts := elts) (kk := kk) hg hm (pd_cons hs he pd_nil) (by rw [starEach_cons hs]; rfl)
  refine ⟨fun pins s σ H R I ⟨ρ, sp, h, sl, hr, p⟩ => z.run pins s σ H R I ⟨ρ, sp, h, sl, hr, ?_⟩⟩
  have p' : Post G (fun cls e H' => W cls e σ H') ρ H (ItR G) ((d sp h).bind fun x h1 => Fx.opt (enumOf h1 x) h1) R := p
  show Post G _ ρ H (relVs G) ((d sp h).bind fun x h1 => .ok [x] h1) _
  cases hq : d sp h with
  | no => rw [hq] at p'; exact p'
  | exc c fs h' => rw [hq] at p'; exact p'
  | ok q h1 =>
    rw [hq, Res.bind_ok] at p'
    intro ρ1 H1 b le k hr1 rb
    obtain ⟨v, rfl, rv⟩ := VRs.one_inv rb
    obtain ⟨S, eS, p2⟩ := Post.opt p'
    unfold enumOf at eS
    split at eS
    · rename_i n
      obtain ⟨a, rfl, ea⟩ := rv.ref_inv
      split at eS
      · rename_i l el
        cases eS
        obtain ⟨vs, q, _⟩ := hr1.at_ el ea
        exact ⟨a, vs, rfl, .inl (.inl q), by rw [hK]; exact p2 ρ1 H1 _ le k hr1 (itr_enum ea)⟩
      · rename_i l el
        cases eS
        obtain ⟨ob, vs, q, _⟩ := hr1.at_ el ea
        exact ⟨a, vs, rfl, .inl (.inr ⟨ob, q⟩), by rw [hK]; exact p2 ρ1 H1 _ le k hr1 (itr_enum ea)⟩
      · cases eS
    · cases eS
def dRng1 (d : Dn) : Sl → PH → Res Src := fun σ h => (d σ h).bind fun y h2 => match y with
    | .int j => if inR j = true then .ok (.vals (rngV 0 j)) h2 else .no
    | _ => .no
def dRng2 (d d' : Dn) : Sl → PH → Res Src := fun σ h => (d σ h).bind fun x h1 => (d' σ h1).bind fun y h2 => match x, y with
    | .int i, .int j => if inR i = true ∧ inR j = true then .ok (.vals (rngV i j)) h2 else .no
    | _, _ => .no
theorem inR_iff {i : Int} : inR i = true ↔ -(2 ^ 62) ≤ i ∧ i < 2 ^ 62 := by simp [inR]
theorem pdi_rng1 (hg : Gl X "range") (hm : X.mg "range" = none) (hs : isStar e = false) (he : PE X e (tD G W d)) : PI X tg (.Call (.Name "range" p1) [e] [] pos) (tDI G W (dRng1 d)) := by
  have z := pi_range1 (tg := tg) (p := p1) (pos := pos) hg hm (pa_cons he pa_nil (starEach_cons hs _)) (by rw [starEach_cons hs]; rfl)
  refine ⟨fun pins s σ H R I ⟨ρ, sp, h, sl, hr, p⟩ => z.run pins s σ H R I ⟨ρ, sp, h, sl, hr, Post.bind p fun x h1 ρ1 H1 v _ le k hr1 rx p1 => ?_⟩⟩
  cases x with
  | int j =>
    cases VR.int_inv rx
    have p2 : Post G (fun cls e H' => W cls e σ H') ρ1 H1 (ItR G) (if inR j = true then .ok (.vals (rngV 0 j)) h1 else .no) R := p1
    split at p2
    · rename_i hj
      have q := inR_iff.mp hj
      refine ⟨j, rfl, q.1, q.2, ?_⟩
      have := Post.now (rel := ItR G) p2 hr1 (itr_rng (i := 0) (j := j))
      rwa [Int.sub_zero] at this
    · exact False.elim p2
  | _ => exact False.elim p1
theorem pdi_rng2 {e2 : Expr} {d' : Dn} (hg : Gl X "range") (hm : X.mg "range" = none) (hs : isStar e = false) (hs2 : isStar e2 = false) (he : PE X e (tD G W d)) (he2 : PE X e2 (tD G W d')) : PI X tg (.Call (.Name "range" p1) [e, e2] [] pos) (tDI G W (dRng2 d d')) := by
  have z := pi_range2 (tg := tg) (p := p1) (pos := pos) hg hm (pa_cons he (pa_cons he2 pa_nil (starEach_cons hs2 _)) (starEach_cons hs _)) (by rw [starEach_cons hs, starEach_cons hs2]; rfl) (by rw [starEach_cons hs2]; rfl)
  refine ⟨fun pins s σ H R I ⟨ρ, sp, h, sl, hr, p⟩ => z.run pins s σ H R I ⟨ρ, sp, h, sl, hr, Post.bind p fun x h1 ρ1 H1 v _ le k hr1 rx p1 => ⟨ρ1, sp, h1, sl.mono le k.toKeep, hr1, Post.bind p1 fun y h2 ρ2 H2 w _ le2 k2 hr2 ry p2 => ?_⟩⟩⟩
  cases x with
  | int i =>
    cases y with
    | int j =>
      cases VR.int_inv rx
      cases VR.int_inv ry
      have p3 : Post G (fun cls e H' => W cls e σ H') ρ2 H2 (ItR G) (if inR i = true ∧ inR j = true then .ok (.vals (rngV i j)) h2 else .no) R := p2
      split at p3
      · rename_i hj
        exact ⟨i, j, rfl, ⟨(inR_iff.mp hj.1).1, (inR_iff.mp hj.1).2, (inR_iff.mp hj.2).1, (inR_iff.mp hj.2).2⟩, Post.now (rel := ItR G) p3 hr2 itr_rng⟩
      · exact False.elim p3
    | _ => exact False.elim p2
  | _ => exact False.elim (by cases y <;> exact p2)
end
end Fx

/-! Targets, comprehensions, methods, makers. -/
namespace Fx
open PySem PySem.Spec PyProof.Rows L2
section
variable {G : Glob} {X : Cx} {W : WX} {e o : Expr} {es : List Expr} {d dx : Dn} {ds : Da} {pos p1 p2 apos : Pos}
def WF : WX := fun _ _ _ _ => False
theorem takesF {X : Cx} : Takes X WF := takes_none5
/-! ### targets -/
def gNames : List Nat → TGs
  | [] => gNil
  | i :: is => gCons (gName i) (gNames is)
def gT (K : PySem.W.Frag) : Tg → TG
  | .name i => gName i
  | .names is => gTup K is.length (gNames is)
def tgSlots : Tg → List Nat
  | .name i => [i]
  | .names is => is
theorem wipe_set {own : List Nat} : ∀ {σ : L2.St} {i : Nat} {v : Option V}, i ∈ own → wipe (σ.set i v) own = wipe σ own := by
  induction own with
  | nil => intro σ i v h; cases h
  | cons o own ih =>
    intro σ i v h
    show (wipe (σ.set i v) own).set o none = (wipe σ own).set o none
    by_cases hm : i ∈ own
    · rw [ih hm]
    · have ho : i = o := by
        rcases List.mem_cons.mp h with h | h
        · exact h
        · exact absurd h hm
      subst ho
      have key : ∀ (l : List Nat), i ∉ l → wipe (σ.set i v) l = (wipe σ l).set i v := by
        intro l
        induction l with
        | nil => intro _; rfl
        | cons q l il =>
          intro hq
          show (wipe (σ.set i v) l).set q none = ((wipe σ l).set q none).set i v
          have hne : i ≠ q := fun z => hq (by rw [z]; exact List.mem_cons_self)
          rw [il fun z => hq (List.mem_cons_of_mem _ z), List.set_comm _ _ hne]
      rw [key own hm, List.set_set]
theorem names_ok {ρ : List Addr} {H : Hp} {own : List Nat} : ∀ {is : List Nat} {l : List PV} {sp sp' : Sl} {vs : List V} {σ : L2.St}, setAll is l sp = some sp' → SlR G ρ H sp σ → VRs G.K ρ H l vs → (∀ i ∈ is, i ∈ own) →
    vs.length = is.length ∧ ∃ σ', SlR G ρ H sp' σ' ∧ wipe σ' own = wipe σ own ∧ ∀ Q, Q σ' H → gNames is vs σ H Q
  | [], [], sp, sp', vs, σ, e, sl, r, _ => by
    cases e
    cases r.nil_inv
    exact ⟨rfl, σ, sl, rfl, fun Q q => ⟨rfl, q⟩⟩
  | i :: is, p :: l, sp, sp', vs, σ, e, sl, r, ho => by
    obtain ⟨v, vs, rfl, rv, r⟩ := r.cons_inv
    obtain ⟨hl, σ', h1, h2, h3⟩ := names_ok (is := is) (own := own) (show setAll is l (sp.set i (some p)) = some sp' from e) (sl.set i rv) r fun j hj => ho j (List.mem_cons_of_mem _ hj)
    exact ⟨by simp [hl], σ', h1, by rw [h2, wipe_set (ho i List.mem_cons_self)], fun Q q => ⟨v, vs, rfl, h3 Q q⟩⟩
  | [], _ :: _, _, _, _, _, e, _, _, _ => by cases e
  | _ :: _, [], _, _, _, _, e, _, _, _ => by cases e
theorem gT_ok {ρ : List Addr} {H : Hp} {tg : Tg} {p : PV} {sp sp' : Sl} {v : V} {σ : L2.St} {own : List Nat} (e : bindT tg p sp = some sp') (sl : SlR G ρ H sp σ) (r : VR G.K ρ H p v) (ho : ∀ i ∈ tgSlots tg, i ∈ own) :
    ∃ σ', SlR G ρ H sp' σ' ∧ wipe σ' own = wipe σ own ∧ ∀ Q, Q σ' H → gT G.K tg v σ H Q := by
  cases tg with
  | name i =>
    cases e
    exact ⟨_, sl.set i r, wipe_set (ho i (List.mem_singleton.mpr rfl)), fun Q q => q⟩
  | names is =>
    cases r with
    | tup s rs =>
      obtain ⟨hl, σ', h1, h2, h3⟩ := names_ok (own := own) e sl rs ho
      exact ⟨σ', h1, h2, fun Q q => ⟨_, _, rfl, s, hl, h3 Q q⟩⟩
    | _ => cases e
theorem wipe_rel {ρ : List Addr} {H : Hp} {sp : Sl} {σ : L2.St} (sl : SlR G ρ H sp σ) : ∀ own : List Nat, SlR G ρ H (wipeP sp own) (wipe σ own)
  | [] => sl
  | v :: vs => (wipe_rel sl vs).wipe v

/-! ### [elt for tg in it if cnd] -/
theorem Post.unquiet {α β : Type} {Wx : XK} {ρ : List Addr} {H : Hp} {rel : List Addr → Hp → α → β → Prop} {r : Res α} {Q : β → Hp → Prop} (p : Post G Wx ρ H rel r.quiet Q) (Wy : XK) : Post G Wy ρ H rel r Q := by
  cases r with
  | ok a h => exact p
  | exc c fs h => exact False.elim p
  | no => exact False.elim p
theorem Post.bindAt {α β γ δ : Type} {Wx : XK} {ρ ρ0 : List Addr} {H H0 : Hp} {rel : List Addr → Hp → α → β → Prop} {rel2 : List Addr → Hp → γ → δ → Prop} {r : Res α} {f : α → PH → Res γ} {Q : β → Hp → Prop} {Q2 : δ → Hp → Prop} (p : Post G Wx ρ0 H0 rel2 (r.bind f) Q2)
    (le0 : Le ρ0 ρ) (k0 : Frm ρ0 H0 ρ H) (k : ∀ a h1 ρ1 H1 b, r = .ok a h1 → Le ρ ρ1 → Frm ρ H ρ1 H1 → HR G ρ1 h1 H1 → rel ρ1 H1 a b → Post G Wx ρ0 H0 rel2 (f a h1) Q2 → Q b H1) : Post G Wx ρ H rel r Q := by
  cases r with
  | ok a h1 => exact fun ρ1 H1 b le kp hr rl => k a h1 ρ1 H1 b rfl le kp hr rl p
  | exc c fs h' => exact fun ρ' H' cls d l2 k2 => p ρ' H' cls d (le0.trans l2) (k0.trans k2)
  | no => exact p
theorem Frm.writeD {ρ0 ρ : List Addr} {H0 H : Hp} {D : Addr} {o : HO} (k : Frm ρ0 H0 ρ H) (n : H0 D = none) (sf : Soft (H D)) : Frm ρ0 H0 ρ (upd H D o) :=
  ⟨k.toKeep.trans (.upd sf), k.new, fun a h1 h2 => by rw [upd_ne fun z => h2 (by rw [z]; exact n)]; exact k.same a h1 h2⟩
/-- a list that is tracked from now on -/
theorem HR.adopt {ρ : List Addr} {H : Hp} {h : PH} {D : Addr} {o : PO} (hr : HR G ρ h H) (hD : D ∉ ρ) (hn : H D ≠ none) (hor : OR G (ρ ++ [D]) H o D) : HR G (ρ ++ [D]) (h.new o) H := by
  refine ⟨by rw [List.length_append, hr.len]; rfl, ?_, fun i o' e => ?_, fun a ha => ?_⟩
  · rw [List.nodup_append]
    exact ⟨hr.nd, by simp, fun a ha b hb => by simp at hb; subst hb; exact fun z => hD (z ▸ ha)⟩
  · by_cases hi : i = h.n
    · subst hi
      rw [PH.get_new_same] at e
      cases e
      exact ⟨D, by rw [← hr.len]; simp, hor⟩
    · rw [PH.get_new_ne hi] at e
      obtain ⟨a, h1, h2⟩ := hr.obj i o' e
      exact ⟨a, Le.app _ _ _ _ h1, h2.carry (Le.app _ _) (Keep.refl _) rfl⟩
  · rcases List.mem_append.mp ha with hb | hb
    · exact hr.full a hb
    · rw [List.mem_singleton.mp hb]; exact hn
abbrev slots (own : List (Str × Nat)) : List Nat := own.map (·.2)
abbrev Dt := Sl → PH → Res Bool
def dYes : Dt := fun _ h => .ok true h
def dLc (own : List Nat) (tg : Tg) (di : Sl → PH → Res Src) (dt : Dt) (de : Dn) : Dn := fun σ h => (di σ h).bind fun s h1 => (loopC (cBody own tg dt de σ) s (fuelOf s h1) 0 [] h1).bind fun vs h6 => alloc (.lst vs) h6
/-- the loop's invariant: the list stands at D, the rest of the loop gives what is wanted -/
def LcW (G : Glob) (Wx : XK) (ρ0 : List Addr) (H0 : Hp) (D : Addr) (body : PV → PH → Res (Option PV)) (s : Src) (Q : VK) (i m : Nat) (H : Hp) : Prop :=
  ∃ ρ h acc avs, Le ρ0 ρ ∧ Frm ρ0 H0 ρ H ∧ HR G ρ h H ∧ D ∉ ρ ∧ H D = some (.lst avs) ∧ VRs G.K ρ H acc avs ∧ Post G Wx ρ0 H0 (relV G) ((loopC body s m i acc h).bind fun vs h6 => alloc (.lst vs) h6) Q
theorem lcw_stop {Wx : XK} {ρ0 ρ : List Addr} {H0 H : Hp} {D : Addr} {h : PH} {acc : List PV} {avs : List V} {Q : VK} (n0 : H0 D = none) (le : Le ρ0 ρ) (k : Frm ρ0 H0 ρ H) (hr : HR G ρ h H) (hD : D ∉ ρ) (eD : H D = some (.lst avs)) (r : VRs G.K ρ H acc avs)
    (p : Post G Wx ρ0 H0 (relV G) (alloc (.lst acc) h) Q) : Q (.ref D) H :=
  p (ρ ++ [D]) H (.ref D) (le.trans (Le.app _ _)) ⟨k.toKeep, fun a ha => (List.mem_append.mp ha).elim (k.new a) fun z => .inr (by rw [List.mem_singleton.mp z]; exact n0), k.same⟩
    (hr.adopt hD (by rw [eD]; exact fun z => nomatch z) ⟨avs, eD, r.mono (Le.app _ _) (Keep.refl _)⟩) (.ref (new_ref hr))
theorem toLc {tg : Tg} {own : List (Str × Nat)} {di : Sl → PH → Res Src} {dt : Dt} {de : Dn} (ho : ∀ i ∈ tgSlots tg, i ∈ slots own) : ∀ σ H Q, tD G W (dLc (slots own) tg di dt de) σ H Q → tLc (tDI G W di) (gT G.K tg) (tDT G WF dt) (tD G WF de) (slots own) σ H Q := by
  intro σ H Q ⟨ρ, sp, h, sl, hr, p⟩
  refine ⟨ρ, sp, h, sl, hr, Post.bind p fun s h1 ρ1 H1 J _ le k hr1 itr p1 => fun D n => ?_⟩
  have sl1 : SlR G ρ1 H1 sp σ := sl.mono le k.toKeep
  have itr' : ItR G ρ1 H1 s J := itr
  refine ⟨LcW G (fun cls e H' => W cls e σ H') ρ1 H1 D (cBody (slots own) tg dt de sp) s Q, ⟨_, ρ1, h1, [], [], Le.refl _, Frm.lay n, hr1.other n, hr1.fresh n, upd_same, .nil, p1⟩, fun i m H2 ⟨ρ2, h2, acc, avs, le2, k2, hr2, hD, eD, racc, p2⟩ => ?_⟩
  have it2 := itr' ρ2 H2 h2 i le2 k2 hr2
  have stop : nxt s i h2 = some none → (loopC (cBody (slots own) tg dt de sp) s m i acc h2 = .ok acc h2) → J.stop i H2 ∧ Q (V.ref D) H2 := fun e1 e2 => by
    rw [e2] at p2
    exact ⟨it2.1 e1, lcw_stop n le2 k2 hr2 hD eD racc p2⟩
  cases m with
  | zero =>
    cases e1 : nxt s i h2 with
    | none => unfold loopC at p2; rw [e1] at p2; exact False.elim p2
    | some q =>
      cases q with
      | none => exact .inl (stop e1 (by unfold loopC; rw [e1]))
      | some x => unfold loopC at p2; rw [e1] at p2; exact False.elim p2
  | succ m =>
    cases e1 : nxt s i h2 with
    | none => unfold loopC at p2; rw [e1] at p2; exact False.elim p2
    | some q =>
      cases q with
      | none => exact .inl (stop e1 (by unfold loopC; rw [e1]))
      | some x =>
        obtain ⟨go, yl⟩ := it2.2 x e1
        refine .inr ⟨go, fun H' => LcW G (fun cls e H' => W cls e σ H') ρ1 H1 D (cBody (slots own) tg dt de sp) s Q (i + 1) m H', fun H' w => ⟨m, Nat.lt_succ_self m, w⟩, fun v H3 hy => ?_⟩
        obtain ⟨k3, hr3, rv⟩ := yl v H3 hy
        have eD3 : H3 D = some (.lst avs) := (k3.same D hD (by rw [eD]; exact fun z => nomatch z)).trans eD
        have racc3 := VRs.mono (Le.refl _) k3.toKeep racc
        have k13 := k2.trans k3
        unfold loopC at p2
        rw [e1] at p2
        have p3 : Post G (fun cls e H' => W cls e σ H') ρ1 H1 (relV G) ((cBody (slots own) tg dt de sp x h2).bind fun r h3 => (match r with
            | none => loopC (cBody (slots own) tg dt de sp) s m (i + 1) acc h3
            | some v => if acc.length < LINE then loopC (cBody (slots own) tg dt de sp) s m (i + 1) (acc ++ [v]) h3 else .no).bind fun vs h6 => alloc (.lst vs) h6) Q := by
          rw [← bind_bind]
          exact p2
        unfold cBody at p3
        rw [bind_bind] at p3
        obtain ⟨sp', eb, p4⟩ := Post.optBind p3
        rw [bind_bind] at p4
        obtain ⟨σ', sl', hw, hgt⟩ := gT_ok (own := slots own) eb (wipe_rel ((sl1.mono le2 k2.toKeep).mono (Le.refl _) k3.toKeep) _) rv ho
        have ww : wipe σ' (slots own) = wipe σ (slots own) := by
          rw [hw]
          have : ∀ (l : List Nat), (∀ i ∈ l, i ∈ slots own) → wipe (wipe σ l) (slots own) = wipe σ (slots own) := by
            intro l
            induction l with
            | nil => intro _; rfl
            | cons q l ih =>
              intro hl
              show wipe ((wipe σ l).set q none) _ = _
              rw [wipe_set (hl q List.mem_cons_self), ih fun i hi => hl i (List.mem_cons_of_mem _ hi)]
          exact this _ fun i hi => hi
        refine hgt _ ⟨ww, ?_⟩
        refine ⟨ρ2, sp', h2, sl', hr3, Post.unquiet (Wx := fun cls e H' => W cls e σ H') (Post.bindAt p4 le2 k13 fun b h4 ρ4 H4 b' eb4 le4 k4 hr4 rb p5 => ?_) _⟩
        have rb' : b = b' := rb
        subst rb'
        have hD4 : D ∉ ρ4 := fun hm => by
          rcases k4.new D hm with z | z
          · exact hD z
          · rw [eD3] at z; cases z
        have eD4 : H4 D = some (.lst avs) := (k4.same D hD (by rw [eD3]; exact fun z => nomatch z)).trans eD3
        have k14 := k13.trans k4
        have racc4 := VRs.mono le4 k4.toKeep racc3
        cases b with
        | false => exact ⟨ρ4, h4, acc, avs, le2.trans le4, k14, hr4, hD4, eD4, racc4, p5⟩
        | true =>
          have p6 : Post G (fun cls e H' => W cls e σ H') ρ1 H1 (relV G) (((de sp' h4).quiet.bind fun v h5 => .ok (some v) h5).bind fun r h3 => (match r with
            | none => loopC (cBody (slots own) tg dt de sp) s m (i + 1) acc h3
            | some v => if acc.length < LINE then loopC (cBody (slots own) tg dt de sp) s m (i + 1) (acc ++ [v]) h3 else .no).bind fun vs h6 => alloc (.lst vs) h6) Q := p5
          rw [bind_bind] at p6
          refine ⟨ρ4, sp', h4, sl'.mono le4 k4.toKeep, hr4, Post.unquiet (Wx := fun cls e H' => W cls e σ H') (Post.bindAt p6 (le2.trans le4) k14 fun y h5 ρ5 H5 y' _ le5 k5 hr5 ry p7 => ?_) _⟩
          have hD5 : D ∉ ρ5 := fun hm => by
            rcases k5.new D hm with z | z
            · exact hD4 z
            · rw [eD4] at z; cases z
          have eD5 : H5 D = some (.lst avs) := (k5.same D hD4 (by rw [eD4]; exact fun z => nomatch z)).trans eD4
          have racc5 := VRs.mono le5 k5.toKeep racc4
          have p8 : Post G (fun cls e H' => W cls e σ H') ρ1 H1 (relV G) ((if acc.length < LINE then loopC (cBody (slots own) tg dt de sp) s m (i + 1) (acc ++ [y]) h5 else .no).bind fun vs h6 => alloc (.lst vs) h6) Q := p7
          split at p8
          · rename_i hlen
            refine ⟨avs, eD5, by rw [← LINE_eq, ← racc.length]; exact hlen, ?_⟩
            have sf : Soft (H5 D) := by rw [eD5]; trivial
            have kp : Keep H5 (upd H5 D (.lst (avs ++ [y']))) := .upd sf
            exact ⟨ρ5, h5, acc ++ [y], avs ++ [y'], (le2.trans le4).trans le5, (k14.trans k5).writeD n sf, hr5.keep kp fun a ha => upd_ne fun z => hD5 (z ▸ ha), hD5, upd_same, (VRs.append racc5 (.cons ry .nil)).mono (Le.refl _) kp, p8⟩
          · exact False.elim p8

theorem pd_lc {tg : Tg} {tge iter elt : Expr} {ifs : List Expr} {scope : Scope} {own : List (Str × Nat)} {di : Sl → PH → Res Src} {dt : Dt} {de : Dn} (hK : X.K = G.K) (hc : X.calm = true) (nd : X.N.Nodup) (hi : PI X tge iter (tDI G W di)) (ok : BlkOk X.N X.env.scope scope own)
    (hg : ∀ (s : Shared) (H : Hp) (C : Addr) (cl : List (Str × Addr)) (fp : List Addr), PG (X.blk s H scope (compEnvC scope cl C X.env) fp) tge (gT G.K tg))
    (ht : ∀ (s : Shared) (H : Hp) (C : Addr) (cl : List (Str × Addr)) (fp : List Addr), PTs (X.blk s H scope (compEnvC scope cl C X.env) fp) ifs (tDT G WF dt))
    (he : ∀ (s : Shared) (H : Hp) (C : Addr) (cl : List (Str × Addr)) (fp : List Addr), PE (X.blk s H scope (compEnvC scope cl C X.env) fp) elt (tD G WF de))
    (ho : ∀ i ∈ tgSlots tg, i ∈ slots own) (hs : ∀ x, foldedSetIterable iter X.env x = pure x) :
    PE X (.ListComp elt [⟨tge, iter, ifs, 0⟩] scope pos) (tD G W (dLc (slots own) tg di dt de)) :=
  PE.weak (pe_lc hc nd hi ok hg ht he hs) (toLc ho)

/-! ### methods -/
def dMeth (P : Pg) (R : Rn) (d : Dn) (m : Nat) (ds : Da) : Dn := fun σ h => (d σ h).bind fun x h1 => (Fx.opt (mfind P x m h1) h1).bind fun f h2 => (ds σ h2).bind fun vs h3 => R f (x :: vs) h3
theorem meth_in {ρ : List Addr} {H : Hp} {h : PH} {p : PV} {v : V} {m f : Nat} {name : Str} (hK : X.K = G.K) (hn : G.mns[m]? = some name) (mt : MtOk G G.K) (hr : HR G ρ h H) (r : VR G.K ρ H p v) (e : mfind G.P p m h = some f) :
    ∃ a C dx fs, v = .ref a ∧ H a = some (.ins C dx fs) ∧ Cls X.K C ∧ Meth X.K C name (G.fa f) ∧ fs.lookup name = none ∧ L2.Binds X.K (G.fd f) (G.ps f) [] := by
  unfold mfind at e
  split at e
  · rename_i n
    split at e
    · rename_i c fs en
      obtain ⟨a, rfl, ea⟩ := r.ref_inv
      obtain ⟨dx, ws, h2, hc, rr⟩ := hr.at_ en ea
      obtain ⟨nm, e1, me, bi⟩ := mt c m f e
      rw [hn] at e1
      cases e1
      exact ⟨a, G.cm c, dx, ws, rfl, h2, hK ▸ hc, hK ▸ me, noField me rr, hK ▸ bi⟩
    · cases e
  · cases e
theorem pd_meth {j m : Nat} {R : Rn} {name : Str} (hK : X.K = G.K) (hn : G.mns[m]? = some name) (mt : MtOk G G.K) (tk : Takes X W) (F : ∀ f, FnC G X j R f) (hr : Room j X.A) (ho : PE X o (tD G W d)) (ha : PA X (e :: es) (tDA G W ds))
    (hb : isCall0 o = false) (hs : isStar e = false) (hp : plainA es = true) (hl : es.length < 29) (line : (apos.endLine == pos.line) = true) : PE X (.Call (.Attribute o name apos) (e :: es) [] pos) (tD G W (dMeth G.P R d m ds)) := by
  refine ⟨fun pins s σ H Q I ⟨ρ, sp, h, sl, hr2, p⟩ => methcall_of ho I ⟨ρ, sp, h, sl, hr2, Post.bind p fun x h1 ρ1 H1 v _ le k hr1 rx p1 => ?_⟩ (meth_ht hb (by unfold plainA; rw [List.all_cons, hs]; exact hp) (by simp; omega) line name _)⟩
  obtain ⟨f, ef, p2⟩ := Post.optBind p1
  obtain ⟨a, C, dx, fs, rfl, h2, hc, me, nf, bi⟩ := meth_in hK hn mt hr1 rx ef
  refine ⟨a, C, dx, fs, G.fa f, rfl, h2, hc, me, nf, fun s1 I1 => ?_⟩
  refine PySem.W.callWith_K (first := [.ref a]) (h₀ := X.base) I1.ok.mod.kin me.kp (thn (ha.run pos pins s1 σ H1 _ I1 ⟨ρ1, sp, h1, sl.mono le k.toKeep, hr1, Post.bind p2 fun xs h3 ρ3 H3 vs _ le3 k3 hr3 rxs p3 =>
    (⟨ρ3, _, h3, hr3, .cons (VR.mono le3 k3.toKeep rx) rxs, p3⟩ : spOf G R f (V.ref a :: vs) H3 Q (WE W σ))⟩) fun us s2 ⟨vs, H3, I3, r, q⟩ => ⟨I3.kIn, ?_⟩) (starEach_cons hs _) (any_plain hp _)
  exact run_fnSD (us := .ref a :: us) (vs := .ref a :: vs) (dvs := []) (E := WE W) (F f) hr bi .nil (passAt tk σ) I3 (.cons rfl r) (by rw [List.append_nil]; exact q)
theorem pd_meth0 {j m : Nat} {R : Rn} {name : Str} (hK : X.K = G.K) (hn : G.mns[m]? = some name) (mt : MtOk G G.K) (tk : Takes X W) (F : ∀ f, FnC G X j R f) (hr : Room j X.A) (ho : PE X o (tD G W d))
    (hb : isCall0 o = false) (line : (apos.endLine == pos.line) = true) : PE X (.Call (.Attribute o name apos) [] [] pos) (tD G W (dMeth G.P R d m dNil)) := by
  refine ⟨fun pins s σ H Q I ⟨ρ, sp, h, sl, hr2, p⟩ => methcall_of ho I ⟨ρ, sp, h, sl, hr2, Post.bind p fun x h1 ρ1 H1 v _ le k hr1 rx p1 => ?_⟩ (meth_ht hb rfl (by simp) line name _)⟩
  obtain ⟨f, ef, p2⟩ := Post.optBind p1
  obtain ⟨a, C, dx, fs, rfl, h2, hc, me, nf, bi⟩ := meth_in hK hn mt hr1 rx ef
  refine ⟨a, C, dx, fs, G.fa f, rfl, h2, hc, me, nf, fun s1 I1 => ?_⟩
  exact PySem.W.callWith_K0 (first := [.ref a]) I1.kIn me.kp (run_fnSD (us := [.ref a]) (vs := [.ref a]) (dvs := []) (E := WE W) (F f) hr bi .nil (passAt tk σ) I1 (.cons rfl .nil) ⟨ρ1, _, h1, hr1, .cons rx .nil, p2⟩)

/-! ### makers -/
def dMk (P : Pg) (R : Rn) (c : Nat) (ds : Da) (dfs : List PV) : Dn := fun σ h => (ds σ h).bind fun vs h1 => mkObj P R c (vs ++ dfs) h1
/-- the class c is made by f -/
structure MkOk (G : Glob) (K : PySem.W.Frag) (c f : Nat) (dfs : List PV) : Prop where
  ini : G.P.ini c = some f
  makes : Mk K (G.cm c) (G.fa f)
  cls : Cls K (G.cm c)
  dfl : Dfl G K f dfs
theorem made_at {j c f : Nat} {R : Rn} {dfs : List PV} {pins : List (Addr × Obj)} {σ : L2.St} {H : Hp} {s : Shared} {Q : VK} {us : List Value} {vs : List V} {ρ : List Addr} {h : PH} {ps : List PV} (hK : X.K = G.K) (tk : Takes X W) (M : MkOk G G.K c f dfs) (F : FnC G X j R f) (hr : Room (j + 1) X.A)
    (I : Inv X pins σ H s) (r : Vals vs us) (hh : HR G ρ h H) (rs : VRs G.K ρ H ps vs) (p : Post G (WE W σ) ρ H (relV G) (mkObj G.P R c (ps ++ dfs) h) Q) : wpAny (model X.prog X.w) X.A (call (.ref (G.cm c)) us) (EP X pins σ Q) X.xe s := by
  obtain ⟨dvs, dus, hb, hv, hd⟩ := M.dfl
  have mk := M.makes
  rw [← hK] at mk hb
  have J : Inv X pins σ _ _ := Inv.made (C := G.cm c) I
  generalize hx : s.heap.objs.size + 1 = x at J
  generalize hdx : s.heap.objs.size = q at J
  have n1 : H x = none := I.hok.fresh (by omega)
  have n2 : H q = none := I.hok.fresh (by omega)
  have ne : q ≠ x := by omega
  have n1' : upd H q (HO.own x) x = none := by rw [upd_ne fun z => ne z.symm]; exact n1
  unfold mkObj at p
  rw [M.ini] at p
  have hq1 := hh.other (o := HO.own x) n2
  have hq2 : HR G (ρ ++ [x]) (h.new (.ins c [])) (upd (upd H q (HO.own x)) x (.ins (G.cm c) q [])) := hq1.new n1' ⟨q, [], upd_same, M.cls, .nil⟩
  have le : Le ρ (ρ ++ [x]) := Le.app _ _
  have k : Frm ρ H (ρ ++ [x]) (upd (upd H q (HO.own x)) x (.ins (G.cm c) q [])) := (Frm.lay n2).trans (Frm.alloc n1')
  have rall : VRs G.K (ρ ++ [x]) (upd (upd H q (HO.own x)) x (.ins (G.cm c) q [])) (.ref h.n :: (ps ++ dfs)) (V.ref x :: (vs ++ dvs)) := .cons (.ref (new_ref hh)) ((rs.mono le k.toKeep).append (hd _ _))
  have want : spOf G R f (V.ref x :: (vs ++ dvs)) (upd (upd H q (HO.own x)) x (.ins (G.cm c) q [])) (fun v H2 => v = .non ∧ Q (.ref x) H2) (WE W σ) :=
    ⟨ρ ++ [x], _, _, hq2, rall, Post.bindAt (ρ0 := ρ) (H0 := H) p le k fun a h1 ρ1 H1 b _ le1 k1 hr1 rb p1 => by
      cases a with
      | non => exact ⟨VR.non_inv rb, p1 ρ1 H1 _ (le.trans le1) (k.trans k1) hr1 (.ref (le1 _ _ (new_ref hh)))⟩
      | _ => exact False.elim p1⟩
  have r2 : Vals (V.ref x :: (vs ++ dvs)) (Value.ref x :: (us ++ dus)) := .cons rfl (r.append hv)
  have hl : (Value.ref x :: us ++ dus).length = (G.ps f).length := by
    rw [← F.len _ _ _ _ want]
    exact r2.length.symm
  subst hdx
  subst hx
  refine wpAny_call (make_map I.kIn mk.makes mk.init (beq_iff_eq.mp mk.fn) ?_)
  refine codeAny_mono (F.run _ X.stack _ _ _ _ _ _ _ (hr.make _ us []) (J.env0.make _ us []) (hb _ (Value.ref (s.heap.objs.size + 1) :: us) J.kIn hl) r2 want) fun res s' back => ?_
  match res, back with
  | .error ex, back => exact passAt tk σ pins _ _ ex s' J back
  | .ok (.ret u), back =>
    obtain ⟨v, H', J', rv, ev, qq⟩ := J.after back
    subst ev
    exact ⟨rv, V.ref (s.heap.objs.size + 1), H', J', rfl, qq⟩
theorem pd_mk {j c f : Nat} {R : Rn} {x : Str} {dfs : List PV} (hK : X.K = G.K) (tk : Takes X W) (M : MkOk G G.K c f dfs) (F : FnC G X j R f) (hr : Room (j + 1) X.A) (hg : Gl X x) (hm : X.mg x = some (.ref (G.cm c)))
    (hs : isStar e = false) (hp : plainA es = true) (hdb : (x == ("__debug__" : Str)) = false) (ha : PA X (e :: es) (tDA G W ds)) : PE X (.Call (.Name x p1) (e :: es) [] pos) (tD G W (dMk G.P R c ds dfs)) := by
  refine ⟨fun pins s σ H Q I ⟨ρ, sp, h, sl, hr2, p⟩ => ?_⟩
  refine wpAny_Call_Name_kw (ld_glob I hg hm ?_ hdb)
  have mk := M.makes
  rw [← hK] at mk
  refine PySem.W.callWith_K (h₀ := X.base) I.ok.mod.kin mk.kp (thn (ha.run pos pins s σ H _ I ⟨ρ, sp, h, sl, hr2, Post.bind p fun xs h1 ρ1 H1 vs _ le k hr1 rx p1 =>
    (⟨ρ1, h1, xs, hr1, rx, p1⟩ : ∃ ρ1 h1 ps, HR G ρ1 h1 H1 ∧ VRs G.K ρ1 H1 ps vs ∧ Post G (WE W σ) ρ1 H1 (relV G) (mkObj G.P R c (ps ++ dfs) h1) Q)⟩) fun us s1 ⟨vs, H1, I1, r, ρ1, h1, ps, hr1, rx, p1⟩ => ⟨I1.kIn, ?_⟩) (starEach_cons hs _) (any_plain hp _)
  exact made_at hK tk M F hr I1 r hr1 rx p1
theorem pd_mk0 {j c f : Nat} {R : Rn} {x : Str} {dfs : List PV} (hK : X.K = G.K) (tk : Takes X W) (M : MkOk G G.K c f dfs) (F : FnC G X j R f) (hr : Room (j + 1) X.A) (hg : Gl X x) (hm : X.mg x = some (.ref (G.cm c)))
    (hdb : (x == ("__debug__" : Str)) = false) : PE X (.Call (.Name x p1) [] [] pos) (tD G W (dMk G.P R c dNil dfs)) := by
  refine ⟨fun pins s σ H Q I ⟨ρ, sp, h, sl, hr2, p⟩ => ?_⟩
  refine wpAny_Call_Name_kw (ld_glob I hg hm ?_ hdb)
  have mk := M.makes
  rw [← hK] at mk
  exact PySem.W.callWith_K0 I.kIn mk.kp (made_at (us := []) (vs := []) (ps := []) hK tk M F hr I .nil hr2 .nil p)
end
end Fx

/-! Expressions as they are written, against the small language's. -/
namespace Fx
open PySem PySem.Spec PyProof.Rows L2
/-- what a name of the module stands for -/
inductive GV where
  | fn (f : Nat) (dss : List (List PV)) | cls (c : Nat) (f : Nat) (dss : List (List PV)) | val (v : PV) | exc (c : Nat) | bi
structure Tb where
  gv : List (Str × GV)
  nms : List Str
  mns : List Str
mutual
def pvb : PV → PV → Bool
  | .non, .non => true
  | .bl a, .bl b => a == b
  | .int i, .int j => decide (i = j)
  | .str x, .str y => decide (x = y)
  | .tup l, .tup r => pvsb l r
  | .ref a, .ref b => decide (a = b)
  | _, _ => false
def pvsb : List PV → List PV → Bool
  | [], [] => true
  | x :: l, y :: r => pvb x y && pvsb l r
  | _, _ => false
end
mutual
theorem pvb_eq : ∀ {x y : PV}, pvb x y = true → x = y
  | .non, y, h => by cases y <;> first | rfl | cases h
  | .bl a, y, h => by cases y <;> first | (rw [eq_of_beq (show (a == _) = true from h)]) | cases h
  | .int i, y, h => by cases y <;> first | (rw [of_decide_eq_true (show decide (i = _) = true from h)]) | cases h
  | .str i, y, h => by cases y <;> first | (rw [of_decide_eq_true (show decide (i = _) = true from h)]) | cases h
  | .tup l, y, h => by cases y <;> first | (rw [pvsb_eq (show pvsb l _ = true from h)]) | cases h
  | .ref i, y, h => by cases y <;> first | (rw [of_decide_eq_true (show decide (i = _) = true from h)]) | cases h
theorem pvsb_eq : ∀ {x y : List PV}, pvsb x y = true → x = y
  | [], y, h => by cases y <;> first | rfl | cases h
  | x :: l, y, h => by
    cases y with
    | nil => cases h
    | cons z r =>
      have h' : (pvb x z && pvsb l r) = true := h
      rw [Bool.and_eq_true] at h'
      rw [pvb_eq h'.1, pvsb_eq h'.2]
end
def kindB (sc : Scope) (x : Str) (k : NameKind → Bool) : Bool := match sc.names.lookup x with
  | some j => k j
  | none => false
def visB (sc : Scope) (x : Str) : Bool := kindB sc x fun | .local => true | .cell => true | .free => true | _ => false
def glbB (sc : Scope) (x : Str) : Bool := kindB sc x fun | .globalImplicit => true | _ => false
def lclB (sc : Scope) (x : Str) : Bool := kindB sc x fun | .local => true | _ => false
theorem visB_ok {sc : Scope} {x : Str} (h : visB sc x = true) : Vis sc x := by
  unfold visB kindB at h
  unfold Vis
  split at h
  · rename_i j e
    rw [e]
    cases j <;> first | exact .inl rfl | exact .inr (.inl rfl) | exact .inr (.inr rfl) | cases h
  · cases h
theorem glbB_ok {X : Cx} {x : Str} (h : glbB X.env.scope x = true) : Gl X x := by
  unfold glbB kindB at h
  unfold Gl Env.kindOf
  split at h
  · rename_i j e
    rw [e]
    cases j <;> first | rfl | cases h
  · cases h
theorem lclB_ok {sc : Scope} {x : Str} (h : lclB sc x = true) : sc.names.lookup x = some .local := by
  unfold lclB kindB at h
  split at h
  · rename_i j e
    rw [e]
    cases j <;> first | rfl | cases h
  · cases h
def nameB (x : Str) : Bool := !(x == ("__debug__" : Str)) && !(x == ("__classdict__" : Str))
theorem nameB_ok {x : Str} (h : nameB x = true) : (x == ("__debug__" : Str)) = false ∧ (x == ("__classdict__" : Str)) = false := by
  unfold nameB at h
  simpa [Bool.and_eq_true] using h
def strB (a b : Str) : Bool := decide (a = b)
def atB (N : List Str) (i : Nat) (x : Str) : Bool := match N[i]? with
  | some y => decide (y = x)
  | none => false
theorem atB_ok {N : List Str} {i : Nat} {x : Str} (h : atB N i x = true) : N[i]? = some x := by
  unfold atB at h
  split at h
  · rename_i y e
    rw [e, of_decide_eq_true h]
  · cases h
def biB (T : Tb) (x : Str) : Bool := match T.gv.lookup x with
  | some .bi => true
  | _ => false
def fnB (T : Tb) (x : Str) (f : Nat) (ds : List PV) : Bool := match T.gv.lookup x with
  | some (.fn g dss) => decide (f = g) && dss.any fun d => pvsb ds d
  | _ => false
def clsB (T : Tb) (x : Str) (c : Nat) (ds : List PV) : Bool := match T.gv.lookup x with
  | some (.cls g _ dss) => decide (c = g) && dss.any fun d => pvsb ds d
  | _ => false
def valB (T : Tb) (x : Str) (v : PV) : Bool := match T.gv.lookup x with
  | some (.val w) => pvb v w
  | _ => false
/-- a constant as written -/
def cstB (T : Tb) (sc : Scope) (v : PV) (e : Expr) : Bool := match e with
  | .Constant (.int i) _ _ => pvb v (.int i)
  | .Constant (.bool b) _ _ => pvb v (.bl b)
  | .Constant .none _ _ => pvb v .non
  | .Constant (.str x) _ _ => pvb v (.str x)
  | .Name x _ => glbB sc x && nameB x && valB T x v
  | _ => false
def isSet : Expr → Bool
  | .Set .. => true
  | _ => false
def isB : Expr → Bool
  | .BoolOp .. => true
  | _ => false
def isIf : Expr → Bool
  | .IfExp .. => true
  | _ => false
def lmName : Lm → Str
  | .append => "append" | .extend => "extend" | .index => "index" | .reverse => "reverse"
def tgB (N : List Str) (sc : Scope) (tg : Tg) (e : Expr) : Bool := match tg, e with
  | .name i, .Name x _ => atB N i x && lclB sc x
  | .names is, .Tuple es _ _ => decide (is.length = es.length) && (is.zip es).all fun p => match p.2 with
    | .Name x _ => atB N p.1 x && lclB sc x
    | _ => false
  | _, _ => false
def ownOf (N : List Str) (own : List Nat) : List (Str × Nat) := own.map fun i => (N[i]?.getD Str.empty, i)
theorem slots_own (N : List Str) (own : List Nat) : slots (ownOf N own) = own := by
  unfold slots ownOf
  rw [List.map_map]
  exact List.map_id' own
mutual
def chk (T : Tb) (N : List Str) : E → Scope → Expr → Bool
  | .var i, sc, e => match e with
    | .Name x _ => atB N i x && visB sc x && nameB x
    | _ => false
  | .cst v, sc, e => cstB T sc v e
  | .bin o a b, sc, e => match e with
    | .BinOp x op y _ => decide (opOf op = some o) && chk T N a sc x && chk T N b sc y
    | _ => false
  | .neg a, sc, e => match e with
    | .UnaryOp .USub x _ => chk T N a sc x
    | _ => false
  | .not a, sc, e => match e with
    | .UnaryOp .Not x _ => !isIf x && chk T N a sc x
    | _ => false
  | .and a b, sc, e => match e with
    | .BoolOp .And [x, y] _ => !isIf x && !isIf y && chk T N a sc x && chk T N b sc y
    | .BoolOp .And (x :: y :: z :: r) pos => !isIf x && chk T N a sc x && chk T N b sc (.BoolOp .And (y :: z :: r) pos)
    | _ => false
  | .or a b, sc, e => match e with
    | .BoolOp .Or [x, y] _ => !isIf x && !isIf y && chk T N a sc x && chk T N b sc y
    | .BoolOp .Or (x :: y :: z :: r) pos => !isIf x && chk T N a sc x && chk T N b sc (.BoolOp .Or (y :: z :: r) pos)
    | _ => false
  | .cmp o a b, sc, e => match e with
    | .Compare x [op] [y] _ => decide (copOf op = some o) && !behindInMarks op y && chk T N a sc x && chk T N b sc y
    | _ => false
  | .chain o p a b c, sc, e => match e with
    | .Compare x [op, oq] [y, z] _ => decide (copOf op = some o) && decide (copOf oq = some p) && !lastMarks [op, oq] [y, z] && chk T N a sc x && chk T N b sc y && chk T N c sc z
    | _ => false
  | .ite c a b, sc, e => match e with
    | .IfExp t x y _ => !isIf t && chk T N c sc t && chk T N a sc x && chk T N b sc y
    | _ => false
  | .tup es, sc, e => match e with
    | .Tuple xs _ _ => chks T N es sc xs
    | _ => false
  | .lst es, sc, e => match e with
    | .List xs _ => chks T N es sc xs
    | _ => false
  | .dic _ _, _, _ => false
  | .idx a i, sc, e => match e with
    | .Subscript x y _ => !isSlice y && chk T N a sc x && chk T N i sc y
    | _ => false
  | .slc a lo hi, sc, e => match e with
    | .Subscript x (.Slice l h none _) _ => chk T N a sc x && chko T N lo sc l && chko T N hi sc h
    | _ => false
  | .fld a f, sc, e => match e with
    | .Attribute x name _ => atB T.nms f name && !isCall0 x && chk T N a sc x
    | _ => false
  | .call f es ds, sc, e => match e with
    | .Call (.Name x _) args [] _ => glbB sc x && nameB x && fnB T x f ds && plainA args && chks T N es sc args
    | _ => false
  | .meth o m es, sc, e => match e with
    | .Call (.Attribute x name apos) args [] pos => atB T.mns m name && !isCall0 x && plainA args && decide (args.length < 29) && (apos.endLine == pos.line) && chk T N o sc x && chks T N es sc args
    | _ => false
  | .mk c es ds, sc, e => match e with
    | .Call (.Name x _) args [] _ => glbB sc x && nameB x && clsB T x c ds && plainA args && chks T N es sc args
    | _ => false
  | .blt b es, sc, e => match e with
    | .Call (.Name x _) (y :: ys) [] _ => strB x (bltName b) && glbB sc x && biB T x && plainA (y :: ys) && chks T N es sc (y :: ys)
    | _ => false
  | .lm m o es, sc, e => match e with
    | .Call (.Attribute x name apos) args [] pos => strB name (lmName m) && !isCall0 x && plainA args && decide (args.length < 29) && (match m with | .reverse => args.isEmpty | _ => !args.isEmpty) && (apos.endLine == pos.line) && chk T N o sc x && chks T N es sc args
    | _ => false
  | .isi a t, sc, e => match e with
    | .Call (.Name f _) [x, .Name ty _] [] _ => strB f "isinstance" && strB ty (Str.ofString (tyName t)) && glbB sc f && glbB sc ty && biB T f && biB T ty && !isStar x && chk T N a sc x
    | _ => false
  | .tidx l a, sc, e => match e with
    | .Call (.Attribute (.Name x _) name apos) [y] [] pos => strB name "index" && glbB sc x && nameB x && valB T x (.tup l) && !isStar y && (apos.endLine == pos.line) && chk T N a sc y
    | _ => false
  | .lc own tg it cnd elt, sc, e => match e with
    | .ListComp el [⟨tge, iter, ifs, 0⟩] scope _ => blkC N sc scope (ownOf N own) && (tgSlots tg).all (fun i => own.contains i) && !isSet iter && chki T N it sc tge iter && tgB N (relS scope sc) tg tge && chkf T N cnd (relS scope sc) ifs && chk T N elt (relS scope sc) el
    | _ => false
  | .sortset _ _ _, _, _ => false
  | .lenset _, _, _ => false
  | .lrng1 a, sc, e => match e with
    | .Call (.Name f _) [.Call (.Name g _) [x] [] _] [] _ => strB f "list" && strB g "range" && glbB sc f && glbB sc g && biB T f && biB T g && !isStar x && chk T N a sc x
    | _ => false
  | .listrng a b, sc, e => match e with
    | .Call (.Name f _) [.Call (.Name g _) [x, y] [] _] [] _ => strB f "list" && strB g "range" && glbB sc f && glbB sc g && biB T f && biB T g && !isStar x && !isStar y && chk T N a sc x && chk T N b sc y
    | _ => false
  | .allq _ _ _, _, _ => false
def chks (T : Tb) (N : List Str) : Es → Scope → List Expr → Bool
  | .nil, _, l => l.isEmpty
  | .cons m r, sc, l => match l with
    | e :: es => !isStar e && chk T N m sc e && chks T N r sc es
    | [] => false
  | .star m r, sc, l => match l with
    | .Starred e _ :: es => chk T N m sc e && chks T N r sc es
    | _ => false
def chko (T : Tb) (N : List Str) : Oe → Scope → Option Expr → Bool
  | .none, _, o => o.isNone
  | .some m, sc, o => match o with
    | some e => chk T N m sc e
    | none => false
def chkf (T : Tb) (N : List Str) : Oe → Scope → List Expr → Bool
  | .none, _, l => l.isEmpty
  | .some m, sc, l => match l with
    | [e] => !isIf e && chk T N m sc e
    | _ => false
def chki (T : Tb) (N : List Str) : It → Scope → Expr → Expr → Bool
  | .seq m, sc, _, e => chk T N m sc e
  | .rng1 m, sc, _, e => match e with
    | .Call (.Name g _) [x] [] _ => strB g "range" && glbB sc g && biB T g && !isStar x && chk T N m sc x
    | _ => false
  | .rng m m', sc, _, e => match e with
    | .Call (.Name g _) [x, y] [] _ => strB g "range" && glbB sc g && biB T g && !isStar x && !isStar y && chk T N m sc x && chk T N m' sc y
    | _ => false
  | .enum m, sc, tg, e => match tg with
    | .Tuple _ _ _ => match e with
      | .Call (.Name g _) [x] [] _ => strB g "enumerate" && glbB sc g && biB T g && !isStar x && chk T N m sc x
      | _ => false
    | _ => false
end
end Fx

/-! The small language's expressions are what is written. -/
namespace Fx
open PySem PySem.Spec PyProof.Rows L2
def GvOk (G : Glob) (K : PySem.W.Frag) (mg : Str → Option Value) (x : Str) : GV → Prop
  | .fn f dss => mg x = some (.ref (G.fa f)) ∧ PySem.W.keepIn K (.ref (G.fa f)) = true ∧ ∀ ds ∈ dss, Dfl G K f ds
  | .cls c f dss => mg x = some (.ref (G.cm c)) ∧ ∀ ds ∈ dss, MkOk G K c f ds
  | .val v => ∃ a u, mg x = some u ∧ L2.RelV a u ∧ (∀ ρ H, VR K ρ H v a) ∧ ((∃ l, v = .tup l) → ∃ b, u = .ref b ∧ TupK K b)
  | .exc c => mg x = some (.ref (G.cm c))
  | .bi => mg x = none
structure TOk (G : Glob) (T : Tb) (mg : Str → Option Value) : Prop where
  nms : G.nms = T.nms
  mns : G.mns = T.mns
  gv : ∀ x g, T.gv.lookup x = some g → GvOk G G.K mg x g
  mt : MtOk G G.K
structure CtxOk (G : Glob) (T : Tb) (N : List Str) (rc rm : Rn) (X : Cx) : Prop where
  K : X.K = G.K
  calm : X.calm = true
  nd : X.N.Nodup
  N : X.N = N
  cap : ∃ j, Room j X.A ∧ ∀ f, FnC G X j rc f
  capm : ∃ j, Room (j + 1) X.A ∧ ∀ f, FnC G X j rm f
  t : TOk G T X.mg
section
variable {G : Glob} {T : Tb} {N : List Str} {rc rm : Rn} {X : Cx}
theorem CtxOk.blk (C : CtxOk G T N rc rm X) (s : Shared) (H : Hp) (sc : Scope) (env : Env) (fp : List Addr) : CtxOk G T N rc rm (X.blk s H sc env fp) := ⟨C.K, C.calm, C.nd, C.N, C.cap, C.capm, C.t⟩
theorem CtxOk.un (C : CtxOk G T N rc rm X) : X.A.units + 1 < cLine := by
  obtain ⟨j, r, _⟩ := C.cap
  have := r.un
  omega
theorem CtxOk.bi (C : CtxOk G T N rc rm X) {x : Str} (h : biB T x = true) : X.mg x = none := by
  unfold biB at h
  split at h
  · rename_i e; exact C.t.gv x _ e
  · cases h
theorem CtxOk.fn (C : CtxOk G T N rc rm X) {x : Str} {f : Nat} {ds : List PV} (h : fnB T x f ds = true) : X.mg x = some (.ref (G.fa f)) ∧ PySem.W.keepIn X.K (.ref (G.fa f)) = true ∧ Dfl G X.K f ds := by
  unfold fnB at h
  split at h
  · rename_i g dss e
    obtain ⟨h1, h2, h3⟩ := C.t.gv x _ e
    rw [Bool.and_eq_true] at h
    have := of_decide_eq_true h.1
    subst this
    obtain ⟨d, hd, e2⟩ := List.any_eq_true.mp h.2
    rw [C.K]
    exact ⟨h1, h2, by rw [pvsb_eq e2]; exact h3 d hd⟩
  · cases h
theorem CtxOk.cls (C : CtxOk G T N rc rm X) {x : Str} {c : Nat} {ds : List PV} (h : clsB T x c ds = true) : X.mg x = some (.ref (G.cm c)) ∧ ∃ f, MkOk G G.K c f ds := by
  unfold clsB at h
  split at h
  · rename_i g f dss e
    obtain ⟨h1, h3⟩ := C.t.gv x _ e
    rw [Bool.and_eq_true] at h
    have := of_decide_eq_true h.1
    subst this
    obtain ⟨d, hd, e2⟩ := List.any_eq_true.mp h.2
    exact ⟨h1, f, by rw [pvsb_eq e2]; exact h3 d hd⟩
  · cases h
theorem CtxOk.val (C : CtxOk G T N rc rm X) {x : Str} {v : PV} (h : valB T x v = true) : ∃ a u, X.mg x = some u ∧ L2.RelV a u ∧ (∀ ρ H, VR G.K ρ H v a) ∧ ((∃ l, v = .tup l) → ∃ b, u = .ref b ∧ TupK G.K b) := by
  unfold valB at h
  split at h
  · rename_i w e
    rw [pvb_eq h]
    exact C.t.gv x _ e
  · cases h
theorem CtxOk.cst (C : CtxOk G T N rc rm X) {v : PV} {e : Expr} (h : cstB T X.env.scope v e = true) {W : WX} : PE X e (tD G W fun _ h => .ok v h) := by
  unfold cstB at h
  split at h
  · rw [pvb_eq h]; exact pd_cst pe_int fun _ _ => .int _
  · rw [pvb_eq h]; exact pd_cst pe_bl fun _ _ => .bl _
  · rw [pvb_eq h]; exact pd_cst pe_non fun _ _ => .non
  · rw [pvb_eq h]; exact pd_cst pe_str fun _ _ => .str _
  · simp only [Bool.and_eq_true] at h
    obtain ⟨⟨h1, h2⟩, h3⟩ := h
    obtain ⟨a, u, e1, r, hv, _⟩ := C.val h3
    exact pd_cst (pe_glob (glbB_ok h1) e1 r (nameB_ok h2).1) hv
  · cases h
/-- an expression and what it does -/
structure SE (X : Cx) (G : Glob) (W : WX) (e : Expr) (d : Dn) : Prop where
  pe : PE X e (tD G W d)
  pt : isIf e = false → PT X e (tDT G W (dT d))
  pw : isB e = true → PW X e (tDT G W (dT d))
def plainT : Expr → Bool
  | .UnaryOp .Not _ _ => false
  | .BoolOp .. => false
  | .IfExp .. => false
  | .Compare .. => false
  | _ => true
theorem plainT_eq {e : Expr} (h : plainT e = true) (env : Env) (whole : Sem Value) : isTrue e env whole = (do let v ← whole; standAt e.pos; holding [v] (truthy v)) := by
  cases e <;> first | rfl | (cases h; done) | (rename_i op _ _; cases op <;> first | rfl | (cases h; done))
theorem plainB {e : Expr} (h : plainT e = true) : isB e = false := by cases e <;> first | rfl | cases h
theorem SE.of {W : WX} {e : Expr} {d : Dn} (hK : X.K = G.K) (h : PE X e (tD G W d)) (p : plainT e = true) : SE X G W e d := ⟨h, fun _ => pd_truth hK h (plainT_eq p _), fun b => by rw [plainB p] at b; cases b⟩
theorem lmo {m : Lm} {e : Expr} {es : List Expr} {o : Expr} {d : Dn} {ds : Da} {W : WX} {pos apos : Pos} (hK : X.K = G.K) (hm : m ≠ .reverse) (ho : PE X o (tD G W d)) (ha : PA X (e :: es) (tDA G W ds)) (hb : isCall0 o = false) (hs : isStar e = false) (hp : plainA es = true) (hl : es.length < 29) (line : (apos.endLine == pos.line) = true) :
    PE X (.Call (.Attribute o (lmName m) apos) (e :: es) [] pos) (tD G W (dLm m d ds)) := by
  cases m with
  | append => exact pd_lm hK PySem.F.slot_list_append PySem.F.type_list_append mr_append ho ha hb hs hp hl line
  | extend => exact pd_lm hK PySem.F.slot_list_extend PySem.F.type_list_extend mr_extend ho ha hb hs hp hl line
  | index => exact pd_lm hK PySem.F.slot_list_index PySem.F.type_list_index (mr_index hK) ho ha hb hs hp hl line
  | reverse => exact absurd rfl hm
theorem plain_cons {e : Expr} {es : List Expr} (h : plainA (e :: es) = true) : isStar e = false ∧ plainA es = true := by
  unfold plainA at h
  rw [List.all_cons, Bool.and_eq_true] at h
  exact ⟨by simpa using h.1, h.2⟩
def dLr (di : Dn) : Dn := fun σ h => (di σ h).bind fun y h2 => match y with
    | .int j => if inR j = true ∧ j.toNat ≤ LINE then alloc (.lst (rngV 0 j)) h2 else .no
    | _ => .no
def dLr2 (da db : Dn) : Dn := fun σ h => (da σ h).bind fun x h1 => (db σ h1).bind fun y h2 => match x, y with
    | .int i, .int j => if inR i = true ∧ inR j = true ∧ (j - i).toNat ≤ LINE then alloc (.lst (rngV i j)) h2 else .no
    | _, _ => .no
theorem rng_rel {K : PySem.W.Frag} {ρ : List Addr} {H : Hp} (i j : Int) : VRs K ρ H (rngV i j) (rgV i j) := by
  unfold rngV rgV
  generalize List.range (j - i).toNat = l
  induction l with
  | nil => exact .nil
  | cons n l ih => exact .cons (.int _) ih
theorem pd_lr {e : Expr} {d : Dn} {W : WX} {pos p1 p2 p3 : Pos} (hc : X.calm = true) (hg : Gl X "list") (hm : X.mg "list" = none) (hg2 : Gl X "range") (hm2 : X.mg "range" = none) (hs : isStar e = false) (he : PE X e (tD G W d)) :
    PE X (.Call (.Name "list" p1) [.Call (.Name "range" p2) [e] [] p3] [] pos) (tD G W (dLr d)) :=
  PE.weak (pe_listRg hc hg hm (prg_1 hg2 hm2 he (starEach_cons hs _))) fun σ H Q ⟨ρ, sp, h, sl, hr, p⟩ => ⟨ρ, sp, h, sl, hr, Post.bind p fun x h1 ρ1 H1 v _ le k hr1 rx p1 => by
    cases x with
    | int j =>
      cases VR.int_inv rx
      have p2 : Post G (fun cls e H' => W cls e σ H') ρ1 H1 (relV G) (if inR j = true ∧ j.toNat ≤ LINE then alloc (.lst (rngV 0 j)) h1 else .no) Q := p1
      split at p2
      · rename_i hj
        have q := inR_iff.mp hj.1
        have q2 := hj.2
        unfold LINE at q2
        exact ⟨j, rfl, ⟨by decide, by decide, q.1, q.2, by omega⟩, Post.newList p2 hr1 (rng_rel 0 j)⟩
      · exact False.elim p2
    | _ => exact False.elim p1⟩
theorem pd_lr2 {e e2 : Expr} {d d' : Dn} {W : WX} {pos p1 p2 p3 : Pos} (hc : X.calm = true) (hg : Gl X "list") (hm : X.mg "list" = none) (hg2 : Gl X "range") (hm2 : X.mg "range" = none) (hs : isStar e = false) (hs2 : isStar e2 = false) (he : PE X e (tD G W d)) (he2 : PE X e2 (tD G W d')) :
    PE X (.Call (.Name "list" p1) [.Call (.Name "range" p2) [e, e2] [] p3] [] pos) (tD G W (dLr2 d d')) :=
  PE.weak (pe_listRg hc hg hm (prg_2 hg2 hm2 he he2 (starEach_cons hs _) (starEach_cons hs2 _) (by rw [starEach_cons hs2]; rfl))) fun σ H Q ⟨ρ, sp, h, sl, hr, p⟩ => ⟨ρ, sp, h, sl, hr, Post.bind p fun x h1 ρ1 H1 v _ le k hr1 rx p1 => ⟨ρ1, sp, h1, sl.mono le k.toKeep, hr1, Post.bind p1 fun y h2 ρ2 H2 w _ le2 k2 hr2 ry p2 => by
    cases x with
    | int i =>
      cases y with
      | int j =>
        cases VR.int_inv rx
        cases VR.int_inv ry
        have p3 : Post G (fun cls e H' => W cls e σ H') ρ2 H2 (relV G) (if inR i = true ∧ inR j = true ∧ (j - i).toNat ≤ LINE then alloc (.lst (rngV i j)) h2 else .no) Q := p2
        split at p3
        · rename_i hj
          have q := inR_iff.mp hj.1
          have q1 := inR_iff.mp hj.2.1
          have q2 := hj.2.2
          unfold LINE at q2
          exact ⟨i, j, rfl, rfl, ⟨q.1, q.2, q1.1, q1.2, by omega⟩, Post.newList p3 hr2 (rng_rel i j)⟩
        · exact False.elim p3
      | _ => exact False.elim p2
    | _ => exact False.elim (by cases y <;> exact p2)⟩⟩
theorem pg_tgt {tg : Tg} {tge : Expr} (hK : X.K = G.K) (hc : X.calm = true) (nd : X.N.Nodup) (h : tgB X.N X.env.scope tg tge = true) : PG X tge (gT G.K tg) := by
  unfold tgB at h
  split at h
  · rw [Bool.and_eq_true] at h
    exact pg_name nd (atB_ok h.1) (.inl (lclB_ok h.2)) (.inr (lclB_ok h.2))
  · rename_i is es _ _
    rw [Bool.and_eq_true] at h
    have hl := of_decide_eq_true h.1
    have key : ∀ (is : List Nat) (es : List Expr), is.length = es.length → (is.zip es).all (fun p => match p.2 with
        | .Name x _ => atB X.N p.1 x && lclB X.env.scope x
        | _ => false) = true → PGs X es (gNames is) ∧ (assignEach es X.env).length = is.length ∧ (assignEach es X.env).findIdx? (·.1) = none := by
      intro is
      induction is with
      | nil =>
        intro es hl _
        cases es with
        | nil => exact ⟨pgs_nil, rfl, rfl⟩
        | cons _ _ => cases hl
      | cons i is ih =>
        intro es hl ha
        cases es with
        | nil => cases hl
        | cons e es =>
          rw [List.zip_cons_cons, List.all_cons, Bool.and_eq_true] at ha
          obtain ⟨g1, g2, g3⟩ := ih es (Nat.succ.inj hl) ha.2
          cases e with
          | Name x p =>
            have hx := ha.1
            simp only [Bool.and_eq_true] at hx
            refine ⟨pgs_cons (pg_name nd (atB_ok hx.1) (.inl (lclB_ok hx.2)) (.inr (lclB_ok hx.2))) g1 rfl, ?_, ?_⟩
            · show (assignEach es X.env).length + 1 = is.length + 1
              rw [g2]
            · show List.findIdx? _ ((false, _) :: assignEach es X.env) = none
              rw [List.findIdx?_cons]
              simp [g3]
          | _ => exact absurd ha.1 (by simp)
    obtain ⟨g1, g2, g3⟩ := key is es hl h.2
    rw [← hK]
    exact pg_tup hc g1 g2 g3
  · cases h
theorem notSet {e : Expr} (h : isSet e = false) (env : Env) (x : Value) : foldedSetIterable e env x = pure x := by
  cases e <;> first | rfl | cases h
end
section
variable {G : Glob} {T : Tb} {N : List Str} {rc rm : Rn}
mutual
theorem chk_ok : ∀ (m : E) {X : Cx} {e : Expr} {W : WX}, CtxOk G T N rc rm X → Takes X W → chk T N m X.env.scope e = true → SE X G W e (ev G.P rc rm m)
  | .var i, X, e, W, C, tk, h => by
    unfold chk at h
    split at h
    · simp only [Bool.and_eq_true] at h
      obtain ⟨⟨h1, h2⟩, h3⟩ := h
      exact .of C.K (pd_var (by rw [C.N]; exact atB_ok h1) (visB_ok h2) (nameB_ok h3).1 (nameB_ok h3).2) rfl
    · cases h
  | .cst v, X, e, W, C, tk, h => by
    unfold chk at h
    exact .of C.K (C.cst h) (by unfold cstB at h; split at h <;> first | rfl | cases h)
  | .bin o a b, X, e, W, C, tk, h => by
    unfold chk at h
    split at h
    · simp only [Bool.and_eq_true] at h
      obtain ⟨⟨h1, h2⟩, h3⟩ := h
      exact .of C.K (pd_op (or_bop C.K (of_decide_eq_true h1)) (chk_ok a C tk h2).pe (chk_ok b C tk h3).pe) rfl
    · cases h
  | .neg a, X, e, W, C, tk, h => by
    unfold chk at h
    split at h
    · refine .of C.K (PE.weak (pe_un un_neg (chk_ok a C tk h).pe) fun σ H Q ⟨ρ, sp, h, sl, hr, p⟩ => ⟨ρ, sp, h, sl, hr, Post.bind p fun x h1 ρ1 H1 v _ le k hr1 rx p1 => ?_⟩) rfl
      cases x with
      | int i => exact ⟨i, VR.int_inv rx, Post.now (rel := relV G) p1 hr1 (.int _)⟩
      | _ => exact False.elim p1
    · cases h
  | .not a, X, e, W, C, tk, h => by
    unfold chk at h
    split at h
    · rw [Bool.and_eq_true] at h
      have A := chk_ok a C tk h.2
      exact ⟨pd_not C.K A.pe, fun _ => ptd_not (A.pt (by simpa using h.1)), fun b => by cases b⟩
    · cases h
  | .and a b, X, e, W, C, tk, h => by
    unfold chk at h
    split at h
    · simp only [Bool.and_eq_true] at h
      obtain ⟨⟨⟨h1, h2⟩, h3⟩, h4⟩ := h
      have A := chk_ok a C tk h3
      have B := chk_ok b C tk h4
      have w := pwd_and (pos := by assumption) (A.pt (by simpa using h1)) (pw_and1 (B.pt (by simpa using h2)))
      exact ⟨pd_and C.K A.pe (pe_one B.pe), fun _ => w.pt, fun _ => w⟩
    · simp only [Bool.and_eq_true] at h
      obtain ⟨⟨h1, h3⟩, h4⟩ := h
      have A := chk_ok a C tk h3
      have B := chk_ok b C tk h4
      have w := pwd_and (A.pt (by simpa using h1)) (B.pw rfl)
      exact ⟨pd_and C.K A.pe B.pe, fun _ => w.pt, fun _ => w⟩
    · cases h
  | .or a b, X, e, W, C, tk, h => by
    unfold chk at h
    split at h
    · simp only [Bool.and_eq_true] at h
      obtain ⟨⟨⟨h1, h2⟩, h3⟩, h4⟩ := h
      have A := chk_ok a C tk h3
      have B := chk_ok b C tk h4
      have w := pwd_or (pos := by assumption) (A.pt (by simpa using h1)) (pw_or1 (B.pt (by simpa using h2)))
      exact ⟨pd_or C.K A.pe (pe_one B.pe), fun _ => w.pt, fun _ => w⟩
    · simp only [Bool.and_eq_true] at h
      obtain ⟨⟨h1, h3⟩, h4⟩ := h
      have A := chk_ok a C tk h3
      have B := chk_ok b C tk h4
      have w := pwd_or (A.pt (by simpa using h1)) (B.pw rfl)
      exact ⟨pd_or C.K A.pe B.pe, fun _ => w.pt, fun _ => w⟩
    · cases h
  | .cmp o a b, X, e, W, C, tk, h => by
    unfold chk at h
    split at h
    · simp only [Bool.and_eq_true] at h
      obtain ⟨⟨⟨h1, h2⟩, h3⟩, h4⟩ := h
      have A := (chk_ok a C tk h3).pe
      have B := (chk_ok b C tk h4).pe
      have O := oc_cop C.K (of_decide_eq_true h1)
      exact ⟨pd_cmp O A B (by simpa using h2), fun _ => pt_cmpD O A B (by simpa using h2), fun b => by cases b⟩
    · cases h
  | .chain o p a b c, X, e, W, C, tk, h => by
    unfold chk at h
    split at h
    · simp only [Bool.and_eq_true] at h
      obtain ⟨⟨⟨⟨⟨h1, h2⟩, h3⟩, h4⟩, h5⟩, h6⟩ := h
      have A := (chk_ok a C tk h4).pe
      have B := (chk_ok b C tk h5).pe
      have D := (chk_ok c C tk h6).pe
      have O := oc_cop C.K (of_decide_eq_true h1)
      have O2 := oc_cop C.K (of_decide_eq_true h2)
      exact ⟨pd_chain O O2 A B D (by simpa using h3), fun _ => ptd_chain O O2 A B D (by simpa using h3), fun b => by cases b⟩
    · cases h
  | .ite c a b, X, e, W, C, tk, h => by
    unfold chk at h
    split at h
    · simp only [Bool.and_eq_true] at h
      obtain ⟨⟨⟨h1, h2⟩, h3⟩, h4⟩ := h
      exact ⟨pd_ite ((chk_ok c C tk h2).pt (by simpa using h1)) (chk_ok a C tk h3).pe (chk_ok b C tk h4).pe, fun z => (by cases z), fun b => (by cases b)⟩
    · cases h
  | .tup es, X, e, W, C, tk, h => by
    unfold chk at h
    split at h
    · exact .of C.K (pd_tup (chks_ok es C tk h)) rfl
    · cases h
  | .lst es, X, e, W, C, tk, h => by
    unfold chk at h
    split at h
    · exact .of C.K (pd_lst (chks_ok es C tk h)) rfl
    · cases h
  | .dic _ _, X, e, W, C, tk, h => by unfold chk at h; cases h
  | .idx a i, X, e, W, C, tk, h => by
    unfold chk at h
    split at h
    · simp only [Bool.and_eq_true] at h
      obtain ⟨⟨h1, h2⟩, h3⟩ := h
      exact .of C.K (pd_idx C.K C.un (chk_ok a C tk h2).pe (chk_ok i C tk h3).pe (by simpa using h1)) rfl
    · cases h
  | .slc a lo hi, X, e, W, C, tk, h => by
    unfold chk at h
    split at h
    · simp only [Bool.and_eq_true] at h
      obtain ⟨⟨h1, h2⟩, h3⟩ := h
      exact .of C.K (pd_slc C.K (chk_ok a C tk h1).pe (chko_ok lo C tk h2) (chko_ok hi C tk h3)) rfl
    · cases h
  | .fld a f, X, e, W, C, tk, h => by
    unfold chk at h
    split at h
    · simp only [Bool.and_eq_true] at h
      obtain ⟨⟨h1, h2⟩, h3⟩ := h
      exact .of C.K (pd_fld C.K (by rw [C.t.nms]; exact atB_ok h1) (chk_ok a C tk h3).pe (by simpa using h2)) rfl
    · cases h
  | .call f es ds, X, e, W, C, tk, h => by
    unfold chk at h
    split at h
    · simp only [Bool.and_eq_true] at h
      obtain ⟨⟨⟨⟨h1, h2⟩, h3⟩, h4⟩, h5⟩ := h
      obtain ⟨j, r, F⟩ := C.cap
      obtain ⟨e1, e2, e3⟩ := C.fn h3
      have A := chks_ok es (W := W) C tk h5
      rename_i x _ args _
      cases args with
      | nil =>
        cases es with
        | nil => exact .of C.K (pd_call0 tk (F f) r (glbB_ok h1) e1 e2 e3 (nameB_ok h2).1) rfl
        | cons _ _ => unfold chks at h5; cases h5
        | star _ _ => unfold chks at h5; cases h5
      | cons y ys => exact .of C.K (pd_call tk (F f) r (glbB_ok h1) e1 e2 e3 (plain_cons h4).1 (plain_cons h4).2 (nameB_ok h2).1 A) rfl
    · cases h
  | .meth o m es, X, e, W, C, tk, h => by
    unfold chk at h
    split at h
    · simp only [Bool.and_eq_true] at h
      obtain ⟨⟨⟨⟨⟨⟨h1, h2⟩, h3⟩, h4⟩, h5⟩, h6⟩, h7⟩ := h
      obtain ⟨j, r, F⟩ := C.cap
      have O := (chk_ok o C tk h6).pe
      have A := chks_ok es (W := W) C tk h7
      rename_i x name _ args _
      have hn : G.mns[m]? = some name := by rw [C.t.mns]; exact atB_ok h1
      cases args with
      | nil =>
        cases es with
        | nil => exact .of C.K (pd_meth0 C.K hn C.t.mt tk F r O (by simpa using h2) h5) rfl
        | cons _ _ => unfold chks at h7; cases h7
        | star _ _ => unfold chks at h7; cases h7
      | cons y ys => exact .of C.K (pd_meth C.K hn C.t.mt tk F r O A (by simpa using h2) (plain_cons h3).1 (plain_cons h3).2 (by have := of_decide_eq_true h4; simp at this; omega) h5) rfl
    · cases h
  | .mk c es ds, X, e, W, C, tk, h => by
    unfold chk at h
    split at h
    · simp only [Bool.and_eq_true] at h
      obtain ⟨⟨⟨⟨h1, h2⟩, h3⟩, h4⟩, h5⟩ := h
      obtain ⟨j, r, F⟩ := C.capm
      obtain ⟨e1, f, M⟩ := C.cls h3
      have A := chks_ok es (W := W) C tk h5
      rename_i x _ args _
      cases args with
      | nil =>
        cases es with
        | nil => exact .of C.K (pd_mk0 C.K tk M (F f) r (glbB_ok h1) e1 (nameB_ok h2).1) rfl
        | cons _ _ => unfold chks at h5; cases h5
        | star _ _ => unfold chks at h5; cases h5
      | cons y ys => exact .of C.K (pd_mk C.K tk M (F f) r (glbB_ok h1) e1 (plain_cons h4).1 (plain_cons h4).2 (nameB_ok h2).1 A) rfl
    · cases h
  | .blt b es, X, e, W, C, tk, h => by
    unfold chk at h
    split at h
    · simp only [Bool.and_eq_true] at h
      obtain ⟨⟨⟨⟨h1, h2⟩, h3⟩, h4⟩, h5⟩ := h
      have hx := of_decide_eq_true h1
      subst hx
      exact .of C.K (pd_blt C.K C.calm (glbB_ok h2) (C.bi h3) (plain_cons h4).1 (plain_cons h4).2 (chks_ok es C tk h5)) rfl
    · cases h
  | .lm m o es, X, e, W, C, tk, h => by
    unfold chk at h
    split at h
    · simp only [Bool.and_eq_true] at h
      obtain ⟨⟨⟨⟨⟨⟨⟨h1, h2⟩, h3⟩, h4⟩, h5⟩, h6⟩, h7⟩, h8⟩ := h
      have hx := of_decide_eq_true h1
      subst hx
      have O := (chk_ok o C tk h7).pe
      have A := chks_ok es (W := W) C tk h8
      rename_i x _ args _
      cases args with
      | nil =>
        cases m with
        | reverse =>
          cases es with
          | nil => exact .of C.K (pd_lm0 C.K PySem.F.slot_list_reverse PySem.F.type_list_reverse mr_reverse O (by simpa using h2) h6) rfl
          | cons _ _ => unfold chks at h8; cases h8
          | star _ _ => unfold chks at h8; cases h8
        | _ => cases h5
      | cons y ys =>
        have hr : m ≠ .reverse := fun z => by subst z; cases h5
        exact .of C.K (lmo C.K hr O A (by simpa using h2) (plain_cons h3).1 (plain_cons h3).2 (by have := of_decide_eq_true h4; simp at this; omega) h6) rfl
    · cases h
  | .isi a t, X, e, W, C, tk, h => by
    unfold chk at h
    split at h
    · simp only [Bool.and_eq_true] at h
      obtain ⟨⟨⟨⟨⟨⟨⟨h1, h2⟩, h3⟩, h4⟩, h5⟩, h6⟩, h7⟩, h8⟩ := h
      have hx := of_decide_eq_true h1
      have hy := of_decide_eq_true h2
      subst hx
      subst hy
      exact .of C.K (pd_isi C.K (glbB_ok h3) (C.bi h5) (glbB_ok h4) (C.bi h6) (by simpa using h7) (chk_ok a C tk h8).pe) rfl
    · cases h
  | .tidx l a, X, e, W, C, tk, h => by
    unfold chk at h
    split at h
    · simp only [Bool.and_eq_true] at h
      obtain ⟨⟨⟨⟨⟨⟨h1, h2⟩, h3⟩, h4⟩, h5⟩, h6⟩, h7⟩ := h
      have hx := of_decide_eq_true h1
      subst hx
      obtain ⟨v, u, e1, r, hv, ht⟩ := C.val h4
      obtain ⟨b, rfl, tb⟩ := ht ⟨l, rfl⟩
      have hb : v = .ref b := by
        obtain ⟨a', vs, e', _, _⟩ := (hv [] (fun _ => none)).tup_inv
        subst e'
        cases r
        rfl
      subst hb
      exact .of C.K (pd_tidx (u := .ref b) C.K (glbB_ok h2) e1 tb hv (nameB_ok h3).1 (chk_ok a C tk h7).pe (by simpa using h5) h6) rfl
    · cases h
  | .lc own tg it cnd elt, X, e, W, C, tk, h => by
    unfold chk at h
    split at h
    · simp only [Bool.and_eq_true] at h
      obtain ⟨⟨⟨⟨⟨⟨h1, h2⟩, h3⟩, h4⟩, h5⟩, h6⟩, h7⟩ := h
      have ok := blkOk_by h1
      rw [← C.N] at ok
      refine .of C.K ?_ rfl
      have key := pd_lc (G := G) (W := W) (tg := tg) (pos := by assumption) C.K C.calm C.nd (chki_ok it C tk h4) ok (dt := evt G.P rc rm cnd) (de := ev G.P rc rm elt)
        (fun s H Cl cl fp => pg_tgt C.K C.calm C.nd (by rw [show (X.blk s H _ (compEnvC _ cl Cl X.env) fp).N = N from C.N]; exact h5))
        (fun s H Cl cl fp => chkf_ok cnd (C.blk s H _ _ fp) takesF h6)
        (fun s H Cl cl fp => (chk_ok elt (C.blk s H _ _ fp) takesF h7).pe)
        (fun i hi => by
          rw [C.N, slots_own]
          have := List.all_eq_true.mp h2 i hi
          simpa using this)
        (notSet (by simpa using h3) _)
      rw [C.N, slots_own] at key
      exact key
    · cases h
  | .sortset _ _ _, X, e, W, C, tk, h => by unfold chk at h; cases h
  | .lenset _, X, e, W, C, tk, h => by unfold chk at h; cases h
  | .lrng1 a, X, e, W, C, tk, h => by
    unfold chk at h
    split at h
    · simp only [Bool.and_eq_true] at h
      obtain ⟨⟨⟨⟨⟨⟨⟨h1, h2⟩, h3⟩, h4⟩, h5⟩, h6⟩, h7⟩, h8⟩ := h
      have hx := of_decide_eq_true h1
      have hy := of_decide_eq_true h2
      subst hx
      subst hy
      exact .of C.K (pd_lr C.calm (glbB_ok h3) (C.bi h5) (glbB_ok h4) (C.bi h6) (by simpa using h7) (chk_ok a C tk h8).pe) rfl
    · cases h
  | .listrng a b, X, e, W, C, tk, h => by
    unfold chk at h
    split at h
    · simp only [Bool.and_eq_true] at h
      obtain ⟨⟨⟨⟨⟨⟨⟨⟨⟨h1, h2⟩, h3⟩, h4⟩, h5⟩, h6⟩, h7⟩, h7b⟩, h8⟩, h9⟩ := h
      have hx := of_decide_eq_true h1
      have hy := of_decide_eq_true h2
      subst hx
      subst hy
      exact .of C.K (pd_lr2 C.calm (glbB_ok h3) (C.bi h5) (glbB_ok h4) (C.bi h6) (by simpa using h7) (by simpa using h7b) (chk_ok a C tk h8).pe (chk_ok b C tk h9).pe) rfl
    · cases h
  | .allq _ _ _, X, e, W, C, tk, h => by unfold chk at h; cases h
theorem chks_ok : ∀ (m : Es) {X : Cx} {es : List Expr} {W : WX}, CtxOk G T N rc rm X → Takes X W → chks T N m X.env.scope es = true → PA X es (tDA G W (evs G.P rc rm m))
  | .nil, X, es, W, C, tk, h => by
    unfold chks at h
    cases es with
    | nil => exact pd_nil
    | cons _ _ => cases h
  | .cons m r, X, es, W, C, tk, h => by
    unfold chks at h
    split at h
    · simp only [Bool.and_eq_true] at h
      obtain ⟨⟨h1, h2⟩, h3⟩ := h
      exact pd_cons (by simpa using h1) (chk_ok m C tk h2).pe (chks_ok r C tk h3)
    · cases h
  | .star m r, X, es, W, C, tk, h => by
    unfold chks at h
    split at h
    · simp only [Bool.and_eq_true] at h
      exact pd_star C.K (chk_ok m C tk h.1).pe (chks_ok r C tk h.2)
    · cases h
theorem chko_ok : ∀ (m : Oe) {X : Cx} {e : Option Expr} {W : WX}, CtxOk G T N rc rm X → Takes X W → chko T N m X.env.scope e = true → L2.PO X e (tDO G W (evo G.P rc rm m))
  | .none, X, e, W, C, tk, h => by
    unfold chko at h
    cases e with
    | none => exact pd_none
    | some _ => cases h
  | .some m, X, e, W, C, tk, h => by
    unfold chko at h
    split at h
    · exact pd_some (chk_ok m C tk h).pe
    · cases h
theorem chkf_ok : ∀ (m : Oe) {X : Cx} {es : List Expr} {W : WX}, CtxOk G T N rc rm X → Takes X W → chkf T N m X.env.scope es = true → PTs X es (tDT G W (evt G.P rc rm m))
  | .none, X, e, W, C, tk, h => by
    unfold chkf at h
    cases e with
    | nil => exact ⟨fun pins s σ H Q I ⟨ρ, sp, h, sl, hr, p⟩ => pts_nil.run pins s σ H Q I (Post.now (rel := relB) p hr rfl)⟩
    | cons _ _ => cases h
  | .some m, X, e, W, C, tk, h => by
    unfold chkf at h
    split at h
    · rw [Bool.and_eq_true] at h
      exact pts_one ((chk_ok m C tk h.2).pt (by simpa using h.1))
    · cases h
theorem chki_ok : ∀ (m : It) {X : Cx} {tg e : Expr} {W : WX}, CtxOk G T N rc rm X → Takes X W → chki T N m X.env.scope tg e = true → PI X tg e (tDI G W (evi G.P rc rm m))
  | .seq m, X, tg, e, W, C, tk, h => by
    unfold chki at h
    exact pdi_seq C.K (chk_ok m C tk h).pe
  | .rng1 m, X, tg, e, W, C, tk, h => by
    unfold chki at h
    split at h
    · simp only [Bool.and_eq_true] at h
      obtain ⟨⟨⟨⟨h1, h2⟩, h3⟩, h4⟩, h5⟩ := h
      have hx := of_decide_eq_true h1
      subst hx
      exact pdi_rng1 (glbB_ok h2) (C.bi h3) (by simpa using h4) (chk_ok m C tk h5).pe
    · cases h
  | .rng m m', X, tg, e, W, C, tk, h => by
    unfold chki at h
    split at h
    · simp only [Bool.and_eq_true] at h
      obtain ⟨⟨⟨⟨⟨⟨h1, h2⟩, h3⟩, h4⟩, h4b⟩, h5⟩, h6⟩ := h
      have hx := of_decide_eq_true h1
      subst hx
      exact pdi_rng2 (glbB_ok h2) (C.bi h3) (by simpa using h4) (by simpa using h4b) (chk_ok m C tk h5).pe (chk_ok m' C tk h6).pe
    · cases h
  | .enum m, X, tg, e, W, C, tk, h => by
    unfold chki at h
    split at h
    · split at h
      · simp only [Bool.and_eq_true] at h
        obtain ⟨⟨⟨⟨h1, h2⟩, h3⟩, h4⟩, h5⟩ := h
        have hx := of_decide_eq_true h1
        subst hx
        exact pdi_enum C.K (glbB_ok h2) (C.bi h3) (by simpa using h4) (chk_ok m C tk h5).pe
      · cases h
    · cases h
end
end
end Fx

/-! The small language's statements, each by its rule. -/
namespace Fx
open PySem PySem.Spec PyProof.Rows L2
abbrev Ds := Sl → PH → SR
section
variable (G : Glob)
/-- what is wanted behind a statement -/
def PostS (W : WX) (D : Ends) (ρ : List Addr) (H : Hp) : SR → Prop
  | .nx sp h => ∀ ρ' H' σ', Le ρ ρ' → Frm ρ H ρ' H' → HR G ρ' h H' → SlR G ρ' H' sp σ' → D.nx σ' H'
  | .bk sp h => ∀ ρ' H' σ', Le ρ ρ' → Frm ρ H ρ' H' → HR G ρ' h H' → SlR G ρ' H' sp σ' → D.bk σ' H'
  | .ct sp h => ∀ ρ' H' σ', Le ρ ρ' → Frm ρ H ρ' H' → HR G ρ' h H' → SlR G ρ' H' sp σ' → D.ct σ' H'
  | .rt p h => ∀ ρ' H' v, Le ρ ρ' → Frm ρ H ρ' H' → HR G ρ' h H' → VR G.K ρ' H' p v → D.rt v H'
  | .ex c fs sp h => ∀ ρ' H' σ' cls d, Le ρ ρ' → Frm ρ H ρ' H' → HR G ρ' h H' → SlR G ρ' H' sp σ' → ER G ρ' H' c fs cls d → W cls d σ' H'
  | .no => False
def tS (W : WX) (f : Ds) : TS := fun D σ H => ∃ ρ sp h, SlR G ρ H sp σ ∧ HR G ρ h H ∧ PostS G W D ρ H (f sp h)
end
section
variable {G : Glob} {X : Cx} {W : WX} {e o : Expr} {d dx : Dn} {ds : Da} {pos p1 p2 apos : Pos} {D : Ends} {ρ ρ1 : List Addr} {H H1 : Hp}
theorem PostS.base {r : SR} (p : PostS G W D ρ H r) (le : Le ρ ρ1) (k : Frm ρ H ρ1 H1) : PostS G W D ρ1 H1 r := by
  cases r with
  | nx sp h => exact fun ρ' H' σ' l2 k2 => p ρ' H' σ' (le.trans l2) (k.trans k2)
  | bk sp h => exact fun ρ' H' σ' l2 k2 => p ρ' H' σ' (le.trans l2) (k.trans k2)
  | ct sp h => exact fun ρ' H' σ' l2 k2 => p ρ' H' σ' (le.trans l2) (k.trans k2)
  | rt sp h => exact fun ρ' H' σ' l2 k2 => p ρ' H' σ' (le.trans l2) (k.trans k2)
  | ex c fs sp h => exact fun ρ' H' σ' cls d l2 k2 => p ρ' H' σ' cls d (le.trans l2) (k.trans k2)
  | no => exact p
/-- an expression, then the rest of the statement -/
theorem PostS.ofRes {α β : Type} {rel : List Addr → Hp → α → β → Prop} {sp : Sl} {σ : L2.St} {r : Res α} {f : α → PH → SR} {Q : β → Hp → Prop} (sl : SlR G ρ H sp σ) (p : PostS G W D ρ H (ofRes sp r f))
    (k : ∀ a h1 ρ1 H1 b, r = .ok a h1 → Le ρ ρ1 → Frm ρ H ρ1 H1 → HR G ρ1 h1 H1 → rel ρ1 H1 a b → PostS G W D ρ1 H1 (f a h1) → Q b H1) : Post G (fun cls e H' => W cls e σ H') ρ H rel r Q := by
  cases r with
  | ok a h1 => exact fun ρ1 H1 b le kp hr rl => k a h1 ρ1 H1 b rfl le kp hr rl (PostS.base (show PostS G W D ρ H (f a h1) from p) le kp)
  | exc c fs h1 => exact fun ρ1 H1 cls d le kp hr er => p ρ1 H1 σ cls d le kp hr (sl.mono le kp.toKeep) er
  | no => exact p
theorem PostS.nxt {sp : Sl} {h : PH} {σ : L2.St} (p : PostS G W D ρ H (.nx sp h)) (hr : HR G ρ h H) (sl : SlR G ρ H sp σ) : D.nx σ H := p ρ H σ (Le.refl _) (Frm.refl _ _) hr sl

theorem sd_pass : PS X (.Pass pos) (tS G W fun σ h => .nx σ h) := PS.weak ps_pass fun D σ H ⟨ρ, sp, h, sl, hr, p⟩ => PostS.nxt p hr sl
theorem sd_brk : PS X (.Break pos) (tS G W fun σ h => .bk σ h) := PS.weak ps_break fun D σ H ⟨ρ, sp, h, sl, hr, p⟩ => p ρ H σ (Le.refl _) (Frm.refl _ _) hr sl
theorem sd_cont : PS X (.Continue pos) (tS G W fun σ h => .ct σ h) := PS.weak ps_continue fun D σ H ⟨ρ, sp, h, sl, hr, p⟩ => p ρ H σ (Le.refl _) (Frm.refl _ _) hr sl
theorem sd_retN : PS X (.Return none pos) (tS G W fun _ h => .rt .non h) := PS.weak ps_retN fun D σ H ⟨ρ, sp, h, sl, hr, p⟩ => p ρ H .non (Le.refl _) (Frm.refl _ _) hr .non
theorem sd_ret (he : PE X e (tD G W d)) : PS X (.Return (some e) pos) (tS G W fun σ h => ofRes σ (d σ h) fun v h1 => .rt v h1) :=
  PS.weak (ps_ret he) fun D σ H ⟨ρ, sp, h, sl, hr, p⟩ => ⟨ρ, sp, h, sl, hr, PostS.ofRes sl p fun a h1 ρ1 H1 b _ le k hr1 rb p1 => p1 ρ1 H1 b (Le.refl _) (Frm.refl _ _) hr1 rb⟩
def isComp : Expr → Bool
  | .ListComp .. => true
  | .SetComp .. => true
  | .DictComp .. => true
  | _ => false
theorem swapNo (h : isComp e = false) (t : Option Expr) (l : Nat) (env : Env) : swapsWith e t l env = pure false := by
  cases e <;> first | rfl | cases h
theorem sd_expr (he : PE X e (tD G W d)) (hc : isComp e = false) : PS X (.Expr e pos) (tS G W fun σ h => ofRes σ (d σ h) fun _ h1 => .nx σ h1) :=
  PS.weak (ps_expr he (swapNo hc _ _ _)) fun D σ H ⟨ρ, sp, h, sl, hr, p⟩ => ⟨ρ, sp, h, sl, hr, PostS.ofRes sl p fun a h1 ρ1 H1 b _ le k hr1 rb p1 => PostS.nxt p1 hr1 (sl.mono le k.toKeep)⟩
theorem toSet {te : TE} {i : Nat} (he : ∀ σ H Q, tD G W d σ H Q → te σ H Q) : ∀ D σ H, tS G W (fun σ h => ofRes σ (d σ h) fun v h1 => .nx (σ.set i (some v)) h1) D σ H → tAsg te (gName i) D σ H := fun D σ H ⟨ρ, sp, h, sl, hr, p⟩ =>
  he _ _ _ ⟨ρ, sp, h, sl, hr, PostS.ofRes sl p fun a h1 ρ1 H1 b _ le k hr1 rb p1 => PostS.nxt p1 hr1 ((sl.mono le k.toKeep).set i rb)⟩
theorem sd_set {i : Nat} {x : Str} (nd : X.N.Nodup) (hi : X.N[i]? = some x) (hx : X.env.scope.names.lookup x = some .local) (he : PE X e (tD G W d)) (hs : swapsWith e (some (.Name x p1)) pos.line X.env = pure false) :
    PS X (.Assign [.Name x p1] e pos) (tS G W fun σ h => ofRes σ (d σ h) fun v h1 => .nx (σ.set i (some v)) h1) :=
  PS.weak (ps_set nd hi (.inl hx) he hs (.inr hx)) (toSet fun _ _ _ h => h)
/-- is name = [..] told another way? -/
def swapB (sc : Scope) (x : Str) (p : Pos) : Expr → Bool
  | .ListComp _ _ s q => (sc.kind == .function) && lclB sc x && (p.line == q.line) && !(s.names.any fun (n, k) => n == x && (k == .local || k == .cell))
  | _ => false
theorem swap_eq {el : Expr} {gs : List Comprehension} {s : Scope} {q p : Pos} {x : Str} {l : Nat} {env : Env} (hk : env.scope.kind = .function) (hl : env.scope.names.lookup x = some .local) :
    swapsWith (.ListComp el gs s q) (some (.Name x p)) l env = pure (swapB env.scope x p (.ListComp el gs s q)) := by
  have e1 : env.blockKind = .function := by unfold Env.blockKind; rw [hk]; rfl
  have e2 : lclB env.scope x = true := by unfold lclB kindB; rw [hl]
  unfold swapsWith swapB
  rw [e1, hk, e2]
  show (pure _ : Sem Bool) = pure _
  congr 1
  simp [Env.kindOf, hl]
  rfl
theorem sd_setLc {i : Nat} {x : Str} {tg : Tg} {tge iter elt : Expr} {ifs : List Expr} {scope : Scope} {own : List (Str × Nat)} {di : Sl → PH → Res Src} {dt : Dt} {de : Dn} (hc : X.calm = true) (nd : X.N.Nodup) (hi : X.N[i]? = some x) (hx : X.env.scope.names.lookup x = some .local)
    (hs : swapsWith (.ListComp elt [⟨tge, iter, ifs, 0⟩] scope p2) (some (.Name x p1)) pos.line X.env = pure true) (hit : PI X tge iter (tDI G W di)) (ok : BlkOk X.N X.env.scope scope own)
    (hg : ∀ (s : Shared) (H : Hp) (C : Addr) (cl : List (Str × Addr)) (fp : List Addr), PG (X.blk s H scope (compEnvC scope cl C X.env) fp) tge (gT G.K tg))
    (ht : ∀ (s : Shared) (H : Hp) (C : Addr) (cl : List (Str × Addr)) (fp : List Addr), PTs (X.blk s H scope (compEnvC scope cl C X.env) fp) ifs (tDT G WF dt))
    (he : ∀ (s : Shared) (H : Hp) (C : Addr) (cl : List (Str × Addr)) (fp : List Addr), PE (X.blk s H scope (compEnvC scope cl C X.env) fp) elt (tD G WF de))
    (ho : ∀ i ∈ tgSlots tg, i ∈ slots own) (hf : ∀ x, foldedSetIterable iter X.env x = pure x) :
    PS X (.Assign [.Name x p1] (.ListComp elt [⟨tge, iter, ifs, 0⟩] scope p2) pos) (tS G W fun σ h => ofRes σ (dLc (slots own) tg di dt de σ h) fun v h1 => .nx (σ.set i (some v)) h1) :=
  PS.weak (ps_setLc hc nd hi hx hs hit ok hg ht he hf) (toSet (toLc ho))
theorem sd_if {c : Expr} {a b : List Stmt} {dc : Dn} {da db : Ds} (hc : PT X c (tDT G W (dT dc))) (ha : PSs X a (tS G W da)) (hb : PSs X b (tS G W db)) :
    PS X (.If c a b pos) (tS G W fun σ h => ofRes σ (tru (dc σ h)) fun t h1 => if t = true then da σ h1 else db σ h1) :=
  PS.weak (ps_if hc ha hb) fun D σ H ⟨ρ, sp, h, sl, hr, p⟩ => ⟨ρ, sp, h, sl, hr, PostS.ofRes (rel := relB) sl p fun t h1 ρ1 H1 b _ le k hr1 rb p1 => by
    cases (show t = b from rb)
    cases t with
    | true => exact ⟨ρ1, sp, h1, sl.mono le k.toKeep, hr1, p1⟩
    | false => exact ⟨ρ1, sp, h1, sl.mono le k.toKeep, hr1, p1⟩⟩
theorem ssd_nil : PSs X [] (tS G W fun σ h => .nx σ h) := PSs.weak pss_nil fun D σ H ⟨ρ, sp, h, sl, hr, p⟩ => PostS.nxt p hr sl
theorem ssd_cons {s : Stmt} {r : List Stmt} {f g : Ds} (hs : PS X s (tS G W f)) (hr : PSs X r (tS G W g)) : PSs X (s :: r) (tS G W fun σ h => (f σ h).seq fun σ1 h1 => g σ1 h1) :=
  PSs.weak (pss_cons hs hr) fun D σ H ⟨ρ, sp, h, sl, hr, p⟩ => ⟨ρ, sp, h, sl, hr, by
    have p' : PostS G W D ρ H ((f sp h).seq fun σ1 h1 => g σ1 h1) := p
    cases q : f sp h with
    | nx sp1 h1 =>
      rw [q] at p'
      exact fun ρ1 H1 σ1 le k hr1 sl1 => ⟨ρ1, sp1, h1, sl1, hr1, PostS.base (show PostS G W D ρ H (g sp1 h1) from p') le k⟩
    | _ => rw [q] at p'; exact p'⟩
/-- a, b, .. = e -/
theorem sd_tset {is : List Nat} {te : Expr} (hK : X.K = G.K) (hc : X.calm = true) (nd : X.N.Nodup) (ht : tgB X.N X.env.scope (.names is) te = true) (he : PE X e (tD G W d)) (hcm : isComp e = false) (hsw : swappedStores [te] e X.env = pure none) :
    PS X (.Assign [te] e pos) (tS G W fun σ h => ofRes σ (d σ h) fun v h1 => match v with
    | .tup l => match setAll is l σ with
      | some σ1 => .nx σ1 h1
      | none => .no
    | _ => .no) := by
  have hg := pg_tgt hK hc nd ht
  obtain ⟨es, kk, pp, rfl⟩ : ∃ es kk pp, te = .Tuple es kk pp := by
    cases te <;> first | exact ⟨_, _, _, rfl⟩ | (cases ht)
  refine PS.weak (ps_asg he hg (by unfold swapsWithSole; exact swapNo hcm _ _ _) hsw rfl) fun D σ H ⟨ρ, sp, h, sl, hr, p⟩ => ⟨ρ, sp, h, sl, hr, PostS.ofRes sl p fun a h1 ρ1 H1 b _ le k hr1 rb p1 => ?_⟩
  cases a with
  | tup l =>
    have p2 : PostS G W D ρ1 H1 (match setAll is l sp with | some σ1 => .nx σ1 h1 | none => .no) := p1
    split at p2
    · rename_i sp1 es1
      obtain ⟨σ', h1', _, h3⟩ := gT_ok (tg := .names is) (p := .tup l) (own := is) es1 (sl.mono le k.toKeep) rb (fun i hi => hi)
      exact h3 _ (PostS.nxt p2 hr1 h1')
    · exact False.elim p2
  | _ => exact False.elim p1
/-- o.f = e -/
theorem swapAttr {o v : Expr} {f : Str} {p : Pos} {l : Nat} {env : Env} : swapsWith v (some (.Attribute o f p)) l env = pure false := by
  unfold swapsWith
  split <;> rfl
theorem put_rel {K : PySem.W.Frag} {C : Addr} {f : Nat} {name : Str} {p : PV} {v : V} (hn : G.nms[f]? = some name) (na : NoAttr K C name) (r : VR K ρ H p v) : ∀ {fs : List (Nat × PV)} {ws : List (Str × V)}, KVR (fun f name => G.nms[f]? = some name ∧ NoAttr K C name) K ρ H fs ws →
    KVR (fun f name => G.nms[f]? = some name ∧ NoAttr K C name) K ρ H (putFP f p fs) (putF name v ws) ∧ ws.length = fs.length
  | [], _, .nil => ⟨.cons ⟨⟨hn, na⟩, r⟩ .nil, rfl⟩
  | (g, q) :: fs, (n2, w) :: ws, .cons a t => by
    obtain ⟨h1, h2⟩ := put_rel hn na r t
    refine ⟨?_, by simp [h2]⟩
    unfold putFP putF
    by_cases hg : g = f
    · subst hg
      have e1 : G.nms[g]? = some n2 := a.1.1
      rw [hn] at e1
      cases e1
      rw [if_pos rfl, if_pos (by simp)]
      exact .cons ⟨⟨hn, na⟩, r⟩ t
    · have hne : n2 ≠ name := fun z => hg (by
        subst z
        have e1 : G.nms[g]? = some n2 := a.1.1
        obtain ⟨l1, q1⟩ := List.getElem?_eq_some_iff.mp hn
        obtain ⟨l2, q2⟩ := List.getElem?_eq_some_iff.mp e1
        exact ((List.getElem_inj G.nd).mp (q1.trans q2.symm)).symm)
      rw [if_neg hg, if_neg (by simpa using hne)]
      exact .cons a h1
/-- what may be a field of which class -/
def FlOk (G : Glob) (K : PySem.W.Frag) : Prop := ∀ c f, G.P.fl c f = true → ∀ name, G.nms[f]? = some name → NoAttr K (G.cm c) name
theorem sd_fset {f : Nat} {name : Str} (hK : X.K = G.K) (hn : G.nms[f]? = some name) (fl : FlOk G G.K) (ho : PE X o (tD G W dx)) (he : PE X e (tD G W d)) :
    PS X (.Assign [.Attribute o name p1] e pos) (tS G W fun σ h => ofRes σ (d σ h) fun v h1 => ofRes σ (dx σ h1) fun x h2 => match setFld G.P x f v h2 with
    | some h3 => .nx σ h3
    | none => .no) :=
  PS.weak (ps_fld ho he swapAttr) fun D σ H ⟨ρ, sp, h, sl, hr, p⟩ => ⟨ρ, sp, h, sl, hr, PostS.ofRes sl p fun y h1 ρ1 H1 v _ le k hr1 ry p1 => ⟨ρ1, sp, h1, sl.mono le k.toKeep, hr1, PostS.ofRes (sl.mono le k.toKeep) p1 fun x h2 ρ2 H2 w _ le2 k2 hr2 rx p2 => by
    split at p2
    · rename_i h3 e3
      unfold setFld at e3
      split at e3
      · rename_i n
        obtain ⟨a, rfl, ea⟩ := VR.ref_inv rx
        split at e3
        · rename_i c fs en
          split at e3
          · rename_i hh
            cases e3
            obtain ⟨dxx, ws, h4, hc, rr⟩ := hr2.at_ en ea
            have na := fl c f hh.2 name hn
            have ry2 := VR.mono le2 k2.toKeep ry
            obtain ⟨r5, hl⟩ := put_rel hn na ry2 rr
            have sf : Soft (H2 a) := by rw [h4]; trivial
            have kp : Keep H2 (upd H2 a (.ins (G.cm c) dxx (putF name v ws))) := .upd sf
            refine ⟨a, G.cm c, dxx, ws, rfl, h4, by rw [hK]; exact hc, by rw [hK]; exact na, by rw [hl]; omega, ?_⟩
            exact p2 ρ2 _ σ (Le.refl _) (Frm.write (List.mem_of_getElem? ea) sf) (hr2.set en ea sf ⟨dxx, _, upd_same, hc, r5.mono (Le.refl _) kp⟩) (((sl.mono le k.toKeep).mono le2 k2.toKeep).mono (Le.refl _) kp)
          · cases e3
        · cases e3
      · cases e3
    · exact False.elim p2⟩⟩

/-! ### loops -/
theorem loopF_stop {body : PV → Sl → PH → SR} {s : Src} {n i : Nat} {sp : Sl} {h : PH} (e : nxt s i h = some none) : loopF body s n i sp h = .nx sp h := by
  cases n <;> (unfold loopF; rw [e])
theorem sd_for {tg : Tg} {tge iter : Expr} {body : List Stmt} {di : Sl → PH → Res Src} {db : Ds} (hK : X.K = G.K) (hp : PassesOwn (model X.prog X.w) X.A X.env X.xe) (hc : X.calm = true) (nd : X.N.Nodup) (hi : PI X tge iter (tDI G W di)) (ht : tgB X.N X.env.scope tg tge = true) (hb : PSs X body (tS G W db))
    (hs : isSet iter = false) : PS X (.For tge iter body [] pos) (tS G W fun σ h => ofRes σ (di σ h) fun s h1 => loopF (fun x σ' h' => match bindT tg x σ' with
      | some σ2 => db σ2 h'
      | none => .no) s (fuelOf s h1) 0 σ h1) := by
  refine PS.weak (ps_for hp hc hi (pg_tgt hK hc nd ht) hb (notSet hs _)) fun D σ H ⟨ρ, sp, h, sl, hr, p⟩ => ⟨ρ, sp, h, sl, hr, PostS.ofRes (rel := ItR G) sl p fun s h1 ρ1 H1 J _ le k hr1 itr p1 => ?_⟩
  generalize hbody : (fun x σ' h' => match bindT tg x σ' with
      | some σ2 => db σ2 h'
      | none => SR.no) = body' at p1
  refine ⟨fun i m σ2 H2 => ∃ ρ2 sp2 h2, Le ρ1 ρ2 ∧ Frm ρ1 H1 ρ2 H2 ∧ HR G ρ2 h2 H2 ∧ SlR G ρ2 H2 sp2 σ2 ∧ PostS G W D ρ1 H1 (loopF body' s m i sp2 h2), ⟨_, ρ1, sp, h1, Le.refl _, Frm.refl _ _, hr1, sl.mono le k.toKeep, p1⟩, fun i m σ2 H2 ⟨ρ2, sp2, h2, le2, k2, hr2, sl2, p2⟩ => ?_⟩
  have it2 := itr ρ2 H2 h2 i le2 k2 hr2
  cases e1 : nxt s i h2 with
  | none => cases m <;> (unfold loopF at p2; rw [e1] at p2; exact False.elim p2)
  | some q =>
    cases q with
    | none =>
      rw [loopF_stop e1] at p2
      exact .inl ⟨it2.1 e1, p2 ρ2 H2 σ2 le2 k2 hr2 sl2⟩
    | some x =>
      cases m with
      | zero => unfold loopF at p2; rw [e1] at p2; exact False.elim p2
      | succ m =>
        obtain ⟨go, yl⟩ := it2.2 x e1
        refine .inr ⟨go, _, fun σ' H' w => ⟨m, Nat.lt_succ_self m, w⟩, fun v H3 hy => ?_⟩
        obtain ⟨k3, hr3, rv⟩ := yl v H3 hy
        unfold loopF at p2
        rw [e1] at p2
        subst hbody
        have p3 : PostS G W D ρ1 H1 (match (match bindT tg x sp2 with | some σ2 => db σ2 h2 | none => SR.no) with
          | .nx σ1 h1 => loopF _ s m (i + 1) σ1 h1
          | .ct σ1 h1 => loopF _ s m (i + 1) σ1 h1
          | .bk σ1 h1 => .nx σ1 h1
          | r => r) := p2
        cases eb : bindT tg x sp2 with
        | none => rw [eb] at p3; exact False.elim p3
        | some sp' =>
          rw [eb] at p3
          obtain ⟨σ', sl', _, hgt⟩ := gT_ok (own := tgSlots tg) eb (sl2.mono (Le.refl _) k3.toKeep) rv (fun i hi => hi)
          refine hgt _ ⟨ρ2, sp', h2, sl', hr3, ?_⟩
          have k13 := k2.trans k3
          cases ed : db sp' h2 with
          | nx sp4 h4 =>
            simp only [ed] at p3
            exact fun ρ4 H4 σ4 le4 k4 hr4 sl4 => ⟨ρ4, sp4, h4, le2.trans le4, k13.trans k4, hr4, sl4, p3⟩
          | ct sp4 h4 =>
            simp only [ed] at p3
            exact fun ρ4 H4 σ4 le4 k4 hr4 sl4 => ⟨ρ4, sp4, h4, le2.trans le4, k13.trans k4, hr4, sl4, p3⟩
          | bk sp4 h4 =>
            simp only [ed] at p3
            exact fun ρ4 H4 σ4 le4 k4 hr4 sl4 => p3 ρ4 H4 σ4 (le2.trans le4) (k13.trans k4) hr4 sl4
          | rt v4 h4 =>
            simp only [ed] at p3
            exact fun ρ4 H4 σ4 le4 k4 => p3 ρ4 H4 σ4 (le2.trans le4) (k13.trans k4)
          | ex c fs sp4 h4 =>
            simp only [ed] at p3
            exact fun ρ4 H4 σ4 cls d le4 k4 => p3 ρ4 H4 σ4 cls d (le2.trans le4) (k13.trans k4)
          | no => simp only [ed] at p3; exact False.elim p3
/-- while, by its test -/
theorem sd_whl {c : Expr} {body : List Stmt} {dc : Dn} {db : Ds} (hp : PassesOwn (model X.prog X.w) X.A X.env X.xe) (hc : PT X c (tDT G W (dT dc))) (hb : PSs X body (tS G W db)) :
    PS X (.While c body [] pos) (tS G W fun σ h => loopW (fun σ' h' => ofRes σ' (tru (dc σ' h')) fun t h1 => if t = true then db σ' h1 else .bk σ' h1) FUEL σ h) := by
  refine PS.weak (ps_while hp hc hb) fun D σ H ⟨ρ, sp, h, sl, hr, p⟩ => ?_
  generalize FUEL = fuel at p
  generalize htest : (fun σ' h' => ofRes σ' (tru (dc σ' h')) fun t h1 => if t = true then db σ' h1 else SR.bk σ' h1) = test at p
  refine ⟨fun m σ2 H2 => ∃ ρ2 sp2 h2, Le ρ ρ2 ∧ Frm ρ H ρ2 H2 ∧ HR G ρ2 h2 H2 ∧ SlR G ρ2 H2 sp2 σ2 ∧ PostS G W D ρ H (loopW test m sp2 h2), ⟨fuel, ρ, sp, h, Le.refl _, Frm.refl _ _, hr, sl, p⟩, fun m σ2 H2 ⟨ρ2, sp2, h2, le2, k2, hr2, sl2, p2⟩ => ?_⟩
  cases m with
  | zero => exact False.elim p2
  | succ m =>
    refine ⟨ρ2, sp2, h2, sl2, hr2, ?_⟩
    have p3 : PostS G W D ρ H (match test sp2 h2 with
      | .nx σ1 h1 => loopW test m σ1 h1
      | .ct σ1 h1 => loopW test m σ1 h1
      | .bk σ1 h1 => .nx σ1 h1
      | r => r) := p2
    have et : test sp2 h2 = ofRes sp2 (dT dc sp2 h2) fun t h1 => if t = true then db sp2 h1 else .bk sp2 h1 := by subst htest; rfl
    rw [et] at p3
    cases eq : dT dc sp2 h2 with
    | no => rw [eq] at p3; exact False.elim p3
    | exc c fs h3 =>
      rw [eq] at p3
      exact fun ρ' H' cls d le' k' hr' er => p3 ρ' H' σ2 cls d (le2.trans le') (k2.trans k') hr' (sl2.mono le' k'.toKeep) er
    | ok t h3 =>
      rw [eq] at p3
      intro ρ3 H3 b le3 k3 hr3 rb
      cases (show t = b from rb)
      cases t with
      | false => exact p3 ρ3 H3 σ2 (le2.trans le3) (k2.trans k3) hr3 (sl2.mono le3 k3.toKeep)
      | true =>
        rw [if_pos rfl]
        refine ⟨_, fun σ' H' w => ⟨m, Nat.lt_succ_self m, w⟩, ρ3, sp2, h3, sl2.mono le3 k3.toKeep, hr3, ?_⟩
        have p4 : PostS G W D ρ H (match db sp2 h3 with
          | .nx σ1 h1 => loopW test m σ1 h1
          | .ct σ1 h1 => loopW test m σ1 h1
          | .bk σ1 h1 => .nx σ1 h1
          | r => r) := p3
        have k13 := k2.trans k3
        have le13 := le2.trans le3
        cases ed : db sp2 h3 with
        | nx sp4 h4 =>
          simp only [ed] at p4
          exact fun ρ4 H4 σ4 le4 k4 hr4 sl4 => ⟨ρ4, sp4, h4, le13.trans le4, k13.trans k4, hr4, sl4, p4⟩
        | ct sp4 h4 =>
          simp only [ed] at p4
          exact fun ρ4 H4 σ4 le4 k4 hr4 sl4 => ⟨ρ4, sp4, h4, le13.trans le4, k13.trans k4, hr4, sl4, p4⟩
        | bk sp4 h4 =>
          simp only [ed] at p4
          exact fun ρ4 H4 σ4 le4 k4 hr4 sl4 => p4 ρ4 H4 σ4 (le13.trans le4) (k13.trans k4) hr4 sl4
        | rt v4 h4 =>
          simp only [ed] at p4
          exact fun ρ4 H4 σ4 le4 k4 => p4 ρ4 H4 σ4 (le13.trans le4) (k13.trans k4)
        | ex c fs sp4 h4 =>
          simp only [ed] at p4
          exact fun ρ4 H4 σ4 cls d le4 k4 => p4 ρ4 H4 σ4 cls d (le13.trans le4) (k13.trans k4)
        | no => simp only [ed] at p4; exact False.elim p4
end
end Fx

/-! match. -/
namespace Fx
open PySem PySem.Spec PyProof.Rows L2
def chkp (T : Tb) (N : List Str) (sc : Scope) (q : P1) (pat : Pattern) : Bool := match q, pat with
  | .wild, .MatchAs none none _ => true
  | .cap i, .MatchAs none (some x) _ => atB N i x && lclB sc x
  | .val v, .MatchValue e _ => cstB T sc v e
  | _, _ => false
def chkps (T : Tb) (N : List Str) (sc : Scope) : List P1 → List Pattern → Bool
  | [], [] => true
  | q :: qs, p :: ps => chkp T N sc q p && chkps T N sc qs ps
  | _, _ => false
def chkm (T : Tb) (N : List Str) (sc : Scope) (q : Pt) (pat : Pattern) : Bool := match q, pat with
  | .atom q, pat => chkp T N sc q pat
  | .seq qs, .MatchSequence ps _ => chkps T N sc qs ps && (ps.findIdx? (·.isStar)).isNone && !(ps.all fun p => p.isWildcard || (p.isStar && p.names.isEmpty))
  | _, _ => false
section
variable {G : Glob} {T : Tb} {N : List Str} {rc rm : Rn} {X : Cx} {W : WX} {pins : List (Addr × Obj)} {σ : L2.St} {H : Hp} {s : Shared} {ρ : List Addr} {sp : Sl} {h : PH}
theorem paired_app {α β : Type} {F : α → β → Prop} : ∀ {a : List α} {b : List β} {c : List α} {d : List β}, Paired F a b → Paired F c d → Paired F (a ++ c) (b ++ d)
  | _, _, _, _, .nil, y => y
  | _, _, _, _, .cons h t, y => .cons h (paired_app t y)
/-- what is bound -/
def MRel (G : Glob) (X : Cx) (ρ : List Addr) (H : Hp) : Option (List (Nat × PV)) → Option (List (Str × Value)) → Prop
  | none, none => True
  | some bs, some cs => Paired (fun p q => X.N[p.1]? = some q.1 ∧ X.env.scope.names.lookup q.1 = some .local ∧ ∃ v, L2.RelV v q.2 ∧ VR G.K ρ H p.2 v) bs cs
  | _, _ => False
def MEnd (G : Glob) (X : Cx) (pins : List (Addr × Obj)) (σ : L2.St) (h : PH) (ρ : List Addr) (H : Hp) (r : Option (List (Nat × PV))) (res : Option (List (Str × Value))) (s' : Shared) : Prop :=
  ∃ ρ' H', Le ρ ρ' ∧ Frm ρ H ρ' H' ∧ HR G ρ' h H' ∧ Inv X pins σ H' s' ∧ MRel G X ρ' H' r res
theorem m1_ok {p : PV} {x : V} {u : Value} {q : P1} {pat : Pattern} {r : Option (List (Nat × PV))} (C : CtxOk G T N rc rm X) (sl : SlR G ρ H sp σ) (hr : HR G ρ h H) (rv : VR G.K ρ H p x) (ru : L2.RelV x u) (I : Inv X pins σ H s) (hc : chkp T N X.env.scope q pat = true) (e : m1 q p = some r) :
    wpAny (model X.prog X.w) X.A (matchPattern pat X.env u) (MEnd G X pins σ h ρ H r) X.xe s := by
  unfold chkp at hc
  split at hc
  · cases e
    exact wpAny_matchPattern_Capture ⟨ρ, H, Le.refl _, Frm.refl _ _, hr, I, .nil⟩
  · cases e
    rw [Bool.and_eq_true] at hc
    refine wpAny_matchPattern_Capture ⟨ρ, H, Le.refl _, Frm.refl _ _, hr, I, .cons ⟨?_, lclB_ok hc.2, x, ru, rv⟩ .nil⟩
    rw [C.N]
    exact atB_ok hc.1
  · rename_i v ve pos
    obtain ⟨b, eb, er⟩ := Option.map_eq_some_iff.mp e
    refine wpAny_matchPattern_Value (thn ((C.cst hc (W := WF)).run pins s σ H (fun y H1 => ∃ ρ1, Le ρ ρ1 ∧ Frm ρ H ρ1 H1 ∧ HR G ρ1 h H1 ∧ VR G.K ρ1 H1 v y) I ⟨ρ, sp, h, sl, hr, fun ρ1 H1 b le k hr1 rb => ⟨ρ1, le, k, hr1, rb⟩⟩) fun w s1 ⟨y, H1, I1, rw', ρ1, le, k, hr1, rb⟩ => ?_)
    obtain ⟨e1, e2⟩ := eqS_rel (VR.mono le k.toKeep rv) rb eb
    refine thn (op_eq pins s1 σ H1 x y u w (fun z H2 => z = .bl b ∧ H2 = H1) I1 ru rw' ⟨e1, by rw [e2], rfl⟩) fun z s2 ⟨zv, H2, I2, rz, ez, eH⟩ => ?_
    subst ez; subst eH
    cases rz
    refine wpAny_truthy_bool ?_
    subst er
    cases b with
    | true => exact ⟨ρ1, H2, le, k, hr1, I2, .nil⟩
    | false => exact ⟨ρ1, H2, le, k, hr1, I2, trivial⟩
  · cases hc
theorem chkp_star {q : P1} {pat : Pattern} {sc : Scope} (hc : chkp T N sc q pat = true) : pat.isStar = false := by
  unfold chkp at hc
  split at hc <;> first | rfl | cases hc
theorem mEach_ok (C : CtxOk G T N rc rm X) : ∀ {qs : List P1} {pats : List Pattern} {l : List PV} {vs : List V} {us : List Value} {r : Option (List (Nat × PV))} {ρ : List Addr} {H : Hp} {s : Shared}, SlR G ρ H sp σ → HR G ρ h H → VRs G.K ρ H l vs → Vals vs us → Inv X pins σ H s →
    chkps T N X.env.scope qs pats = true → mEach qs l = some r → wpAny (model X.prog X.w) X.A (matchEach pats X.env us) (MEnd G X pins σ h ρ H r) X.xe s
  | [], [], l, vs, us, r, ρ, H, s, sl, hr, rs, ru, I, hc, e => by
    cases l with
    | nil => cases e; exact wpAny_matchEach_nil ⟨ρ, H, Le.refl _, Frm.refl _ _, hr, I, .nil⟩
    | cons _ _ => cases e
  | [], _ :: _, _, _, _, _, _, _, _, _, _, _, _, _, hc, _ => by cases hc
  | _ :: _, [], _, _, _, _, _, _, _, _, _, _, _, _, hc, _ => by cases hc
  | q :: qs, pat :: pats, l, vs, us, r, ρ, H, s, sl, hr, rs, ru, I, hc, e => by
    have hc' : (chkp T N X.env.scope q pat && chkps T N X.env.scope qs pats) = true := hc
    rw [Bool.and_eq_true] at hc'
    cases l with
    | nil => cases e
    | cons p l =>
      obtain ⟨v, vs, rfl, rv, rs⟩ := rs.cons_inv
      cases ru with
      | @cons _ u _ us ru rus =>
        unfold mEach at e
        cases e1 : m1 q p with
        | none => rw [e1] at e; cases e
        | some r1 =>
          rw [e1] at e
          refine wpAny_matchEach_cons (thn (m1_ok C sl hr rv ru I hc'.1 e1) fun res s1 ⟨ρ1, H1, le, k, hr1, I1, mr⟩ => ?_) (chkp_star hc'.1)
          cases r1 with
          | none =>
            cases e
            cases res with
            | none => exact ⟨ρ1, H1, le, k, hr1, I1, trivial⟩
            | some cs => exact False.elim mr
          | some bs =>
            cases res with
            | none => exact False.elim mr
            | some cs =>
              have mr' : Paired _ bs cs := mr
              cases e2 : mEach qs l with
              | none => simp only [e2] at e; cases e
              | some r2 =>
                simp only [e2] at e
                refine thn (mEach_ok C (sl.mono le k.toKeep) hr1 (VRs.mono le k.toKeep rs) rus I1 hc'.2 e2) fun res2 s2 ⟨ρ2, H2, le2, k2, hr2, I2, mr2⟩ => ?_
                cases r2 with
                | none =>
                  cases e
                  cases res2 with
                  | none => exact ⟨ρ2, H2, le.trans le2, k.trans k2, hr2, I2, trivial⟩
                  | some _ => exact False.elim mr2
                | some ms =>
                  cases e
                  cases res2 with
                  | none => exact False.elim mr2
                  | some cs2 =>
                    refine ⟨ρ2, H2, le.trans le2, k.trans k2, hr2, I2, ?_⟩
                    have m2 : Paired _ ms cs2 := mr2
                    have m1' := Paired.mapP mr' fun p q (hh : X.N[p.1]? = some q.1 ∧ X.env.scope.names.lookup q.1 = some .local ∧ ∃ v, L2.RelV v q.2 ∧ VR G.K ρ1 H1 p.2 v) =>
                      (⟨hh.1, hh.2.1, hh.2.2.elim fun v hv => ⟨v, hv.1, VR.mono le2 k2.toKeep hv.2⟩⟩ : X.N[p.1]? = some q.1 ∧ X.env.scope.names.lookup q.1 = some .local ∧ ∃ v, L2.RelV v q.2 ∧ VR G.K ρ2 H2 p.2 v)
                    exact paired_app m1' m2
theorem mt_ok {p : PV} {x : V} {u : Value} {q : Pt} {pat : Pattern} {r : Option (List (Nat × PV))} (C : CtxOk G T N rc rm X) (sl : SlR G ρ H sp σ) (hr : HR G ρ h H) (rv : VR G.K ρ H p x) (ru : L2.RelV x u) (I : Inv X pins σ H s) (hc : chkm T N X.env.scope q pat = true) (e : mtch q p = some r) :
    wpAny (model X.prog X.w) X.A (matchPattern pat X.env u) (MEnd G X pins σ h ρ H r) X.xe s := by
  unfold chkm at hc
  split at hc
  · exact m1_ok C sl hr rv ru I hc e
  · rename_i qs ps pos
    simp only [Bool.and_eq_true] at hc
    obtain ⟨⟨h1, h2⟩, h3⟩ := hc
    have hst : ps.findIdx? (·.isStar) = none := by simpa using h2
    have hwl : (ps.all fun p => p.isWildcard || (p.isStar && p.names.isEmpty)) = false := by simpa using h3
    have hlen : ∀ {qs : List P1} {ps : List Pattern}, chkps T N X.env.scope qs ps = true → qs.length = ps.length := by
      intro qs
      induction qs with
      | nil => intro ps hh; cases ps with
        | nil => rfl
        | cons _ _ => cases hh
      | cons a qs ih => intro ps hh; cases ps with
        | nil => cases hh
        | cons b ps =>
          have hh' : (chkp T N X.env.scope a b && chkps T N X.env.scope qs ps) = true := hh
          rw [Bool.and_eq_true] at hh'
          simp [ih hh'.2]
    have hl := hlen h1
    cases rv with
    | @tup l a vs sq rs =>
      cases ru
      obtain ⟨its, rvs, ht, hz⟩ := I.tuple (C.K ▸ sq)
      have hn := line63
      have hi : its.length = l.length := by rw [rs.length, rvs.length]
      have fit : (its.toArray.size : Int) < 2 ^ 63 := by rw [List.size_toArray, hi, rs.length]; omega
      have e' : (if l.length = qs.length then mEach qs l else some none) = some r := e
      split at e'
      · rename_i hq
        refine matchSeq_tuple_hit ht fit (by rw [List.size_toArray, hi, hq, hl]) ?_ hst hwl
        have sz : ps.length = its.toArray.size := by rw [List.size_toArray, hi, hq, hl]
        rw [sz]
        refine unpackItems_tuple (I.ok.hd C.calm) ht fun h' hx => ?_
        have I1 : Inv X pins σ H { s with heap := h', toks := s.toks + 1 + 1 } := I.kept fun b o e => hx b o (Nat.ne_of_lt (Heap.lt_size e)) e
        exact mEach_ok C sl hr rs (by simpa using rvs) I1 h1 e'
      · rename_i hq
        cases e'
        exact matchSeq_tuple_miss ht fit (by rw [List.size_toArray, hi, ← hl]; exact hq) ⟨ρ, H, Le.refl _, Frm.refl _ _, hr, I.kept fun _ _ e => e, trivial⟩ hst hwl
    | _ => cases e
  · cases hc
/-- the names of a pattern are bound -/
theorem binds_ok (C : CtxOk G T N rc rm X) {Q : Unit → Shared → Prop} {E : Value → Shared → Prop} : ∀ {bs : List (Nat × PV)} {cs : List (Str × Value)} {sp : Sl} {σ : L2.St} {s : Shared}, MRel G X ρ H (some bs) (some cs) → SlR G ρ H sp σ → Inv X pins σ H s →
    (∀ σ' s', SlR G ρ H (bindAll bs sp) σ' → Inv X pins σ' H s' → Q () s') → wpAny (model X.prog X.w) X.A (assignInOrder (cs.map fun (n, _) => bindName X.env n) (cs.map (·.2))) Q E s
  | [], [], sp, σ, s, m, sl, I, q => wpAny_assignInOrder_none (q σ s sl I)
  | [], _ :: _, sp, σ, s, m, sl, I, q => by cases (show Paired _ _ _ from m)
  | _ :: _, [], sp, σ, s, m, sl, I, q => by cases (show Paired _ _ _ from m)
  | b :: bs, c :: cs, sp, σ, s, m, sl, I, q => by
    have m' : Paired _ (b :: bs) (c :: cs) := m
    cases m' with
    | cons hh t =>
      obtain ⟨h1, h2, v, ru, rv⟩ := hh
      refine wpAny_assignInOrder_more (wpAny_bindName (store_ok I C.nd h1 (.inl h2) ru (fun s' I' => ?_) (.inr h2)))
      exact binds_ok C (bs := bs) (cs := cs) t (sl.set b.1 rv) I' q
/-- the cases of a match, of a value -/
structure PCs (G : Glob) (W : WX) (X : Cx) (cases : List MatchCase) (f : PV → Ds) : Prop where
  run : ∀ (pins : List (Addr × Obj)) (s : Shared) (σ : L2.St) (H : Hp) (D : Ends) (ρ : List Addr) (sp : Sl) (h : PH) (p : PV) (x : V) (u : Value) (first : Bool), Inv X pins σ H s → SlR G ρ H sp σ → HR G ρ h H → VR G.K ρ H p x → L2.RelV x u → PostS G W D ρ H (f p sp h) →
    wpAny (model X.prog X.w) X.A (matchCases cases X.env u first) (SP X pins D) X.xe s
theorem pcs_nil : PCs G W X [] (fun _ σ h => .nx σ h) := ⟨fun pins s σ H D ρ sp h p x u first I sl hr rv ru q => wpAny_matchCases_nil ⟨σ, H, I, PostS.nxt q hr sl⟩⟩
theorem pcs_cons {q : Pt} {pat : Pattern} {body : List Stmt} {rest : List MatchCase} {db : Ds} {f : PV → Ds} (C : CtxOk G T N rc rm X) (hc : chkm T N X.env.scope q pat = true) (hb : PSs X body (tS G W db)) (hr : PCs G W X rest f) :
    PCs G W X (⟨pat, none, body⟩ :: rest) (fun v σ h => match mtch q v with
    | some (some bs) => db (bindAll bs σ) h
    | some none => f v σ h
    | none => .no) := by
  refine ⟨fun pins s σ H D ρ sp h p x u first I sl hr' rv ru hq => ?_⟩
  cases e : mtch q p with
  | none => simp only [e] at hq; exact False.elim hq
  | some r =>
    refine wpAny_matchCases_cons (thn (mt_ok C sl hr' rv ru I hc e) fun res s1 ⟨ρ1, H1, le, k, hr1, I1, mr⟩ => ?_)
    cases r with
    | none =>
      simp only [e] at hq
      cases res with
      | none => exact hr.run pins s1 σ H1 D ρ1 sp h p x u false I1 (sl.mono le k.toKeep) hr1 (VR.mono le k.toKeep rv) ru (PostS.base hq le k)
      | some _ => exact False.elim mr
    | some bs =>
      simp only [e] at hq
      cases res with
      | none => exact False.elim mr
      | some cs => exact binds_ok C mr (sl.mono le k.toKeep) I1 fun σ' s' sl' I' => hb.run pins s' σ' H1 D I' ⟨ρ1, _, h, sl', hr1, PostS.base hq le k⟩
theorem sd_match {e : Expr} {d : Dn} {cases : List MatchCase} {f : PV → Ds} {pos : Pos} (he : PE X e (tD G W d)) (hc : PCs G W X cases f) : PS X (.Match e cases pos) (tS G W fun σ h => ofRes σ (d σ h) fun v h1 => f v σ h1) := by
  refine ⟨fun pins s σ H D I ⟨ρ, sp, h, sl, hr, p⟩ => ?_⟩
  refine wpAny_Match (thn (he.run pins s σ H _ I ⟨ρ, sp, h, sl, hr, PostS.ofRes sl p fun a h1 ρ1 H1 b _ le k hr1 rb p1 =>
    (⟨ρ1, h1, a, sl.mono le k.toKeep, hr1, rb, p1⟩ : ∃ ρ1 h1 a, SlR G ρ1 H1 sp σ ∧ HR G ρ1 h1 H1 ∧ VR G.K ρ1 H1 a b ∧ PostS G W D ρ1 H1 (f a sp h1))⟩) fun u s1 ⟨x, H1, I1, ru, ρ1, h1, a, sl1, hr1, rb, p1⟩ => ?_)
  exact hc.run pins s1 σ H1 D ρ1 sp h1 a x u true I1 sl1 hr1 rb ru p1
end
end Fx

/-! Statements as they are written; defs. -/
namespace Fx
open PySem PySem.Spec PyProof.Rows L2
def isTupE : Expr → Bool
  | .Tuple .. => true
  | _ => false
def isLC : Expr → Bool
  | .ListComp .. => true
  | _ => false
mutual
def chkS (T : Tb) (N : List Str) : S → Scope → Stmt → Bool
  | .pass, _, s => match s with
    | .Pass _ => true
    | _ => false
  | .brk, _, s => match s with
    | .Break _ => true
    | _ => false
  | .cont, _, s => match s with
    | .Continue _ => true
    | _ => false
  | .retN, _, s => match s with
    | .Return none _ => true
    | _ => false
  | .expr m, sc, s => match s with
    | .Expr e _ => !isComp e && chk T N m sc e
    | _ => false
  | .set i m, sc, s => match s with
    | .Assign [.Name x _] e _ => atB N i x && lclB sc x && (!isComp e || isLC e) && chk T N m sc e
    | _ => false
  | .fset o f m, sc, s => match s with
    | .Assign [.Attribute x name _] e _ => atB T.nms f name && chk T N o sc x && chk T N m sc e
    | _ => false
  | .iset _ _ _, _, _ => false
  | .tset is m, sc, s => match s with
    | .Assign [te] e _ => tgB N sc (.names is) te && !isComp e && !isTupE e && chk T N m sc e
    | _ => false
  | .par _ _, _, _ => false
  | .ftset _ _ _ _ _, _, _ => false
  | .ret m, sc, s => match s with
    | .Return (some e) _ => chk T N m sc e
    | _ => false
  | .ite c a b, sc, s => match s with
    | .If t x y _ => !isIf t && chk T N c sc t && chkSs T N a sc x && chkSs T N b sc y
    | _ => false
  | .forr tg it b, sc, s => match s with
    | .For tge iter body [] _ => !isSet iter && chki T N it sc tge iter && tgB N sc tg tge && chkSs T N b sc body
    | _ => false
  | .whl c b, sc, s => match s with
    | .While t body [] _ => !isIf t && chk T N c sc t && chkSs T N b sc body
    | _ => false
  | .whlw _ _ _, _, _ => false
  | .raise _ _, _, _ => false
  | .mtch m cs, sc, s => match s with
    | .Match e cases _ => chk T N m sc e && chkC T N cs sc cases
    | _ => false
  | .tryx _ _, _, _ => false
def chkSs (T : Tb) (N : List Str) : Ss → Scope → List Stmt → Bool
  | .nil, _, l => l.isEmpty
  | .cons m r, sc, l => match l with
    | s :: ss => chkS T N m sc s && chkSs T N r sc ss
    | [] => false
def chkC (T : Tb) (N : List Str) : Cs → Scope → List MatchCase → Bool
  | .nil, _, l => l.isEmpty
  | .cons q b r, sc, l => match l with
    | ⟨pat, none, body⟩ :: rest => chkm T N sc q pat && chkSs T N b sc body && chkC T N r sc rest
    | _ => false
end
structure SCtx (G : Glob) (T : Tb) (N : List Str) (rc rm : Rn) (X : Cx) : Prop extends CtxOk G T N rc rm X where
  kind : X.env.scope.kind = .function
  own : PassesOwn (model X.prog X.w) X.A X.env X.xe
  stk : X.stack = X.env :: X.outer
  frm : X.env.frame = some X.env.locals
  fl : FlOk G G.K
section
variable {G : Glob} {T : Tb} {N : List Str} {rc rm : Rn}
theorem lc_parts {X : Cx} {own : List Nat} {tg : Tg} {it : It} {cnd : Oe} {elt : E} {el tge iter : Expr} {ifs : List Expr} {as : Int} {gs : List Comprehension} {scope : Scope} {pos : Pos} {W : WX} (C : CtxOk G T N rc rm X) (tk : Takes X W)
    (h : chk T N (.lc own tg it cnd elt) X.env.scope (.ListComp el gs scope pos) = true) : ∃ tge iter ifs, gs = [⟨tge, iter, ifs, 0⟩] ∧ PI X tge iter (tDI G W (evi G.P rc rm it)) ∧ BlkOk X.N X.env.scope scope (ownOf N own) ∧
      (∀ (s : Shared) (H : Hp) (C : Addr) (cl : List (Str × Addr)) (fp : List Addr), PG (X.blk s H scope (compEnvC scope cl C X.env) fp) tge (gT G.K tg)) ∧
      (∀ (s : Shared) (H : Hp) (C : Addr) (cl : List (Str × Addr)) (fp : List Addr), PTs (X.blk s H scope (compEnvC scope cl C X.env) fp) ifs (tDT G WF (evt G.P rc rm cnd))) ∧
      (∀ (s : Shared) (H : Hp) (C : Addr) (cl : List (Str × Addr)) (fp : List Addr), PE (X.blk s H scope (compEnvC scope cl C X.env) fp) el (tD G WF (ev G.P rc rm elt))) ∧
      (∀ i ∈ tgSlots tg, i ∈ slots (ownOf N own)) ∧ ∀ x, foldedSetIterable iter X.env x = pure x := by
  unfold chk at h
  split at h
  · rename_i el' tge iter ifs scope' pos' heq
    cases heq
    simp only [Bool.and_eq_true] at h
    obtain ⟨⟨⟨⟨⟨⟨h1, h2⟩, h3⟩, h4⟩, h5⟩, h6⟩, h7⟩ := h
    have ok := blkOk_by h1
    rw [← C.N] at ok
    refine ⟨tge, iter, ifs, rfl, chki_ok it C tk h4, C.N ▸ ok, fun s H Cl cl fp => pg_tgt C.K C.calm C.nd (by rw [show (X.blk s H _ (compEnvC _ cl Cl X.env) fp).N = N from C.N]; exact h5),
      fun s H Cl cl fp => chkf_ok cnd (C.blk s H _ _ fp) takesF h6, fun s H Cl cl fp => (chk_ok elt (C.blk s H _ _ fp) takesF h7).pe, fun i hi => ?_, notSet (by simpa using h3) _⟩
    rw [slots_own]
    have := List.all_eq_true.mp h2 i hi
    simpa using this
  · cases h
theorem set_ok {X : Cx} {i : Nat} {x : Str} {m : E} {e : Expr} {p1 pos : Pos} {W : WX} (C : SCtx G T N rc rm X) (tk : Takes X W) (h1 : atB N i x = true) (h2 : lclB X.env.scope x = true) (h3 : (!isComp e || isLC e) = true) (h4 : chk T N m X.env.scope e = true) :
    PS X (.Assign [.Name x p1] e pos) (tS G W fun σ h => ofRes σ (ev G.P rc rm m σ h) fun v h1 => .nx (σ.set i (some v)) h1) := by
  have hi : X.N[i]? = some x := by rw [C.N]; exact atB_ok h1
  have hx := lclB_ok h2
  cases e with
  | ListComp el gs scope p2 =>
    have hs := swap_eq (el := el) (gs := gs) (s := scope) (q := p2) (p := p1) (l := pos.line) C.kind hx
    cases hb : swapB X.env.scope x p1 (.ListComp el gs scope p2) with
    | false => rw [hb] at hs; exact sd_set C.nd hi hx (chk_ok m C.toCtxOk tk h4).pe hs
    | true =>
      rw [hb] at hs
      cases m with
      | lc own tg it cnd elt =>
        obtain ⟨tge, iter, ifs, rfl, a1, a2, a3, a4, a5, a6, a7⟩ := lc_parts (as := 0) (tge := el) (iter := el) (ifs := []) C.toCtxOk tk h4
        have key := sd_setLc (G := G) (W := W) C.calm C.nd hi hx hs a1 a2 a3 a4 a5 a6 a7
        rw [slots_own] at key
        exact key
      | _ => unfold chk at h4; first | cases h4 | (unfold cstB at h4; cases h4)
  | SetComp _ _ _ _ => cases h3
  | DictComp _ _ _ _ _ => cases h3
  | _ => exact sd_set C.nd hi hx (chk_ok m C.toCtxOk tk h4).pe (swapNo rfl _ _ _)
mutual
theorem chkS_ok : ∀ (m : S) {X : Cx} {s : Stmt} {W : WX}, SCtx G T N rc rm X → Takes X W → chkS T N m X.env.scope s = true → PS X s (tS G W (xs G.P rc rm m))
  | .pass, X, s, W, C, tk, h => by
    unfold chkS at h
    split at h
    · exact sd_pass
    · cases h
  | .brk, X, s, W, C, tk, h => by
    unfold chkS at h
    split at h
    · exact sd_brk
    · cases h
  | .cont, X, s, W, C, tk, h => by
    unfold chkS at h
    split at h
    · exact sd_cont
    · cases h
  | .retN, X, s, W, C, tk, h => by
    unfold chkS at h
    split at h
    · exact sd_retN
    · cases h
  | .expr m, X, s, W, C, tk, h => by
    unfold chkS at h
    split at h
    · rw [Bool.and_eq_true] at h
      exact sd_expr (chk_ok m C.toCtxOk tk h.2).pe (by simpa using h.1)
    · cases h
  | .set i m, X, s, W, C, tk, h => by
    unfold chkS at h
    split at h
    · simp only [Bool.and_eq_true] at h
      obtain ⟨⟨⟨h1, h2⟩, h3⟩, h4⟩ := h
      exact set_ok C tk h1 h2 h3 h4
    · cases h
  | .fset o f m, X, s, W, C, tk, h => by
    unfold chkS at h
    split at h
    · simp only [Bool.and_eq_true] at h
      obtain ⟨⟨h1, h2⟩, h3⟩ := h
      exact sd_fset C.K (by rw [C.t.nms]; exact atB_ok h1) C.fl (chk_ok o C.toCtxOk tk h2).pe (chk_ok m C.toCtxOk tk h3).pe
    · cases h
  | .iset _ _ _, X, s, W, C, tk, h => by unfold chkS at h; cases h
  | .tset is m, X, s, W, C, tk, h => by
    unfold chkS at h
    split at h
    · simp only [Bool.and_eq_true] at h
      obtain ⟨⟨⟨h1, h2⟩, h3⟩, h4⟩ := h
      refine sd_tset C.K C.calm C.nd (by rw [C.N]; exact h1) (chk_ok m C.toCtxOk tk h4).pe (by simpa using h2) ?_
      rename_i te e _
      unfold tgB at h1
      cases te <;> first | (cases h1; done) | (cases e <;> first | rfl | (cases h3; done))
    · cases h
  | .par _ _, X, s, W, C, tk, h => by unfold chkS at h; cases h
  | .ftset _ _ _ _ _, X, s, W, C, tk, h => by unfold chkS at h; cases h
  | .ret m, X, s, W, C, tk, h => by
    unfold chkS at h
    split at h
    · exact sd_ret (chk_ok m C.toCtxOk tk h).pe
    · cases h
  | .ite c a b, X, s, W, C, tk, h => by
    unfold chkS at h
    split at h
    · simp only [Bool.and_eq_true] at h
      obtain ⟨⟨⟨h1, h2⟩, h3⟩, h4⟩ := h
      exact sd_if ((chk_ok c C.toCtxOk tk h2).pt (by simpa using h1)) (chkSs_ok a C tk h3) (chkSs_ok b C tk h4)
    · cases h
  | .forr tg it b, X, s, W, C, tk, h => by
    unfold chkS at h
    split at h
    · simp only [Bool.and_eq_true] at h
      obtain ⟨⟨⟨h1, h2⟩, h3⟩, h4⟩ := h
      exact sd_for C.K C.own C.calm C.nd (chki_ok it C.toCtxOk tk h2) (by rw [C.N]; exact h3) (chkSs_ok b C tk h4) (by simpa using h1)
    · cases h
  | .whl c b, X, s, W, C, tk, h => by
    unfold chkS at h
    split at h
    · simp only [Bool.and_eq_true] at h
      obtain ⟨⟨h1, h2⟩, h3⟩ := h
      exact sd_whl C.own ((chk_ok c C.toCtxOk tk h2).pt (by simpa using h1)) (chkSs_ok b C tk h3)
    · cases h
  | .whlw _ _ _, X, s, W, C, tk, h => by unfold chkS at h; cases h
  | .raise _ _, X, s, W, C, tk, h => by unfold chkS at h; cases h
  | .mtch m cs, X, s, W, C, tk, h => by
    unfold chkS at h
    split at h
    · rw [Bool.and_eq_true] at h
      exact sd_match (chk_ok m C.toCtxOk tk h.1).pe (chkC_ok cs C tk h.2)
    · cases h
  | .tryx _ _, X, s, W, C, tk, h => by unfold chkS at h; cases h
theorem chkSs_ok : ∀ (m : Ss) {X : Cx} {ss : List Stmt} {W : WX}, SCtx G T N rc rm X → Takes X W → chkSs T N m X.env.scope ss = true → PSs X ss (tS G W (xss G.P rc rm m))
  | .nil, X, ss, W, C, tk, h => by
    unfold chkSs at h
    cases ss with
    | nil => exact ssd_nil
    | cons _ _ => cases h
  | .cons m r, X, ss, W, C, tk, h => by
    unfold chkSs at h
    split at h
    · rw [Bool.and_eq_true] at h
      exact ssd_cons (chkS_ok m C tk h.1) (chkSs_ok r C tk h.2)
    · cases h
theorem chkC_ok : ∀ (m : Cs) {X : Cx} {cases : List MatchCase} {W : WX}, SCtx G T N rc rm X → Takes X W → chkC T N m X.env.scope cases = true → PCs G W X cases (xcs G.P rc rm m)
  | .nil, X, ss, W, C, tk, h => by
    unfold chkC at h
    cases ss with
    | nil => exact pcs_nil
    | cons _ _ => cases h
  | .cons q b r, X, ss, W, C, tk, h => by
    unfold chkC at h
    split at h
    · simp only [Bool.and_eq_true] at h
      obtain ⟨⟨h1, h2⟩, h3⟩ := h
      exact pcs_cons C.toCtxOk h1 (chkSs_ok b C tk h2) (chkC_ok r C tk h3)
    · cases h
end
end

/-! ### defs -/
/-- a def of the program: what the module knows of it, and its body's form -/
structure FdOk (G : Glob) (T : Tb) (K : PySem.W.Frag) (f : Nat) (fd : FD) : Prop where
  ex : ∃ name qual params body scope dvs kws N, FunD K name qual params body scope dvs kws (G.fa f) (G.fd f) ∧ FnScope N (G.ps f) scope ∧ N.length = fd.ns ∧ (G.ps f).length = fd.np ∧ fd.np ≤ fd.ns ∧ chkSs T N fd.body scope body = true
section
variable {G : Glob} {T : Tb} {P : Program} {w : World} {mg : Str → Option Value} {base : Heap}
abbrev FnK (P : Program) (w : World) (mg : Str → Option Value) (base : Heap) (G : Glob) (k : Nat) (R : Rn) (f : Nat) : Prop := FnOk P w G.K mg base (L2.CX P w) k (G.fa f) (G.fd f) (G.ps f) (spOf G R f)
theorem fn_no {k f : Nat} {R : Rn} (h : ∀ args hp, R f args hp = .no) : FnK P w mg base G k R f :=
  ⟨fun vs H Q E ⟨ρ, args, hp, _, _, p⟩ => by rw [h] at p; exact False.elim p, fun A outer s H args us vs Q E _ _ _ _ ⟨ρ, args', hp, _, _, p⟩ => by rw [h] at p; exact False.elim p⟩
theorem fin_post {E : XK} {ρ : List Addr} {H : Hp} {r : SR} {Q : VK} (p : Post G E ρ H (relV G) (fin r) Q) : PostS G (fun cls d _ H => E cls d H) { nx := fun _ H' => Q .non H', rt := Q } ρ H r := by
  cases r with
  | nx sp h => exact fun ρ' H' σ' le k hr _ => p ρ' H' .non le k hr .non
  | rt v h => exact p
  | bk _ _ => exact False.elim p
  | ct _ _ => exact False.elim p
  | ex c fs sp h => exact fun ρ' H' σ' cls d le k hr _ er => p ρ' H' cls d le k hr er
  | no => exact False.elim p
theorem start_rel {ρ : List Addr} {H : Hp} {args : List PV} {vs : List V} (r : VRs G.K ρ H args vs) (N : List Str) (n : Nat) (hn : N.length = n) (hl : args.length ≤ n) : SlR G ρ H (args.map some ++ List.replicate (n - args.length) none) (L2.start N vs) := by
  subst hn
  unfold L2.start
  refine ⟨by simp [r.length], fun i p e => ?_⟩
  rcases Nat.lt_or_ge i args.length with hi | hi
  · rw [List.getElem?_append_left (by simpa using hi), List.getElem?_map] at e
    obtain ⟨q, e1, e2⟩ := Option.map_eq_some_iff.mp e
    cases e2
    obtain ⟨v, h1, h2⟩ := r.get e1
    have hi2 : i < vs.length := by rw [← r.length]; exact hi
    exact ⟨v, by rw [List.getElem?_append_left (by simpa using hi2), List.getElem?_map, h1]; rfl, h2⟩
  · rw [List.getElem?_append_right (by simpa using hi), List.getElem?_replicate] at e
    split at e <;> cases e
theorem fns_ok (hT : TOk G T mg) (fl : FlOk G G.K) (hF : ∀ f fd, G.P.fn f = some fd → FdOk G T G.K f fd) : ∀ (k f : Nat), FnK P w mg base G k (run G.P k) f
  | 0, f => fn_no fun _ _ => rfl
  | 1, f => fn_no fun _ _ => rfl
  | k + 2, f => by
    cases hf : G.P.fn f with
    | none => exact fn_no fun args hp => by show runF _ _ _ f args hp = .no; unfold runF; rw [hf]
    | some fd =>
      obtain ⟨name, qual, params, body, scope, dvs, kws, N, F, S, hN, hps, hle, hc⟩ := (hF f fd hf).ex
      have len : ∀ vs H Q E, spOf G (run G.P (k + 2)) f vs H Q E → vs.length = (G.ps f).length := fun vs H Q E ⟨ρ, args, hp, _, rs, p⟩ => by
        have p' : Post G E ρ H (relV G) (runF G.P (run G.P (k + 1)) (run G.P k) f args hp) Q := p
        unfold runF at p'
        rw [hf] at p'
        have p2 : Post G E ρ H (relV G) (if args.length = fd.np then fin (xss G.P (run G.P (k + 1)) (run G.P k) fd.body (args.map some ++ List.replicate (fd.ns - fd.np) none) hp) else .no) Q := p'
        split at p2
        · rename_i hl; rw [← rs.length, hl, hps]
        · exact False.elim p2
      refine FunD.ok F S len fun cdv A outer s H vs Q E hr ⟨ρ, args, hp, hr2, rs, p⟩ => ?_
      have p' : Post G E ρ H (relV G) (runF G.P (run G.P (k + 1)) (run G.P k) f args hp) Q := p
      unfold runF at p'
      rw [hf] at p'
      have p2 : Post G E ρ H (relV G) (if args.length = fd.np then fin (xss G.P (run G.P (k + 1)) (run G.P k) fd.body (args.map some ++ List.replicate (fd.ns - fd.np) none) hp) else .no) Q := p'
      split at p2
      · rename_i hl
        refine ⟨_, chkSs_ok (G := G) (T := T) (N := N) (rc := run G.P (k + 1)) (rm := run G.P k) fd.body (W := fun cls d _ H => E cls d H) ⟨⟨rfl, rfl, S.nd, rfl, ⟨k + 1, hr, fun g => fns_ok hT fl hF (k + 1) g⟩, ⟨k, hr, fun g => fns_ok hT fl hF k g⟩, hT⟩, S.kind, passes_of rfl, rfl, rfl, fl⟩ (takes_of rfl rfl rfl rfl) hc, ?_⟩
        refine ⟨ρ, _, hp, ?_, hr2, fin_post p2⟩
        rw [← hl]
        exact start_rel rs N fd.ns hN (by rw [hl]; exact hle)
      · exact False.elim p2
end
end Fx

/-! A program's description: what the head is asked, what its defs then keep. -/
namespace Fx
open PySem PySem.Spec PyProof.Rows L2
theorem lookup_zip_some {α β : Type} [BEq α] [LawfulBEq α] : ∀ {ks : List α} {vs : List β}, ks.length = vs.length → ∀ k ∈ ks, ((ks.zip vs).lookup k).isSome = true
  | [], _, _, k, h => by cases h
  | a :: ks, [], e, k, h => by cases e
  | a :: ks, v :: vs, e, k, h => by
    rw [List.zip_cons_cons, List.lookup_cons]
    by_cases hk : k = a
    · subst hk; simp
    · rw [beq_eq_false_iff_ne.mpr hk]
      exact lookup_zip_some (Nat.succ.inj e) k ((List.mem_cons.mp h).resolve_left hk)
theorem filterMap_zip {α β : Type} [BEq α] [LawfulBEq α] : ∀ {ks : List α} {vs : List β}, ks.length = vs.length → ks.Nodup → ks.filterMap (fun n => ((ks.zip vs).lookup n).map (n, ·)) = ks.zip vs
  | [], _, _, _ => rfl
  | a :: ks, [], e, _ => by cases e
  | a :: ks, v :: vs, e, nd => by
    obtain ⟨h1, h2⟩ := List.nodup_cons.mp nd
    rw [List.zip_cons_cons, List.filterMap_cons]
    have e1 : (List.lookup a ((a, v) :: ks.zip vs)).map (a, ·) = some (a, v) := by rw [List.lookup_cons]; simp
    rw [e1]
    show (a, v) :: _ = _
    congr 1
    conv => rhs; rw [← filterMap_zip (Nat.succ.inj e) h2]
    have gen : ∀ (l : List α), (∀ n ∈ l, n ≠ a) → l.filterMap (fun n => (List.lookup n ((a, v) :: ks.zip vs)).map (n, ·)) = l.filterMap (fun n => ((ks.zip vs).lookup n).map (n, ·)) := by
      intro l
      induction l with
      | nil => intro _; rfl
      | cons n l ih =>
        intro hn
        rw [List.filterMap_cons, List.filterMap_cons, ih fun m hm => hn m (List.mem_cons_of_mem _ hm), List.lookup_cons, beq_eq_false_iff_ne.mpr (hn n List.mem_cons_self)]
    exact gen ks fun n hn z => h1 (z ▸ hn)
theorem bind_plain {x qual : Str} {args : List Arg} {body : List Stmt} {scope : Scope} {kV doc pm cdv ct : Value} {an : Option Addr} {us : List Value} (hl : us.length = args.length) (nd : (args.map (·.arg)).Nodup) :
    bindArgs (PySem.W.fnOf x qual ⟨[], args, none, [], [], none, []⟩ body scope .none kV doc pm an cdv ct) ⟨us, []⟩ = pure ((args.map (·.arg)).zip us) := by
  have hl2 : (args.map (·.arg)).length = us.length := by simp [hl]
  have e1 : ((args.map (·.arg)).take (args.map (·.arg)).length).filter (fun n => (((args.map (·.arg)).zip us).lookup n).isNone) = [] := by
    rw [List.take_length, List.filter_eq_nil_iff]
    intro n hn
    have := lookup_zip_some hl2 n hn
    cases q : ((args.map (·.arg)).zip us).lookup n with
    | none => rw [q] at this; cases this
    | some _ => simp
  have e2 := filterMap_zip hl2 nd
  have e0 : seqItems? Value.none = pure none := rfl
  unfold bindArgs
  simp only [PySem.W.fnOf, List.map_nil, List.nil_append, List.append_nil, e0, pure_bind, List.forIn_nil, Option.getD_none, List.drop_nil, Array.toList_empty, List.length_nil, Nat.sub_zero, hl2, Nat.lt_irrefl, gt_iff_lt, decide_false, Bool.false_and, Bool.false_eq_true, if_false, List.drop_length, List.zip_nil_left, List.isEmpty_nil, Bool.not_true]
  rw [← hl2, e1]
  simp only [List.isEmpty_nil, Bool.not_true, Bool.false_eq_true, if_false, List.zip_nil_right, List.forIn_nil, pure_bind]
  rw [e2]

structure DF where
  at_ : Str × Option Str
  qual : Str
  st : Stmt
  N : List Str
  ps : List Str
  fd : Option FD
structure Desc where
  defs : List (Nat × DF)
  cls : List (Nat × Str)
  gv : List (Str × GV)
  nms : List Str
  mns : List Str
  mts : List ((Nat × Nat) × Nat)
  inis : List (Nat × Nat)
  fls : List (Nat × Nat)
  exi : List (Nat × Option Nat)
  subs : List ((Nat × Nat) × Bool)
def Desc.pg (D : Desc) : Pg where
  fn := fun f => (D.defs.lookup f).bind (·.fd)
  mt := fun c m => D.mts.lookup (c, m)
  ini := fun c => D.inis.lookup c
  exi := fun c => D.exi.lookup c
  sub := fun c d => D.subs.lookup (c, d)
  fl := fun c f => D.fls.contains (c, f)
  qf := fun _ _ => none
def Desc.tb (D : Desc) : Tb := ⟨D.gv, D.nms, D.mns⟩
def defNm : Stmt → Str
  | .FunctionDef n _ _ _ _ _ _ _ _ _ => n
  | _ => Str.empty
def DF.d (x : DF) : He.DefD := ⟨x.at_, defNm x.st, x.qual, defArgs x.st, defBody x.st, defScope x.st, [], []⟩
def Desc.fn (D : Desc) : List He.DefD := D.defs.map fun q => q.2.d
def Desc.cn (D : Desc) (c : Nat) : Str := (D.cls.lookup c).getD Str.empty
def gvFa (x : Str) : GV → List He.Fa
  | .fn _ _ => [He.Fa.glo x, He.Fa.keep x]
  | .cls _ _ _ => [He.Fa.glo x, He.Fa.cls x, He.Fa.mkr x]
  | .val (.int i) => [He.Fa.int x i]
  | .val (.str z) => [He.Fa.str x z]
  | .val _ => [He.Fa.glo x]
  | .exc _ => [He.Fa.glo x]
  | .bi => [He.Fa.free x]
def Desc.fa (D : Desc) : List He.Fa := D.gv.flatMap (fun q => gvFa q.1 q.2)
  ++ (D.mts.map (fun q => He.Fa.meth (D.cn q.1.1) (D.mns[q.1.2]?.getD Str.empty)) ++ D.fls.map (fun q => He.Fa.noat (D.cn q.1) (D.nms[q.2]?.getD Str.empty)))
mutual
def pvK (K : PySem.W.Frag) : PV → Value → Bool
  | .non, .none => true
  | .bl a, .bool b => a == b
  | .int i, .int j _ => decide (i = j)
  | .str x, .str y _ => decide (x = y)
  | .tup l, .ref a => match K.lookup a with
    | some ⟨.type c, none, .seq its _, _⟩ => decide (c = "tuple") && (decide (its.size ≤ sizeLine) && pvsK K l its.toList)
    | _ => false
  | _, _ => false
def pvsK (K : PySem.W.Frag) : List PV → List Value → Bool
  | [], [] => true
  | p :: l, v :: r => pvK K p v && pvsK K l r
  | _, _ => false
end
mutual
theorem pvK_ok {K : PySem.W.Frag} : ∀ {p : PV} {u : Value}, pvK K p u = true → ∃ a, L2.RelV a u ∧ ∀ ρ H, VR K ρ H p a
  | .non, u, h => by cases u <;> first | exact ⟨.non, rfl, fun _ _ => .non⟩ | cases h
  | .bl a, u, h => by
    cases u with
    | bool b => exact ⟨.bl a, by rw [eq_of_beq (show (a == b) = true from h)]; rfl, fun _ _ => .bl a⟩
    | _ => cases h
  | .int i, u, h => by
    cases u with
    | int j t => exact ⟨.int i, ⟨t, by rw [of_decide_eq_true (show decide (i = j) = true from h)]⟩, fun _ _ => .int i⟩
    | _ => cases h
  | .str i, u, h => by
    cases u with
    | str j t => exact ⟨.str i, ⟨t, by rw [of_decide_eq_true (show decide (i = j) = true from h)]⟩, fun _ _ => .str i⟩
    | _ => cases h
  | .tup l, u, h => by
    cases u with
    | ref a =>
      have h' : (match K.lookup a with
        | some ⟨.type c, none, .seq its _, _⟩ => decide (c = "tuple") && (decide (its.size ≤ sizeLine) && pvsK K l its.toList)
        | _ => false) = true := h
      split at h'
      · rename_i c its n sl e
        simp only [Bool.and_eq_true] at h'
        obtain ⟨h1, h2, h3⟩ := h'
        obtain ⟨vs, rv, hv⟩ := pvsK_ok h3
        exact ⟨.ref a, rfl, fun ρ H => .tup (.inr ⟨_, its, n, e, congrArg Value.type (of_decide_eq_true h1), rfl, of_decide_eq_true h2, rv⟩) (hv ρ H)⟩
      · cases h'
    | _ => cases h
  | .ref _, u, h => by cases u <;> cases h
theorem pvsK_ok {K : PySem.W.Frag} : ∀ {l : List PV} {us : List Value}, pvsK K l us = true → ∃ vs, Vals vs us ∧ ∀ ρ H, VRs K ρ H l vs
  | [], us, h => by cases us <;> first | exact ⟨[], .nil, fun _ _ => .nil⟩ | cases h
  | p :: l, us, h => by
    cases us with
    | nil => cases h
    | cons v r =>
      have h' : (pvK K p v && pvsK K l r) = true := h
      rw [Bool.and_eq_true] at h'
      obtain ⟨a, r1, v1⟩ := pvK_ok h'.1
      obtain ⟨vs, r2, v2⟩ := pvsK_ok h'.2
      exact ⟨a :: vs, .cons r1 r2, fun ρ H => .cons (v1 ρ H) (v2 ρ H)⟩
end
theorem tupK_of {K : PySem.W.Frag} {l : List PV} {a : Addr} (h : pvK K (.tup l) (.ref a) = true) : TupK K a := by
  have h' : (match K.lookup a with
    | some ⟨.type c, none, .seq its _, _⟩ => decide (c = "tuple") && (decide (its.size ≤ sizeLine) && pvsK K l its.toList)
    | _ => false) = true := h
  split at h'
  · rename_i c its n sl e
    simp only [Bool.and_eq_true] at h'
    exact ⟨_, e, congrArg Value.type (of_decide_eq_true h'.1), rfl⟩
  · cases h'
def noList (K : PySem.W.Frag) : Bool := K.all fun q => match q.2.cls with
  | .type c => !decide (c = "list")
  | _ => true
def tupFact (K : PySem.W.Frag) (x : Str) (g : GV) : Bool := match g with
  | .val (.int _) => true
  | .val (.str _) => true
  | .val v => pvK K v (.ref (He.ga K x))
  | _ => true
def Desc.ex (D : Desc) (K : PySem.W.Frag) : Bool := noList K && D.gv.all fun q => tupFact K q.1 q.2
/-! ### the text's own check -/
def plainArgs : Arguments → Option (List Str)
  | ⟨[], args, none, [], [], none, []⟩ => some (args.map (·.arg))
  | _ => none
def DF.ok (D : Desc) (x : DF) : Bool := decide (plainArgs (defArgs x.st) = some x.ps) && decide x.ps.Nodup && match x.fd with
  | none => true
  | some fd => C8.scC x.N x.ps (defScope x.st) && decide (x.N.length = fd.ns) && decide (x.ps.length = fd.np) && decide (fd.np ≤ fd.ns) && chkSs D.tb x.N fd.body (defScope x.st) (defBody x.st)
def allNil (dss : List (List PV)) : Bool := dss.all List.isEmpty
def gvW (D : Desc) (x : Str) (g : GV) : Bool := match g with
  | .fn f dss => (match D.defs.lookup f with
    | some d => decide (d.at_ = (x, none))
    | none => false) && allNil dss
  | .cls c f dss => (match D.defs.lookup f with
    | some d => decide (d.at_ = (x, some ("__init__" : Str)))
    | none => false) && (decide (D.cls.lookup c = some x) && (decide (D.inis.lookup c = some f) && allNil dss))
  | .exc c => decide (D.cls.lookup c = some x)
  | _ => true
def mtW (D : Desc) (q : (Nat × Nat) × Nat) : Bool := match D.cls.lookup q.1.1, D.mns[q.1.2]?, D.defs.lookup q.2 with
  | some c, some m, some d => decide (d.at_ = (c, some m))
  | _, _, _ => false
def Desc.wf (D : Desc) : Bool := decide D.nms.Nodup && D.defs.all (fun q => DF.ok D q.2) && D.gv.all (fun q => gvW D q.1 q.2) && D.mts.all (mtW D)
def dumF : FuncData := PySem.W.fnOf Str.empty Str.empty ⟨[], [], none, [], [], none, []⟩ [] ⟨.function, [], false, false, []⟩ .none .none .none .none none .none .none
def fdAt (K : PySem.W.Frag) (a : Addr) : FuncData := match K.lookup a with
  | some ⟨_, _, .func fd, _⟩ => fd
  | _ => dumF
def Desc.fad (D : Desc) (K : PySem.W.Frag) (f : Nat) : Addr := match D.defs.lookup f with
  | some d => He.fAd K d.at_
  | none => 0
def Desc.glob (D : Desc) (K : PySem.W.Frag) (nd : D.nms.Nodup) : Glob where
  K := K
  P := D.pg
  nms := D.nms
  mns := D.mns
  cm := fun c => He.ga K (D.cn c)
  fa := D.fad K
  fd := fun f => fdAt K (D.fad K f)
  ps := fun f => match D.defs.lookup f with
    | some d => d.ps
    | none => []
  nd := nd
section
variable {D : Desc} {K : PySem.W.Frag} {h : Heap} {mg : Str → Option Value} {nd : D.nms.Nodup}
theorem wf_parts (h : D.wf = true) : D.nms.Nodup ∧ (∀ d ∈ D.defs, DF.ok D d.2 = true) ∧ (∀ q ∈ D.gv, gvW D q.1 q.2 = true) ∧ ∀ q ∈ D.mts, mtW D q = true := by
  unfold Desc.wf at h
  simp only [Bool.and_eq_true] at h
  obtain ⟨⟨⟨h1, h2⟩, h3⟩, h4⟩ := h
  exact ⟨of_decide_eq_true h1, List.all_eq_true.mp h2, List.all_eq_true.mp h3, List.all_eq_true.mp h4⟩
theorem lookup_in {α β : Type} [BEq α] [LawfulBEq α] {k : α} {v : β} : ∀ {l : List (α × β)}, l.lookup k = some v → (k, v) ∈ l
  | [], e => by cases e
  | (a, b) :: l, e => by
    rw [List.lookup_cons] at e
    by_cases hk : k = a
    · subst hk
      rw [beq_self_eq_true] at e
      cases e
      exact List.mem_cons_self
    · rw [beq_eq_false_iff_ne.mpr hk] at e
      exact List.mem_cons_of_mem _ (lookup_in e)
theorem funD_at {x qual : Str} {params : Arguments} {body : List Stmt} {scope : Scope} {dvs : List V} {kws : List (Str × V)} {f : Addr} {fd : FuncData} (F : FunD K x qual params body scope dvs kws f fd) : FunD K x qual params body scope dvs kws f (fdAt K f) := by
  obtain ⟨oc, od, dV, kV, doc, pm, an, cdv, ct, osl, e, lk, r⟩ := F.ex
  have : fdAt K f = fd := by unfold fdAt; rw [lk]
  rw [this]
  exact F
theorem def_at (sd : He.SaysD D.fa D.fn K) {f : Nat} {d : DF} (e : D.defs.lookup f = some d) : FunD K (defNm d.st) d.qual (defArgs d.st) (defBody d.st) (defScope d.st) [] [] (D.fad K f) (fdAt K (D.fad K f)) := by
  have hm : d.d ∈ D.fn := List.mem_map.mpr ⟨(f, d), lookup_in e, rfl⟩
  obtain ⟨fd, F⟩ := sd.defs hm
  have ea : D.fad K f = He.fAd K d.at_ := by unfold Desc.fad; rw [e]
  rw [ea]
  exact funD_at F
theorem binds_at (sd : He.SaysD D.fa D.fn K) (wf : D.wf = true) {f : Nat} {d : DF} (e : D.defs.lookup f = some d) : L2.Binds K (fdAt K (D.fad K f)) d.ps [] ∧ ∀ (s : Shared) (us : List Value), us.length = d.ps.length → BindsTo s (fdAt K (D.fad K f)) ⟨us, []⟩ (d.ps.zip us) := by
  have F := def_at sd e
  have ok := (wf_parts wf).2.1 (f, d) (lookup_in e)
  unfold DF.ok at ok
  simp only [Bool.and_eq_true] at ok
  obtain ⟨⟨h1, h2⟩, _⟩ := ok
  have h1' := of_decide_eq_true h1
  have h2' := of_decide_eq_true h2
  have key : ∀ (kV doc pm : Value) (an : Option Addr) (cdv ct : Value) (us : List Value), us.length = d.ps.length → bindArgs (PySem.W.fnOf (defNm d.st) d.qual (defArgs d.st) (defBody d.st) (defScope d.st) .none kV doc pm an cdv ct) ⟨us, []⟩ = pure (d.ps.zip us) := fun kV doc pm an cdv ct us hl => by
    generalize defArgs d.st = as at h1' ⊢
    unfold plainArgs at h1'
    split at h1'
    · rename_i args
      have ea := Option.some.inj h1'
      rw [← ea]
      exact bind_plain (by rw [hl, ← ea, List.length_map]) (by rw [ea]; exact h2')
    · cases h1'
  exact ⟨FunD.bindsN F key, fun s us hl => FunD.bindsA F key s us hl⟩
theorem dfl_at (sd : He.SaysD D.fa D.fn K) (wf : D.wf = true) {f : Nat} {d : DF} (e : D.defs.lookup f = some d) : Dfl (D.glob K nd) K f [] := by
  have ep : (D.glob K nd).ps f = d.ps := by show (match D.defs.lookup f with | some d => d.ps | none => []) = _; rw [e]
  exact ⟨[], [], by rw [ep]; exact (binds_at sd wf e).1, .nil, fun _ _ => .nil⟩
theorem all_nil {dss : List (List PV)} (h : allNil dss = true) : ∀ ds ∈ dss, ds = [] := fun ds hd => by
  have := List.all_eq_true.mp h ds hd
  simpa using this
theorem fact_in (sd : He.SaysD D.fa D.fn K) {x : Str} {g : GV} (hg : (x, g) ∈ D.gv) {f : He.Fa} (hf : f ∈ gvFa x g) : f.ok K = true :=
  sd.facts (List.mem_append_left _ (List.mem_flatMap.mpr ⟨(x, g), hg, hf⟩))
theorem tok_of (KX : K.In h) (G : h.Ns mainGlobals mg) (wf : D.wf = true) (sd : He.SaysD D.fa D.fn K) (ex : D.ex K = true) : TOk (D.glob K nd) D.tb mg := by
  obtain ⟨_, w2, w3, w4⟩ := wf_parts wf
  unfold Desc.ex at ex
  rw [Bool.and_eq_true] at ex
  refine ⟨rfl, rfl, fun x g e => ?_, fun c m f e => ?_⟩
  · have hm := lookup_in e
    have hw := w3 _ hm
    have hx := List.all_eq_true.mp ex.2 _ hm
    have fi : ∀ {f : He.Fa}, f ∈ gvFa x g → f.ok K = true := fun {f} => fact_in sd hm (f := f)
    cases g with
    | fn f dss =>
      have hw' : ((match D.defs.lookup f with | some d => decide (d.at_ = (x, none)) | none => false) && allNil dss) = true := hw
      rw [Bool.and_eq_true] at hw'
      cases ed : D.defs.lookup f with
      | none => rw [ed] at hw'; cases hw'.1
      | some d =>
        rw [ed] at hw'
        have ea : d.at_ = (x, none) := of_decide_eq_true hw'.1
        have ef : (D.glob K nd).fa f = He.ga K x := by show D.fad K f = _; unfold Desc.fad; rw [ed]; show He.fAd K d.at_ = _; rw [ea]; rfl
        refine ⟨by rw [ef]; exact He.glo_ok KX G (fi (f := He.Fa.glo x) (by simp [gvFa])), by rw [ef]; exact He.keep_ok (fi (f := He.Fa.keep x) (by simp [gvFa])), fun ds hd => ?_⟩
        rw [all_nil hw'.2 ds hd]
        exact dfl_at sd wf ed
    | cls c f dss =>
      have hw' : ((match D.defs.lookup f with | some d => decide (d.at_ = (x, some ("__init__" : Str))) | none => false) && (decide (D.cls.lookup c = some x) && (decide (D.inis.lookup c = some f) && allNil dss))) = true := hw
      simp only [Bool.and_eq_true] at hw'
      obtain ⟨h1, h2, h3, h4⟩ := hw'
      cases ed : D.defs.lookup f with
      | none => rw [ed] at h1; cases h1
      | some d =>
        rw [ed] at h1
        have ea : d.at_ = (x, some ("__init__" : Str)) := of_decide_eq_true h1
        have ec : D.cn c = x := by unfold Desc.cn; rw [of_decide_eq_true h2]; rfl
        have eC : (D.glob K nd).cm c = He.ga K x := by show He.ga K (D.cn c) = _; rw [ec]
        have ef : (D.glob K nd).fa f = He.ma K (He.ga K x) "__init__" := by show D.fad K f = _; unfold Desc.fad; rw [ed]; show He.fAd K d.at_ = _; rw [ea]; rfl
        refine ⟨by rw [eC]; exact He.glo_ok KX G (fi (f := He.Fa.glo x) (by simp [gvFa])), fun ds hd => ?_⟩
        rw [all_nil h4 ds hd]
        exact ⟨of_decide_eq_true h3, by rw [eC, ef]; exact He.mkr_ok (fi (f := He.Fa.mkr x) (by simp [gvFa])), by rw [eC]; exact He.cls_ok (fi (f := He.Fa.cls x) (by simp [gvFa])), dfl_at sd wf ed⟩
    | val v =>
      have tup : ∀ {v : PV}, pvK K v (.ref (He.ga K x)) = true → (He.Fa.glo x).ok K = true → GvOk (D.glob K nd) K mg x (.val v) := fun {v} h1 h2 => by
        obtain ⟨a, r, hv⟩ := pvK_ok h1
        exact ⟨a, _, He.glo_ok KX G h2, r, hv, fun ⟨l, e⟩ => ⟨_, rfl, by subst e; exact tupK_of h1⟩⟩
      cases v with
      | int i =>
        obtain ⟨t, et⟩ := He.int_ok KX G (fi (f := He.Fa.int x i) (by simp [gvFa]))
        exact ⟨.int i, _, et, ⟨t, rfl⟩, fun _ _ => .int i, fun ⟨l, e⟩ => by cases e⟩
      | str z =>
        obtain ⟨t, et⟩ := He.str_ok KX G (fi (f := He.Fa.str x z) (by simp [gvFa]))
        exact ⟨.str z, _, et, ⟨t, rfl⟩, fun _ _ => .str z, fun ⟨l, e⟩ => by cases e⟩
      | non => cases hx
      | bl b => cases hx
      | tup l => exact tup hx (fi (f := He.Fa.glo x) (by simp [gvFa]))
      | ref n => cases hx
    | exc c =>
      have ec : D.cn c = x := by unfold Desc.cn; rw [of_decide_eq_true (show decide (D.cls.lookup c = some x) = true from hw)]; rfl
      have eC : (D.glob K nd).cm c = He.ga K x := by show He.ga K (D.cn c) = _; rw [ec]
      show mg x = some (.ref ((D.glob K nd).cm c))
      rw [eC]
      exact He.glo_ok KX G (fi (f := He.Fa.glo x) (by simp [gvFa]))
    | bi => exact He.free_ok KX G (fi (f := He.Fa.free x) (by simp [gvFa]))
  · have hm := lookup_in (show D.mts.lookup (c, m) = some f from e)
    have hw := w4 _ hm
    unfold mtW at hw
    split at hw
    · rename_i cn mn d e1 e2 e3
      have ea : d.at_ = (cn, some mn) := of_decide_eq_true hw
      have ec : D.cn c = cn := by unfold Desc.cn; rw [show D.cls.lookup c = some cn from e1]; rfl
      have eC : (D.glob K nd).cm c = He.ga K cn := by show He.ga K (D.cn c) = _; rw [ec]
      have e3' : D.defs.lookup f = some d := e3
      have ef : (D.glob K nd).fa f = He.ma K (He.ga K cn) mn := by show D.fad K f = _; unfold Desc.fad; rw [e3']; show He.fAd K d.at_ = _; rw [ea]; rfl
      have ep : (D.glob K nd).ps f = d.ps := by show (match D.defs.lookup f with | some d => d.ps | none => []) = _; rw [e3']
      have fm : (He.Fa.meth (D.cn c) (D.mns[m]?.getD Str.empty)).ok K = true := sd.facts (List.mem_append_right _ (List.mem_append_left _ (List.mem_map.mpr ⟨((c, m), f), hm, rfl⟩)))
      rw [ec, show D.mns[m]? = some mn from e2] at fm
      refine ⟨mn, e2, by rw [eC, ef]; exact He.meth_ok fm, ?_⟩
      rw [ep]
      exact (binds_at sd wf e3').1
    · cases hw
theorem fl_of (sd : He.SaysD D.fa D.fn K) : FlOk (D.glob K nd) K := fun c f e name hn => by
  have hm : (c, f) ∈ D.fls := by simpa [Desc.glob, Desc.pg] using e
  have fm : (He.Fa.noat (D.cn c) (D.nms[f]?.getD Str.empty)).ok K = true := sd.facts (List.mem_append_right _ (List.mem_append_right _ (List.mem_map.mpr ⟨(c, f), hm, rfl⟩)))
  rw [show D.nms[f]? = some name from hn] at fm
  exact He.noat_ok fm
theorem fd_of (wf : D.wf = true) (sd : He.SaysD D.fa D.fn K) : ∀ f fd, D.pg.fn f = some fd → FdOk (D.glob K nd) D.tb K f fd := fun f fd e => by
  obtain ⟨d, e1, e2⟩ := Option.bind_eq_some_iff.mp (show (D.defs.lookup f).bind (·.fd) = some fd from e)
  have ok := (wf_parts wf).2.1 (f, d) (lookup_in e1)
  unfold DF.ok at ok
  rw [e2] at ok
  simp only [Bool.and_eq_true] at ok
  obtain ⟨_, ⟨⟨⟨h1, h2⟩, h3⟩, h4⟩, h5⟩ := ok
  have ep : (D.glob K nd).ps f = d.ps := by show (match D.defs.lookup f with | some d => d.ps | none => []) = _; rw [e1]
  refine ⟨_, _, _, _, _, _, _, d.N, def_at sd e1, ?_, of_decide_eq_true h2, ?_, of_decide_eq_true h4, h5⟩
  · rw [ep]; exact C8.fnScope_by h1
  · rw [ep]; exact of_decide_eq_true h3
end
/-- no list but the script is tracked, none is the module's -/
theorem noList_no {K : PySem.W.Frag} (hn : noList K = true) {a : Addr} {o : Obj} (e : K.lookup a = some o) (hc : o.cls = .type "list") : False := by
  have hm := lookup_in e
  have := List.all_eq_true.mp hn _ hm
  simp [hc] at this
/-- the heap of a law's beginning: the script -/
def scriptH (ns : List Int) : PH := ⟨fun i => if i = 0 then some (.rol (ns.map PV.int)) else none, 1, fun i hi => if_neg (by omega)⟩
/-- the law's end: the promise, told of the small program -/
theorem promise {D : Desc} {K : PySem.W.Frag} {nd : D.nms.Nodup} (hn : noList K = true) {k f : Nat} {H : Hp} {a : Addr} {ns : List Int} (hO : Only H) (hS : SqL K H a (ns.map V.int))
    (law : ∃ h', run D.pg k f [.ref 0] (scriptH ns) = .ok (.bl true) h') : spOf (D.glob K nd) (run D.pg k) f [.ref a] H (fun v _ => v = .bl true) fun _ _ _ => False := by
  obtain ⟨h', e⟩ := law
  obtain ⟨o, eo⟩ : ∃ o, H a = some (.frz o (.lst (ns.map V.int))) := by
    rcases hS with (h | ⟨o, h⟩) | ⟨o, its, n, h1, h2, _⟩
    · rcases hO a with z | ⟨o, xs, z⟩
      · rw [h] at z; cases z
      · rw [h] at z; cases z
    · exact ⟨o, h⟩
    · exact (noList_no hn h1 h2).elim
  refine ⟨[a], [.ref 0], scriptH ns, ⟨rfl, by simp, fun i po hi => ?_, fun b hb => ?_⟩, .cons (.ref rfl) .nil, ?_⟩
  · have hi' : (if i = 0 then some (PO.rol (ns.map PV.int)) else none) = some po := hi
    by_cases h0 : i = 0
    · rw [if_pos h0] at hi'
      cases hi'
      subst h0
      exact ⟨a, rfl, o, _, eo, VRs.of_ints ns⟩
    · rw [if_neg h0] at hi'; cases hi'
  · rw [List.mem_singleton.mp hb, eo]; exact fun z => nomatch z
  · rw [e]
    exact fun ρ' H' b _ _ _ rb => VR.bl_inv rb
/-- a law's end, its exceptions told -/
theorem endOf {l : PySem.W.OpenLaw} {m k : Nat} {q : Program} {lo : List Str} {XP : (Str → Option Value) → Heap → Prop} {YP : World → Heap → Prop} {d : DefRec} {y : Str} (hm : l.most = some m) (hz : m ≤ sizeLine) (hd : d.params.defaults = []) (room : Room k callerA)
    (F : ∀ (w : World) (mg : Str → Option Value) (at_ : Addr) (h : Heap), YP w h → h.Ns mainGlobals mg → mg d.name = some (.ref at_) → ∃ (K : PySem.W.Frag) (fd : FuncData) (sp : Sp), K.In h ∧ (∀ (s : Shared) (u : Value), BindsTo s fd ⟨[u], []⟩ [(y, u)]) ∧
      (∀ (H : Hp) (a : Addr) (ns : List Int), ns.length ≤ m → Only H → SqL K H a (ns.map V.int) → sp [.ref a] H (fun v _ => v = .bl true) fun _ _ _ => False) ∧
      ∀ b : Heap, K.In b → b.Ns mainGlobals mg → FnOk l.prog w K mg b (L2.CX l.prog w) k at_ fd [y] sp) : PySem.W.WalkO q lo XP YP l.row.toRowW d [] fun f vs => PySem.call f vs := by
  refine Att.attach_call hm hd ?_
  intro w _ s1 mg mb at_ _ _ _ _ a us ns gr yp _ _ _ named lst iv len gens
  obtain ⟨K, fd, sp, inK, bind, prom, ok⟩ := F w mg at_ _ yp gr.T.g named
  refine law_call inK gr.T.g gr.T.b gr.T.builtins gr.T.nolimit gens lst iv (Nat.le_trans len hz) room ok bind (fun H h1 h2 => prom H a ns len h1 h2) ?_
  rintro H e s' ⟨_, _, _, _, _, _, _, _, _, _, _, _, no⟩
  exact no
/-- the law's def keeps what the small program tells -/
theorem lawEnd {D : Desc} {l : PySem.W.OpenLaw} {m k f : Nat} {x : DF} {q : Program} {lo : List Str} {tf : List He.Defn} {XP : (Str → Option Value) → Heap → Prop} {d : DefRec} {y : Str} (hm : l.most = some m) (hz : m ≤ sizeLine) (hd : d.params.defaults = []) (room : Room k callerA) (wf : D.wf = true)
    (hf : D.defs.lookup f = some x) (hx : x.at_ = (("law" : Str), none)) (hp : x.ps = [y]) (hg : D.gv.lookup ("law" : Str) = some (.fn f [[]])) (hn : d.name = ("law" : Str))
    (law : ∀ ns : List Int, ns.length ≤ m → ∃ h', run D.pg k f [.ref 0] (scriptH ns) = .ok (.bl true) h') :
    PySem.W.WalkO q lo XP (fun w h => ∃ K : PySem.W.Frag, K.In h ∧ He.SaysX D.fa D.fn [] tf D.ex w h K) l.row.toRowW d [] fun f vs => PySem.call f vs := by
  refine endOf (k := k) (y := y) hm hz hd room ?_
  intro w mg at_ h ⟨K, inK, sx⟩ ns named
  have nd := (wf_parts wf).1
  have sd := sx.t.d
  have t := tok_of (nd := nd) inK ns wf sd sx.more
  have e1 := (t.gv _ _ hg).1
  rw [hn, e1] at named
  cases named
  have ep : (D.glob K nd).ps f = [y] := by show (match D.defs.lookup f with | some d => d.ps | none => []) = _; rw [hf]; exact hp
  refine ⟨K, (D.glob K nd).fd f, spOf (D.glob K nd) (run D.pg k) f, inK, fun s u => ?_, fun H a is hl hO hS => promise ?_ hO hS (law is hl), fun b inB nsB => ?_⟩
  · have := (binds_at sd wf hf).2 s [u] (by rw [hp]; rfl)
    rw [hp] at this
    exact this
  · have := sx.more
    unfold Desc.ex at this
    rw [Bool.and_eq_true] at this
    exact this.1
  · have F := fns_ok (P := l.prog) (w := w) (mg := mg) (base := b) (T := D.tb) t (fl_of sd) (fd_of wf sd) k f
    unfold FnK at F
    rw [ep] at F
    exact F
end Fx

/-! Plain laws of the small language: runs, loops, the laws' helpers. -/
namespace Fx
open PySem L2
theorem run2 (P : Pg) (k : Nat) (f : Nat) (args : List PV) (h : PH) : run P (k + 2) f args h = runF P (run P (k + 1)) (run P k) f args h := rfl
theorem run_def {P : Pg} {k f : Nat} {fd : FD} {args : List PV} {h : PH} (e : P.fn f = some fd) (hl : args.length = fd.np) : run P (k + 2) f args h = fin (xss P (run P (k + 1)) (run P k) fd.body (args.map some ++ List.replicate (fd.ns - fd.np) none) h) := by
  rw [run2]
  unfold runF
  rw [e]
  show (if args.length = fd.np then _ else _) = _
  rw [if_pos hl]
/-- the heap grew, nothing else -/
structure Ext (h h' : PH) : Prop where
  n : h.n ≤ h'.n
  same : ∀ a, a < h.n → h'.get a = h.get a
theorem Ext.refl (h : PH) : Ext h h := ⟨Nat.le_refl _, fun _ _ => rfl⟩
theorem Ext.trans {h h1 h2 : PH} (a : Ext h h1) (b : Ext h1 h2) : Ext h h2 := ⟨Nat.le_trans a.n b.n, fun x hx => (b.same x (Nat.lt_of_lt_of_le hx a.n)).trans (a.same x hx)⟩
theorem Ext.new (h : PH) (o : PO) : Ext h (h.new o) := ⟨by rw [PH.new_n]; omega, fun a ha => PH.get_new_lt ha⟩
theorem Ext.get {h h' : PH} (e : Ext h h') {a : Nat} {o : PO} (q : h.get a = some o) : h'.get a = some o := (e.same a (PH.get_lt q)).trans q
/-- .. but for the object at a, that was not there before h0 -/
structure ExtBut (a : Nat) (h h' : PH) : Prop where
  n : h.n ≤ h'.n
  same : ∀ b, b ≠ a → b < h.n → h'.get b = h.get b
theorem ExtBut.refl (a : Nat) (h : PH) : ExtBut a h h := ⟨Nat.le_refl _, fun _ _ _ => rfl⟩
theorem ExtBut.trans {a : Nat} {h h1 h2 : PH} (x : ExtBut a h h1) (y : ExtBut a h1 h2) : ExtBut a h h2 := ⟨Nat.le_trans x.n y.n, fun b hb hl => (y.same b hb (Nat.lt_of_lt_of_le hl x.n)).trans (x.same b hb hl)⟩
theorem ExtBut.set (h : PH) (a : Nat) (o : PO) : ExtBut a h (h.set a o) := ⟨Nat.le_refl _, fun b hb _ => PH.get_set_ne hb⟩
theorem Ext.but {h h' : PH} (e : Ext h h') (a : Nat) : ExtBut a h h' := ⟨e.n, fun b _ hl => e.same b hl⟩
theorem ExtBut.ext {a : Nat} {h0 h h' : PH} (x : ExtBut a h h') (e : Ext h0 h) (ha : h0.n ≤ a) : Ext h0 h' := ⟨Nat.le_trans e.n x.n, fun b hb => (x.same b (by omega) (Nat.lt_of_lt_of_le hb e.n)).trans (e.same b hb)⟩

/-! ### loops -/
/-- a for over values, an invariant -/
theorem loopF_rule {body : PV → Sl → PH → SR} {s : Src} {l : List PV} (I : Nat → Sl → PH → Prop) (hn : ∀ i σ h, I i σ h → nxt s i h = some l[i]?)
    (step : ∀ i x σ h, l[i]? = some x → I i σ h → ∃ σ1 h1, (body x σ h = .nx σ1 h1 ∨ body x σ h = .ct σ1 h1) ∧ I (i + 1) σ1 h1) :
    ∀ (n i : Nat) (σ : Sl) (h : PH), n + i = l.length → I i σ h → ∃ σ' h', loopF body s n i σ h = .nx σ' h' ∧ I l.length σ' h'
  | 0, i, σ, h, e, q => by
    have e1 := hn i σ h q
    have e2 : l[i]? = none := List.getElem?_eq_none_iff.mpr (by omega)
    rw [e2] at e1
    have : i = l.length := by omega
    subst this
    exact ⟨σ, h, by unfold loopF; rw [e1], q⟩
  | n + 1, i, σ, h, e, q => by
    have e1 := hn i σ h q
    have hi : i < l.length := by omega
    rw [List.getElem?_eq_getElem hi] at e1
    obtain ⟨σ1, h1, hb, q1⟩ := step i _ σ h (List.getElem?_eq_getElem hi) q
    obtain ⟨σ', h', e2, q2⟩ := loopF_rule I hn step n (i + 1) σ1 h1 (by omega) q1
    refine ⟨σ', h', ?_, q2⟩
    unfold loopF
    rw [e1]
    rcases hb with hb | hb <;> (simp only [hb]; exact e2)
/-- .. that may end with an answer -/
theorem loopF_ret {body : PV → Sl → PH → SR} {s : Src} {l : List PV} (I : Nat → Sl → PH → Prop) (R : PV → PH → Prop) (hn : ∀ i σ h, I i σ h → nxt s i h = some l[i]?)
    (step : ∀ i x σ h, l[i]? = some x → I i σ h → (∃ σ1 h1, (body x σ h = .nx σ1 h1 ∨ body x σ h = .ct σ1 h1) ∧ I (i + 1) σ1 h1) ∨ ∃ v h1, body x σ h = .rt v h1 ∧ R v h1) :
    ∀ (n i : Nat) (σ : Sl) (h : PH), n + i = l.length → I i σ h → (∃ σ' h', loopF body s n i σ h = .nx σ' h' ∧ I l.length σ' h') ∨ ∃ v h', loopF body s n i σ h = .rt v h' ∧ R v h'
  | 0, i, σ, h, e, q => by
    have e1 := hn i σ h q
    have e2 : l[i]? = none := List.getElem?_eq_none_iff.mpr (by omega)
    rw [e2] at e1
    have : i = l.length := by omega
    subst this
    exact .inl ⟨σ, h, by unfold loopF; rw [e1], q⟩
  | n + 1, i, σ, h, e, q => by
    have e1 := hn i σ h q
    have hi : i < l.length := by omega
    rw [List.getElem?_eq_getElem hi] at e1
    rcases step i _ σ h (List.getElem?_eq_getElem hi) q with ⟨σ1, h1, hb, q1⟩ | ⟨v, h1, hb, q1⟩
    · have ih := loopF_ret I R hn step n (i + 1) σ1 h1 (by omega) q1
      have eq : loopF body s (n + 1) i σ h = loopF body s n (i + 1) σ1 h1 := by
        rw [loopF, e1]
        rcases hb with hb | hb <;> simp only [hb]
      rw [eq]
      exact ih
    · refine .inr ⟨v, h1, ?_, q1⟩
      rw [loopF, e1]
      simp only [hb]
/-- a comprehension, an invariant over what is made -/
theorem loopC_rule {body : PV → PH → Res (Option PV)} {s : Src} {l : List PV} (I : Nat → List PV → PH → Prop) (hn : ∀ i acc h, I i acc h → nxt s i h = some l[i]?)
    (step : ∀ i x acc h, l[i]? = some x → I i acc h → ∃ r h1, body x h = .ok r h1 ∧ match r with
      | none => I (i + 1) acc h1
      | some v => acc.length < LINE ∧ I (i + 1) (acc ++ [v]) h1) :
    ∀ (n i : Nat) (acc : List PV) (h : PH), n + i = l.length → I i acc h → ∃ acc' h', loopC body s n i acc h = .ok acc' h' ∧ I l.length acc' h'
  | 0, i, acc, h, e, q => by
    have e1 := hn i acc h q
    have e2 : l[i]? = none := List.getElem?_eq_none_iff.mpr (by omega)
    rw [e2] at e1
    have : i = l.length := by omega
    subst this
    exact ⟨acc, h, by unfold loopC; rw [e1], q⟩
  | n + 1, i, acc, h, e, q => by
    have e1 := hn i acc h q
    have hi : i < l.length := by omega
    rw [List.getElem?_eq_getElem hi] at e1
    obtain ⟨r, h1, hb, q1⟩ := step i _ acc h (List.getElem?_eq_getElem hi) q
    cases r with
    | none =>
      obtain ⟨acc', h', e2, q2⟩ := loopC_rule I hn step n (i + 1) acc h1 (by omega) q1
      refine ⟨acc', h', ?_, q2⟩
      rw [loopC, e1]
      simp only [hb, Res.bind_ok]
      exact e2
    | some v =>
      obtain ⟨acc', h', e2, q2⟩ := loopC_rule I hn step n (i + 1) (acc ++ [v]) h1 (by omega) q1.2
      refine ⟨acc', h', ?_, q2⟩
      rw [loopC, e1]
      simp only [hb, Res.bind_ok, if_pos q1.1]
      exact e2
theorem nxt_vals {l : List PV} {i : Nat} {h : PH} : nxt (.vals l) i h = some l[i]? := rfl
theorem rngV_length (i j : Int) : (rngV i j).length = (j - i).toNat := by simp [rngV]
theorem rngV_get {i j : Int} {n : Nat} {x : PV} (h : (rngV i j)[n]? = some x) : x = .int (i + n) ∧ (n : Int) < j - i := by
  unfold rngV at h
  rw [List.getElem?_map] at h
  obtain ⟨c, ec, rfl⟩ := Option.map_eq_some_iff.mp h
  obtain ⟨hl, hc⟩ := List.getElem?_eq_some_iff.mp ec
  rw [List.getElem_range] at hc
  subst hc
  simp at hl
  exact ⟨rfl, by omega⟩
@[simp] theorem forB_name {i : Nat} {f : Sl → PH → SR} {x : PV} {σ : Sl} {h : PH} : forB (.name i) f x σ h = f (σ.set i (some x)) h := (rfl)
@[simp] theorem forB_names {is : List Nat} {f : Sl → PH → SR} {l : List PV} {σ : Sl} {h : PH} : forB (.names is) f (.tup l) σ h = match setAll is l σ with
  | some σ2 => f σ2 h
  | none => .no := rfl
@[simp] theorem opt_some {α : Type} (a : α) (h : PH) : opt (some a) h = .ok a h := (rfl)
@[simp] theorem opt_none {α : Type} (h : PH) : (opt none h : Res α) = .no := (rfl)
@[simp] theorem bind_ok {α β : Type} (a : α) (h : PH) (f : α → PH → Res β) : (Res.ok a h).bind f = f a h := (rfl)
@[simp] theorem ofRes_ok {α : Type} (σ : Sl) (a : α) (h : PH) (f : α → PH → SR) : ofRes σ (.ok a h) f = f a h := (rfl)
@[simp] theorem seq_nx (σ : Sl) (h : PH) (f : Sl → PH → SR) : (SR.nx σ h).seq f = f σ h := (rfl)
@[simp] theorem seq_rt (v : PV) (h : PH) (f : Sl → PH → SR) : (SR.rt v h).seq f = .rt v h := (rfl)
@[simp] theorem fin_rt (v : PV) (h : PH) : fin (.rt v h) = .ok v h := (rfl)
@[simp] theorem fin_nx (σ : Sl) (h : PH) : fin (.nx σ h) = .ok .non h := (rfl)
@[simp] theorem tru_bl (b : Bool) (h : PH) : tru (.ok (.bl b) h) = .ok b h := (rfl)
@[simp] theorem quiet_ok {α : Type} (a : α) (h : PH) : (Res.ok a h).quiet = .ok a h := (rfl)
@[simp] theorem seqOf_tup (h : PH) (l : List PV) : seqOf h (.tup l) = some l := (rfl)
theorem seqOf_lst {h : PH} {a : Nat} {l : List PV} (e : h.get a = some (.lst l)) : seqOf h (.ref a) = some l := by simp only [seqOf, e]
theorem seqOf_rol {h : PH} {a : Nat} {l : List PV} (e : h.get a = some (.rol l)) : seqOf h (.ref a) = some l := by simp only [seqOf, e]
theorem seqOf_ext {h h' : PH} (x : Ext h h') {v : PV} {l : List PV} (e : seqOf h v = some l) : seqOf h' v = some l := by
  cases v with
  | tup r => exact e
  | ref a =>
    simp only [seqOf] at e ⊢
    cases q : h.get a with
    | none => rw [q] at e; cases e
    | some o =>
      rw [q] at e
      rw [x.get q]
      exact e
  | _ => cases e
def kBin (o : Bop) (eb : PH → Res PV) (x : PV) (h : PH) : Res PV := (eb h).bind (bop o x)
@[simp] theorem kBin_app (o : Bop) (eb : PH → Res PV) (x : PV) (h : PH) : kBin o eb x h = (eb h).bind (bop o x) := (rfl)
def kNot  (b : Bool) (h : PH) : Res PV := .ok (.bl (!b)) h
@[simp] theorem kNot_app  (b : Bool) (h : PH) : kNot b h = .ok (.bl (!b)) h := (rfl)
def kAnd2 (eb : PH → Res PV) (x : PV) (t : Bool) (h : PH) : Res PV := if t = true then eb h else .ok x h
@[simp] theorem kAnd2_app (eb : PH → Res PV) (x : PV) (t : Bool) (h : PH) : kAnd2 eb x t h = if t = true then eb h else .ok x h := (rfl)
def kAnd (eb : PH → Res PV) (x : PV) (h : PH) : Res PV := (opt (truth h x) h).bind (kAnd2 eb x)
@[simp] theorem kAnd_app (eb : PH → Res PV) (x : PV) (h : PH) : kAnd eb x h = (opt (truth h x) h).bind (kAnd2 eb x) := (rfl)
def kOr2 (eb : PH → Res PV) (x : PV) (t : Bool) (h : PH) : Res PV := if t = true then .ok x h else eb h
@[simp] theorem kOr2_app (eb : PH → Res PV) (x : PV) (t : Bool) (h : PH) : kOr2 eb x t h = if t = true then .ok x h else eb h := (rfl)
def kOr (eb : PH → Res PV) (x : PV) (h : PH) : Res PV := (opt (truth h x) h).bind (kOr2 eb x)
@[simp] theorem kOr_app (eb : PH → Res PV) (x : PV) (h : PH) : kOr eb x h = (opt (truth h x) h).bind (kOr2 eb x) := (rfl)
def kBl  (t : Bool) (h : PH) : Res PV := .ok (.bl t) h
@[simp] theorem kBl_app  (t : Bool) (h : PH) : kBl t h = .ok (.bl t) h := (rfl)
def kCmp2 (o : Cop) (x : PV) (y : PV) (h : PH) : Res PV := (opt (cop o x y h) h).bind kBl
@[simp] theorem kCmp2_app (o : Cop) (x : PV) (y : PV) (h : PH) : kCmp2 o x y h = (opt (cop o x y h) h).bind kBl := (rfl)
def kCmp (o : Cop) (eb : PH → Res PV) (x : PV) (h : PH) : Res PV := (eb h).bind (kCmp2 o x)
@[simp] theorem kCmp_app (o : Cop) (eb : PH → Res PV) (x : PV) (h : PH) : kCmp o eb x h = (eb h).bind (kCmp2 o x) := (rfl)
def kCh4 (p : Cop) (y : PV) (z : PV) (h : PH) : Res PV := (opt (cop p y z h) h).bind kBl
@[simp] theorem kCh4_app (p : Cop) (y : PV) (z : PV) (h : PH) : kCh4 p y z h = (opt (cop p y z h) h).bind kBl := (rfl)
def kCh3 (p : Cop) (ec : PH → Res PV) (y : PV) (t : Bool) (h : PH) : Res PV := if t = true then (ec h).bind (kCh4 p y) else .ok (.bl false) h
@[simp] theorem kCh3_app (p : Cop) (ec : PH → Res PV) (y : PV) (t : Bool) (h : PH) : kCh3 p ec y t h = if t = true then (ec h).bind (kCh4 p y) else .ok (.bl false) h := (rfl)
def kCh2 (o p : Cop) (ec : PH → Res PV) (x : PV) (y : PV) (h : PH) : Res PV := (opt (cop o x y h) h).bind (kCh3 p ec y)
@[simp] theorem kCh2_app (o p : Cop) (ec : PH → Res PV) (x : PV) (y : PV) (h : PH) : kCh2 o p ec x y h = (opt (cop o x y h) h).bind (kCh3 p ec y) := (rfl)
def kCh (o p : Cop) (eb ec : PH → Res PV) (x : PV) (h : PH) : Res PV := (eb h).bind (kCh2 o p ec x)
@[simp] theorem kCh_app (o p : Cop) (eb ec : PH → Res PV) (x : PV) (h : PH) : kCh o p eb ec x h = (eb h).bind (kCh2 o p ec x) := (rfl)
def kIte (ea eb : PH → Res PV) (t : Bool) (h : PH) : Res PV := if t = true then ea h else eb h
@[simp] theorem kIte_app (ea eb : PH → Res PV) (t : Bool) (h : PH) : kIte ea eb t h = if t = true then ea h else eb h := (rfl)
def kTup  (vs : List PV) (h : PH) : Res PV := if vs.length ≤ LINE then .ok (.tup vs) h else .no
@[simp] theorem kTup_app  (vs : List PV) (h : PH) : kTup vs h = if vs.length ≤ LINE then .ok (.tup vs) h else .no := (rfl)
def kLst  (vs : List PV) (h : PH) : Res PV := if vs.length ≤ LINE then alloc (.lst vs) h else .no
@[simp] theorem kLst_app  (vs : List PV) (h : PH) : kLst vs h = if vs.length ≤ LINE then alloc (.lst vs) h else .no := (rfl)
def kIdx2 (x : PV) (y : PV) (h : PH) : Res PV := opt (getIx h x y) h
@[simp] theorem kIdx2_app (x : PV) (y : PV) (h : PH) : kIdx2 x y h = opt (getIx h x y) h := (rfl)
def kIdx (eb : PH → Res PV) (x : PV) (h : PH) : Res PV := (eb h).bind (kIdx2 x)
@[simp] theorem kIdx_app (eb : PH → Res PV) (x : PV) (h : PH) : kIdx eb x h = (eb h).bind (kIdx2 x) := (rfl)
def kSl3 (x : PV) (l : Option Int) (u : Option Int) (h : PH) : Res PV := slice x l u h
@[simp] theorem kSl3_app (x : PV) (l : Option Int) (u : Option Int) (h : PH) : kSl3 x l u h = slice x l u h := (rfl)
def kSl2 (eh : PH → Res (Option Int)) (x : PV) (l : Option Int) (h : PH) : Res PV := (eh h).bind (kSl3 x l)
@[simp] theorem kSl2_app (eh : PH → Res (Option Int)) (x : PV) (l : Option Int) (h : PH) : kSl2 eh x l h = (eh h).bind (kSl3 x l) := (rfl)
def kSl (el eh : PH → Res (Option Int)) (x : PV) (h : PH) : Res PV := (el h).bind (kSl2 eh x)
@[simp] theorem kSl_app (el eh : PH → Res (Option Int)) (x : PV) (h : PH) : kSl el eh x h = (el h).bind (kSl2 eh x) := (rfl)
def kFld (f : Nat) (x : PV) (h : PH) : Res PV := opt (getFld x f h) h
@[simp] theorem kFld_app (f : Nat) (x : PV) (h : PH) : kFld f x h = opt (getFld x f h) h := (rfl)
def kCall (rc : Rn) (f : Nat) (ds : List PV) (vs : List PV) (h : PH) : Res PV := rc f (vs ++ ds) h
@[simp] theorem kCall_app (rc : Rn) (f : Nat) (ds : List PV) (vs : List PV) (h : PH) : kCall rc f ds vs h = rc f (vs ++ ds) h := (rfl)
def kMe3 (rc : Rn) (x : PV) (f : Nat) (vs : List PV) (h : PH) : Res PV := rc f (x :: vs) h
@[simp] theorem kMe3_app (rc : Rn) (x : PV) (f : Nat) (vs : List PV) (h : PH) : kMe3 rc x f vs h = rc f (x :: vs) h := (rfl)
def kMe2 (rc : Rn) (es : PH → Res (List PV)) (x : PV) (f : Nat) (h : PH) : Res PV := (es h).bind (kMe3 rc x f)
@[simp] theorem kMe2_app (rc : Rn) (es : PH → Res (List PV)) (x : PV) (f : Nat) (h : PH) : kMe2 rc es x f h = (es h).bind (kMe3 rc x f) := (rfl)
def kMe (P : Pg) (rc : Rn) (m : Nat) (es : PH → Res (List PV)) (x : PV) (h : PH) : Res PV := (opt (mfind P x m h) h).bind (kMe2 rc es x)
@[simp] theorem kMe_app (P : Pg) (rc : Rn) (m : Nat) (es : PH → Res (List PV)) (x : PV) (h : PH) : kMe P rc m es x h = (opt (mfind P x m h) h).bind (kMe2 rc es x) := (rfl)
def kMk (P : Pg) (rm : Rn) (c : Nat) (ds : List PV) (vs : List PV) (h : PH) : Res PV := mkObj P rm c (vs ++ ds) h
@[simp] theorem kMk_app (P : Pg) (rm : Rn) (c : Nat) (ds : List PV) (vs : List PV) (h : PH) : kMk P rm c ds vs h = mkObj P rm c (vs ++ ds) h := (rfl)
def kLm2 (m : Lm) (es : PH → Res (List PV)) (x : PV) (u : Unit) (h : PH) : Res PV := (es h).bind (lmeth m x)
@[simp] theorem kLm2_app (m : Lm) (es : PH → Res (List PV)) (x : PV) (u : Unit) (h : PH) : kLm2 m es x u h = (es h).bind (lmeth m x) := (rfl)
def kLm (m : Lm) (es : PH → Res (List PV)) (x : PV) (h : PH) : Res PV := (opt (lstAt h x) h).bind (kLm2 m es x)
@[simp] theorem kLm_app (m : Lm) (es : PH → Res (List PV)) (x : PV) (h : PH) : kLm m es x h = (opt (lstAt h x) h).bind (kLm2 m es x) := (rfl)
def kIsi (t : Ty) (x : PV) (h : PH) : Res PV := (opt (isT h t x) h).bind kBl
@[simp] theorem kIsi_app (t : Ty) (x : PV) (h : PH) : kIsi t x h = (opt (isT h t x) h).bind kBl := (rfl)
def kAl  (vs : List PV) (h : PH) : Res PV := alloc (.lst vs) h
@[simp] theorem kAl_app  (vs : List PV) (h : PH) : kAl vs h = alloc (.lst vs) h := (rfl)
def kLc (own : List Nat) (tg : Tg) (dt : Sl → PH → Res Bool) (de : Sl → PH → Res PV) (σ : Sl) (s : Src) (h : PH) : Res PV := (loopC (cBody own tg dt de σ) s (fuelOf s h) 0 [] h).bind kAl
@[simp] theorem kLc_app (own : List Nat) (tg : Tg) (dt : Sl → PH → Res Bool) (de : Sl → PH → Res PV) (σ : Sl) (s : Src) (h : PH) : kLc own tg dt de σ s h = (loopC (cBody own tg dt de σ) s (fuelOf s h) 0 [] h).bind kAl := (rfl)
def kCo2 (x : PV) (xs : List PV) (h : PH) : Res (List PV) := .ok (x :: xs) h
@[simp] theorem kCo2_app (x : PV) (xs : List PV) (h : PH) : kCo2 x xs h = .ok (x :: xs) h := (rfl)
def kCo (er : PH → Res (List PV)) (x : PV) (h : PH) : Res (List PV) := (er h).bind (kCo2 x)
@[simp] theorem kCo_app (er : PH → Res (List PV)) (x : PV) (h : PH) : kCo er x h = (er h).bind (kCo2 x) := (rfl)
def kSt3 (ys : List PV) (xs : List PV) (h : PH) : Res (List PV) := .ok (ys ++ xs) h
@[simp] theorem kSt3_app (ys : List PV) (xs : List PV) (h : PH) : kSt3 ys xs h = .ok (ys ++ xs) h := (rfl)
def kSt2 (er : PH → Res (List PV)) (ys : List PV) (h : PH) : Res (List PV) := (er h).bind (kSt3 ys)
@[simp] theorem kSt2_app (er : PH → Res (List PV)) (ys : List PV) (h : PH) : kSt2 er ys h = (er h).bind (kSt3 ys) := (rfl)
def kSt (er : PH → Res (List PV)) (x : PV) (h : PH) : Res (List PV) := (opt (seqOf h x) h).bind (kSt2 er)
@[simp] theorem kSt_app (er : PH → Res (List PV)) (x : PV) (h : PH) : kSt er x h = (opt (seqOf h x) h).bind (kSt2 er) := (rfl)
def kSq  (x : PV) (h : PH) : Res Src := opt (srcOf h x) h
@[simp] theorem kSq_app  (x : PV) (h : PH) : kSq x h = opt (srcOf h x) h := (rfl)
def kEn  (x : PV) (h : PH) : Res Src := opt (enumOf h x) h
@[simp] theorem kEn_app  (x : PV) (h : PH) : kEn x h = opt (enumOf h x) h := (rfl)
def kNx (σ : Sl) (x : PV) (h : PH) : SR := .nx σ h
@[simp] theorem kNx_app (σ : Sl) (x : PV) (h : PH) : kNx σ x h = .nx σ h := (rfl)
def kSet (σ : Sl) (i : Nat) (x : PV) (h : PH) : SR := .nx (σ.set i (some x)) h
@[simp] theorem kSet_app (σ : Sl) (i : Nat) (x : PV) (h : PH) : kSet σ i x h = .nx (σ.set i (some x)) h := (rfl)
def kRet  (x : PV) (h : PH) : SR := .rt x h
@[simp] theorem kRet_app  (x : PV) (h : PH) : kRet x h = .rt x h := (rfl)
def kIf (σ : Sl) (fa fb : Sl → PH → SR) (t : Bool) (h : PH) : SR := if t = true then fa σ h else fb σ h
@[simp] theorem kIf_app (σ : Sl) (fa fb : Sl → PH → SR) (t : Bool) (h : PH) : kIf σ fa fb t h = if t = true then fa σ h else fb σ h := (rfl)
def kFor (σ : Sl) (B : PV → Sl → PH → SR) (s : Src) (h : PH) : SR := loopF B s (fuelOf s h) 0 σ h
@[simp] theorem kFor_app (σ : Sl) (B : PV → Sl → PH → SR) (s : Src) (h : PH) : kFor σ B s h = loopF B s (fuelOf s h) 0 σ h := (rfl)
def kMt (σ : Sl) (fc : PV → Sl → PH → SR) (x : PV) (h : PH) : SR := fc x σ h
@[simp] theorem kMt_app (σ : Sl) (fc : PV → Sl → PH → SR) (x : PV) (h : PH) : kMt σ fc x h = fc x σ h := (rfl)
/-- a name of the slots -/
def nxO (o : Option PH) (σ : Sl) : SR := match o with
  | some h => .nx σ h
  | none => .no
@[simp] theorem nxO_some (h : PH) (σ : Sl) : nxO (some h) σ = .nx σ h := (rfl)
def slO (o : Option Sl) (h : PH) : SR := match o with
  | some σ => .nx σ h
  | none => .no
@[simp] theorem slO_some (h : PH) (σ : Sl) : slO (some σ) h = .nx σ h := (rfl)
def kTs (σ : Sl) (is : List Nat) (x : PV) (h : PH) : SR := match x with
  | .tup l => slO (setAll is l σ) h
  | _ => .no
@[simp] theorem kTs_app (σ : Sl) (is : List Nat) (l : List PV) (h : PH) : kTs σ is (.tup l) h = slO (setAll is l σ) h := (rfl)
def kFs2 (P : Pg) (σ : Sl) (f : Nat) (v : PV) (x : PV) (h : PH) : SR := nxO (setFld P x f v h) σ
@[simp] theorem kFs2_app (P : Pg) (σ : Sl) (f : Nat) (v : PV) (x : PV) (h : PH) : kFs2 P σ f v x h = nxO (setFld P x f v h) σ := (rfl)
def kFs (P : Pg) (σ : Sl) (f : Nat) (eo : PH → Res PV) (v : PV) (h : PH) : SR := ofRes σ (eo h) (kFs2 P σ f v)
@[simp] theorem kFs_app (P : Pg) (σ : Sl) (f : Nat) (eo : PH → Res PV) (v : PV) (h : PH) : kFs P σ f eo v h = ofRes σ (eo h) (kFs2 P σ f v) := (rfl)
def csO (o : Option (Option (List (Nat × PV)))) (fb : Sl → PH → SR) (fr : PV → Sl → PH → SR) (v : PV) (σ : Sl) (h : PH) : SR := match o with
  | some (some bs) => fb (bindAll bs σ) h
  | some none => fr v σ h
  | none => .no
@[simp] theorem csO_some (bs : List (Nat × PV)) (fb : Sl → PH → SR) (fr : PV → Sl → PH → SR) (v : PV) (σ : Sl) (h : PH) : csO (some (some bs)) fb fr v σ h = fb (bindAll bs σ) h := (rfl)
@[simp] theorem csO_none (fb : Sl → PH → SR) (fr : PV → Sl → PH → SR) (v : PV) (σ : Sl) (h : PH) : csO (some none) fb fr v σ h = fr v σ h := (rfl)
def kNeg (x : PV) (h : PH) : Res PV := match x with
  | .int i => .ok (.int (-i)) h
  | _ => .no
@[simp] theorem kNeg_app (i : Int) (h : PH) : kNeg (.int i) h = .ok (.int (-i)) h := (rfl)
def kPart (x : PV) (h : PH) : Res (Option Int) := match x with
  | .int i => .ok (some i) h
  | _ => .no
@[simp] theorem kPart_app (i : Int) (h : PH) : kPart (.int i) h = .ok (some i) h := (rfl)
def kRg1 (y : PV) (h : PH) : Res Src := match y with
  | .int j => if inR j = true then .ok (.vals (rngV 0 j)) h else .no
  | _ => .no
@[simp] theorem kRg1_app (j : Int) (h : PH) : kRg1 (.int j) h = if inR j = true then .ok (.vals (rngV 0 j)) h else .no := (rfl)
def kRg2 (x y : PV) (h : PH) : Res Src := match x, y with
  | .int i, .int j => if inR i = true ∧ inR j = true then .ok (.vals (rngV i j)) h else .no
  | _, _ => .no
@[simp] theorem kRg2_app (i j : Int) (h : PH) : kRg2 (.int i) (.int j) h = if inR i = true ∧ inR j = true then .ok (.vals (rngV i j)) h else .no := (rfl)
def kRg (eb : PH → Res PV) (x : PV) (h : PH) : Res Src := (eb h).bind (kRg2 x)
@[simp] theorem kRg_app (eb : PH → Res PV) (x : PV) (h : PH) : kRg eb x h = (eb h).bind (kRg2 x) := (rfl)
def kLr1 (y : PV) (h : PH) : Res PV := match y with
  | .int j => if inR j = true ∧ j.toNat ≤ LINE then alloc (.lst (rngV 0 j)) h else .no
  | _ => .no
@[simp] theorem kLr1_app (j : Int) (h : PH) : kLr1 (.int j) h = if inR j = true ∧ j.toNat ≤ LINE then alloc (.lst (rngV 0 j)) h else .no := (rfl)
def kLr2 (x y : PV) (h : PH) : Res PV := match x, y with
  | .int i, .int j => if inR i = true ∧ inR j = true ∧ (j - i).toNat ≤ LINE then alloc (.lst (rngV i j)) h else .no
  | _, _ => .no
@[simp] theorem kLr2_app (i j : Int) (h : PH) : kLr2 (.int i) (.int j) h = if inR i = true ∧ inR j = true ∧ (j - i).toNat ≤ LINE then alloc (.lst (rngV i j)) h else .no := (rfl)
def kLr (eb : PH → Res PV) (x : PV) (h : PH) : Res PV := (eb h).bind (kLr2 x)
@[simp] theorem kLr_app (eb : PH → Res PV) (x : PV) (h : PH) : kLr eb x h = (eb h).bind (kLr2 x) := (rfl)
def kTx (l : List PV) (x : PV) (h : PH) : Res PV := if flat x ∧ l.all flat then match indexP x l with
      | some j => .ok (.int j) h
      | none => .no
      else .no
section
variable (P : Pg) (rc rm : Rn) (i f m : Nat) (v : PV) (σ : Sl) (h : PH) (o : Bop) (c c2 : Cop) (a b d : E) (es : Es) (lo hi : Oe) (ds l : List PV) (t : Blt) (lm : Lm) (ty : Ty) (own is : List Nat) (tg : Tg) (it : It) (cnd : Oe) (s : S) (sa sb : Ss) (cs : Cs) (p : Pt)
@[simp] theorem ev_var  : ev P rc rm (.var i) σ h = opt (σ[i]?.join) h := by rw [ev]; try rfl
@[simp] theorem ev_cst  : ev P rc rm (.cst v) σ h = .ok v h := by rw [ev]; try rfl
@[simp] theorem ev_bin  : ev P rc rm (.bin o a b) σ h = (ev P rc rm a σ h).bind (kBin o (ev P rc rm b σ)) := by rw [ev]; try rfl
@[simp] theorem ev_neg  : ev P rc rm (.neg a) σ h = (ev P rc rm a σ h).bind kNeg := by rw [ev]; try rfl
@[simp] theorem ev_not  : ev P rc rm (.not a) σ h = (tru (ev P rc rm a σ h)).bind kNot := by rw [ev]; try rfl
@[simp] theorem ev_and  : ev P rc rm (.and a b) σ h = (ev P rc rm a σ h).bind (kAnd (ev P rc rm b σ)) := by rw [ev]; try rfl
@[simp] theorem ev_or  : ev P rc rm (.or a b) σ h = (ev P rc rm a σ h).bind (kOr (ev P rc rm b σ)) := by rw [ev]; try rfl
@[simp] theorem ev_cmp  : ev P rc rm (.cmp c a b) σ h = (ev P rc rm a σ h).bind (kCmp c (ev P rc rm b σ)) := by rw [ev]; try rfl
@[simp] theorem ev_chain  : ev P rc rm (.chain c c2 a b d) σ h = (ev P rc rm a σ h).bind (kCh c c2 (ev P rc rm b σ) (ev P rc rm d σ)) := by rw [ev]; try rfl
@[simp] theorem ev_ite  : ev P rc rm (.ite d a b) σ h = (tru (ev P rc rm d σ h)).bind (kIte (ev P rc rm a σ) (ev P rc rm b σ)) := by rw [ev]; try rfl
@[simp] theorem ev_tup  : ev P rc rm (.tup es) σ h = (evs P rc rm es σ h).bind kTup := by rw [ev]; try rfl
@[simp] theorem ev_lst  : ev P rc rm (.lst es) σ h = (evs P rc rm es σ h).bind kLst := by rw [ev]; try rfl
@[simp] theorem ev_idx  : ev P rc rm (.idx a b) σ h = (ev P rc rm a σ h).bind (kIdx (ev P rc rm b σ)) := by rw [ev]; try rfl
@[simp] theorem ev_slc  : ev P rc rm (.slc a lo hi) σ h = (ev P rc rm a σ h).bind (kSl (evo P rc rm lo σ) (evo P rc rm hi σ)) := by rw [ev]; try rfl
@[simp] theorem ev_fld  : ev P rc rm (.fld a f) σ h = (ev P rc rm a σ h).bind (kFld f) := by rw [ev]; try rfl
@[simp] theorem ev_call  : ev P rc rm (.call f es ds) σ h = (evs P rc rm es σ h).bind (kCall rc f ds) := by rw [ev]; try rfl
@[simp] theorem ev_meth  : ev P rc rm (.meth a m es) σ h = (ev P rc rm a σ h).bind (kMe P rc m (evs P rc rm es σ)) := by rw [ev]; try rfl
@[simp] theorem ev_mk  : ev P rc rm (.mk f es ds) σ h = (evs P rc rm es σ h).bind (kMk P rm f ds) := by rw [ev]; try rfl
@[simp] theorem ev_blt  : ev P rc rm (.blt t es) σ h = (evs P rc rm es σ h).bind (blt t) := by rw [ev]; try rfl
@[simp] theorem ev_lm  : ev P rc rm (.lm lm a es) σ h = (ev P rc rm a σ h).bind (kLm lm (evs P rc rm es σ)) := by rw [ev]; try rfl
@[simp] theorem ev_isi  : ev P rc rm (.isi a ty) σ h = (ev P rc rm a σ h).bind (kIsi ty) := by rw [ev]; try rfl
@[simp] theorem ev_tidx  : ev P rc rm (.tidx l a) σ h = (ev P rc rm a σ h).bind (kTx l) := by rw [ev]; try rfl
@[simp] theorem ev_lc  : ev P rc rm (.lc own tg it cnd a) σ h = (evi P rc rm it σ h).bind (kLc own tg (evt P rc rm cnd) (ev P rc rm a) σ) := by rw [ev]; try rfl
@[simp] theorem ev_lr1  : ev P rc rm (.lrng1 a) σ h = (ev P rc rm a σ h).bind kLr1 := by rw [ev]; try rfl
@[simp] theorem ev_lr2  : ev P rc rm (.listrng a b) σ h = (ev P rc rm a σ h).bind (kLr (ev P rc rm b σ)) := by rw [ev]; try rfl
@[simp] theorem evs_nil  : evs P rc rm .nil σ h = .ok [] h := by rw [evs]; try rfl
@[simp] theorem evs_cons  : evs P rc rm (.cons a es) σ h = (ev P rc rm a σ h).bind (kCo (evs P rc rm es σ)) := by rw [evs]; try rfl
@[simp] theorem evs_star  : evs P rc rm (.star a es) σ h = (ev P rc rm a σ h).bind (kSt (evs P rc rm es σ)) := by rw [evs]; try rfl
@[simp] theorem evo_none  : evo P rc rm .none σ h = .ok none h := by rw [evo]; try rfl
@[simp] theorem evo_some  : evo P rc rm (.some a) σ h = (ev P rc rm a σ h).bind kPart := by rw [evo]; try rfl
@[simp] theorem evt_none  : evt P rc rm .none σ h = .ok true h := by rw [evt]; try rfl
@[simp] theorem evt_some  : evt P rc rm (.some a) σ h = tru (ev P rc rm a σ h) := by rw [evt]; try rfl
@[simp] theorem evi_seq  : evi P rc rm (.seq a) σ h = (ev P rc rm a σ h).bind kSq := by rw [evi]; try rfl
@[simp] theorem evi_enum  : evi P rc rm (.enum a) σ h = (ev P rc rm a σ h).bind kEn := by rw [evi]; try rfl
@[simp] theorem evi_rng1  : evi P rc rm (.rng1 a) σ h = (ev P rc rm a σ h).bind kRg1 := by rw [evi]; try rfl
@[simp] theorem evi_rng  : evi P rc rm (.rng a b) σ h = (ev P rc rm a σ h).bind (kRg (ev P rc rm b σ)) := by rw [evi]; try rfl
@[simp] theorem xs_pass  : xs P rc rm .pass σ h = .nx σ h := by rw [xs]; try rfl
@[simp] theorem xs_brk  : xs P rc rm .brk σ h = .bk σ h := by rw [xs]; try rfl
@[simp] theorem xs_cont  : xs P rc rm .cont σ h = .ct σ h := by rw [xs]; try rfl
@[simp] theorem xs_retN  : xs P rc rm .retN σ h = .rt .non h := by rw [xs]; try rfl
@[simp] theorem xs_expr  : xs P rc rm (.expr a) σ h = ofRes σ (ev P rc rm a σ h) (kNx σ) := by rw [xs]; try rfl
@[simp] theorem xs_set  : xs P rc rm (.set i a) σ h = ofRes σ (ev P rc rm a σ h) (kSet σ i) := by rw [xs]; try rfl
@[simp] theorem xs_fset  : xs P rc rm (.fset b f a) σ h = ofRes σ (ev P rc rm a σ h) (kFs P σ f (ev P rc rm b σ)) := by rw [xs]; try rfl
@[simp] theorem xs_tset  : xs P rc rm (.tset is a) σ h = ofRes σ (ev P rc rm a σ h) (kTs σ is) := by rw [xs]; try rfl
@[simp] theorem xs_ret  : xs P rc rm (.ret a) σ h = ofRes σ (ev P rc rm a σ h) kRet := by rw [xs]; try rfl
@[simp] theorem xs_ite  : xs P rc rm (.ite a sa sb) σ h = ofRes σ (tru (ev P rc rm a σ h)) (kIf σ (xss P rc rm sa) (xss P rc rm sb)) := by rw [xs]; try rfl
@[simp] theorem xs_for  : xs P rc rm (.forr tg it sa) σ h = ofRes σ (evi P rc rm it σ h) (kFor σ (forB tg (xss P rc rm sa))) := by rw [xs]; try rfl
@[simp] theorem xs_whl  : xs P rc rm (.whl a sa) σ h = loopW (whB (ev P rc rm a) (xss P rc rm sa)) FUEL σ h := by rw [xs]; try rfl
@[simp] theorem xs_mtch  : xs P rc rm (.mtch a cs) σ h = ofRes σ (ev P rc rm a σ h) (kMt σ (xcs P rc rm cs)) := by rw [xs]; try rfl
@[simp] theorem xss_nil  : xss P rc rm .nil σ h = .nx σ h := by rw [xss]; try rfl
@[simp] theorem xss_cons  : xss P rc rm (.cons s sa) σ h = (xs P rc rm s σ h).seq (xss P rc rm sa) := by rw [xss]; try rfl
@[simp] theorem xcs_nil  : xcs P rc rm .nil v σ h = .nx σ h := by rw [xcs]; try rfl
@[simp] theorem xcs_cons  : xcs P rc rm (.cons p sa cs) v σ h = csO (mtch p v) (xss P rc rm sa) (xcs P rc rm cs) v σ h := by rw [xcs]; try rfl
end

@[simp] theorem bop_add (i j : Int) (h : PH) : bop .add (.int i) (.int j) h = .ok (.int (i + j)) h := (rfl)
@[simp] theorem bop_sub (i j : Int) (h : PH) : bop .sub (.int i) (.int j) h = .ok (.int (i - j)) h := (rfl)
@[simp] theorem bop_mul (i j : Int) (h : PH) : bop .mul (.int i) (.int j) h = if smallI i = true ∨ smallI j = true then .ok (.int (i * j)) h else .no := (rfl)
@[simp] theorem bop_mod (i j : Int) (h : PH) : bop .mod (.int i) (.int j) h = if 0 < j then .ok (.int (i % j)) h else .no := (rfl)
@[simp] theorem bop_fdiv (i j : Int) (h : PH) : bop .fdiv (.int i) (.int j) h = if 0 < j ∧ j < 1073741824 then .ok (.int (i / j)) h else .no := (rfl)
@[simp] theorem bop_pow (i j : Int) (h : PH) : bop .pow (.int i) (.int j) h = if 0 ≤ j ∧ j ≤ 1000000 ∧ i.natAbs < 2 ^ 64 then .ok (.int (i ^ j.toNat)) h else .no := (rfl)
@[simp] theorem bop_addT (l r : List PV) (h : PH) : bop .add (.tup l) (.tup r) h = if l.length + r.length ≤ LINE then .ok (.tup (l ++ r)) h else .no := (rfl)
theorem bop_addL {a b : Nat} {l r : List PV} {h : PH} (e1 : h.get a = some (.lst l)) (e2 : h.get b = some (.lst r)) (hl : l.length + r.length ≤ LINE) : bop .add (.ref a) (.ref b) h = .ok (.ref h.n) (h.new (.lst (l ++ r))) := by
  simp only [bop, e1, e2, if_pos hl, alloc]
@[simp] theorem smallI_def (i : Int) : smallI i = (decide (-(2 ^ 64) < i) && decide (i < 2 ^ 64)) := (rfl)
@[simp] theorem LINE_val : LINE = 16777216 := (rfl)
@[simp] theorem cop_eq (x y : PV) (h : PH) : cop .eq x y h = eqS x y := by cases x <;> cases y <;> rfl
@[simp] theorem cop_ne (x y : PV) (h : PH) : cop .ne x y h = (eqS x y).map fun b => !b := by cases x <;> cases y <;> rfl
@[simp] theorem cop_lt (i j : Int) (h : PH) : cop .lt (.int i) (.int j) h = some (decide (i < j)) := (rfl)
@[simp] theorem cop_le (i j : Int) (h : PH) : cop .le (.int i) (.int j) h = some (decide (i ≤ j)) := (rfl)
@[simp] theorem cop_gt (i j : Int) (h : PH) : cop .gt (.int i) (.int j) h = some (decide (j < i)) := (rfl)
@[simp] theorem cop_ge (i j : Int) (h : PH) : cop .ge (.int i) (.int j) h = some (decide (j ≤ i)) := (rfl)
def isNon : PV → Bool
  | .non => true
  | _ => false
@[simp] theorem isNon_non : isNon .non = true := (rfl)
@[simp] theorem isNon_int (i : Int) : isNon (.int i) = false := (rfl)
@[simp] theorem isNon_bl (i : Bool) : isNon (.bl i) = false := (rfl)
@[simp] theorem isNon_str (i : Str) : isNon (.str i) = false := (rfl)
@[simp] theorem isNon_tup (i : List PV) : isNon (.tup i) = false := (rfl)
@[simp] theorem isNon_ref (i : Nat) : isNon (.ref i) = false := (rfl)
@[simp] theorem cop_isN (x : PV) (h : PH) : cop .is x .non h = some (isNon x) := by cases x <;> rfl
@[simp] theorem cop_notN (x : PV) (h : PH) : cop .isnot x .non h = some (!isNon x) := by cases x <;> rfl
def isBl (b : Bool) : PV → Bool
  | .bl a => a == b
  | _ => false
@[simp] theorem isBl_non (b : Bool) : isBl b .non = false := (rfl)
@[simp] theorem isBl_int (b : Bool) (i : Int) : isBl b (.int i) = false := (rfl)
@[simp] theorem isBl_bl (b i : Bool) : isBl b (.bl i) = (i == b) := (rfl)
@[simp] theorem isBl_str (b : Bool) (i : Str) : isBl b (.str i) = false := (rfl)
@[simp] theorem isBl_tup (b : Bool) (i : List PV) : isBl b (.tup i) = false := (rfl)
@[simp] theorem isBl_ref (b : Bool) (i : Nat) : isBl b (.ref i) = false := (rfl)
@[simp] theorem cop_isB (x : PV) (b : Bool) (h : PH) : cop .is x (.bl b) h = some (isBl b x) := by cases x <;> rfl
@[simp] theorem eqS_int (i j : Int) : eqS (.int i) (.int j) = some (decide (i = j)) := (rfl)
@[simp] theorem eqS_bl (i j : Bool) : eqS (.bl i) (.bl j) = some (i == j) := (rfl)
@[simp] theorem eqS_str (i j : Str) : eqS (.str i) (.str j) = some (decide (i = j)) := (rfl)
@[simp] theorem eqS_is (i : Int) (j : Str) : eqS (.int i) (.str j) = some false := (rfl)
@[simp] theorem eqS_si (i : Int) (j : Str) : eqS (.str j) (.int i) = some false := (rfl)
@[simp] theorem eqS_ni (i : Int) : eqS .non (.int i) = some false := (rfl)
@[simp] theorem eqS_in (i : Int) : eqS (.int i) .non = some false := (rfl)
@[simp] theorem eqS_ns (i : Str) : eqS .non (.str i) = some false := (rfl)
@[simp] theorem eqS_sn (i : Str) : eqS (.str i) .non = some false := (rfl)
@[simp] theorem truth_bl (b : Bool) (h : PH) : truth h (.bl b) = some b := (rfl)
@[simp] theorem truth_int (i : Int) (h : PH) : truth h (.int i) = some (i != 0) := (rfl)
@[simp] theorem truth_non (h : PH) : truth h .non = some false := (rfl)
@[simp] theorem truth_tup (l : List PV) (h : PH) : truth h (.tup l) = some (!l.isEmpty) := (rfl)
@[simp] theorem tru_ok (v : PV) (h : PH) : tru (.ok v h) = opt (truth h v) h := (rfl)
@[simp] theorem isT_int (t : Ty) (i : Int) (h : PH) : isT h t (.int i) = some (match t with | .int => true | _ => false) := (rfl)
@[simp] theorem isT_non (t : Ty) (h : PH) : isT h t .non = some false := (rfl)
@[simp] theorem isT_bl (t : Ty) (i : Bool) (h : PH) : isT h t (.bl i) = some (match t with | .int => true | .bool => true | _ => false) := (rfl)
@[simp] theorem isT_str (t : Ty) (i : Str) (h : PH) : isT h t (.str i) = some (match t with | .str => true | _ => false) := (rfl)
@[simp] theorem isT_tup (t : Ty) (i : List PV) (h : PH) : isT h t (.tup i) = some (match t with | .tuple => true | _ => false) := (rfl)
theorem isT_lst {a : Nat} {l : List PV} {h : PH} (e : h.get a = some (.lst l)) (t : Ty) : isT h t (.ref a) = some (match t with | .list => true | _ => false) := by simp only [isT, e] <;> (cases t <;> rfl)
@[simp] theorem blt_int (i : Int) (h : PH) : blt .int [.int i] h = .ok (.int i) h := (rfl)
@[simp] theorem blt_intb (i : Bool) (h : PH) : blt .int [.bl i] h = .ok (.int (if i then 1 else 0)) h := (rfl)
@[simp] theorem blt_lenT (l : List PV) (h : PH) : blt .len [.tup l] h = .ok (.int l.length) h := (rfl)
theorem blt_len {a : Nat} {l : List PV} {h : PH} (e : seqOf h (.ref a) = some l) : blt .len [.ref a] h = .ok (.int l.length) h := by simp only [blt, e]
@[simp] theorem blt_tupT (l : List PV) (h : PH) : blt .tuple [.tup l] h = .ok (.tup l) h := (rfl)
theorem blt_tup {a : Nat} {l : List PV} {h : PH} (e : seqOf h (.ref a) = some l) : blt .tuple [.ref a] h = .ok (.tup l) h := by simp only [blt, e]
@[simp] theorem blt_lstT (l : List PV) (h : PH) : blt .list [.tup l] h = .ok (.ref h.n) (h.new (.lst l)) := (rfl)
theorem blt_lst {a : Nat} {l : List PV} {h : PH} (e : seqOf h (.ref a) = some l) : blt .list [.ref a] h = .ok (.ref h.n) (h.new (.lst l)) := by simp only [blt, e, alloc]
@[simp] theorem blt_min (i j : Int) (h : PH) : blt .min2 [.int i, .int j] h = .ok (.int (if j < i then j else i)) h := (rfl)
@[simp] theorem blt_max (i j : Int) (h : PH) : blt .max2 [.int i, .int j] h = .ok (.int (if j > i then j else i)) h := (rfl)
@[simp] theorem alloc_def (o : PO) (h : PH) : alloc o h = .ok (.ref h.n) (h.new o) := (rfl)
@[simp] theorem fuel_vals (l : List PV) (h : PH) : fuelOf (.vals l) h = l.length := (rfl)
@[simp] theorem rng_len (i j : Int) : (rngV i j).length = (j - i).toNat := rngV_length i j
@[simp] theorem src_tup (l : List PV) (h : PH) : srcOf h (.tup l) = some (.vals l) := (rfl)
theorem src_lst {a : Nat} {l : List PV} {h : PH} (e : h.get a = some (.lst l)) : srcOf h (.ref a) = some (.live a) := by simp only [srcOf, e]
theorem enum_lst {a : Nat} {l : List PV} {h : PH} (e : h.get a = some (.lst l)) : enumOf h (.ref a) = some (.lenum a) := by simp only [enumOf, e]
theorem fuel_live {a : Nat} {l : List PV} {h : PH} (e : seqOf h (.ref a) = some l) : fuelOf (.live a) h = l.length := by simp only [fuelOf, e]; rfl
theorem fuel_enum {a : Nat} {l : List PV} {h : PH} (e : seqOf h (.ref a) = some l) : fuelOf (.lenum a) h = l.length := by simp only [fuelOf, e]; rfl
@[simp] theorem ix_tup (l : List PV) (i : Int) (h : PH) : getIx h (.tup l) (.int i) = atI l i := (rfl)
theorem ix_lst {a : Nat} {l : List PV} {h : PH} (e : seqOf h (.ref a) = some l) (i : Int) : getIx h (.ref a) (.int i) = atI l i := by simp only [getIx, e]
theorem atI_nat {α : Type} {l : List α} {n : Nat} {x : α} (e : l[n]? = some x) : atI l (n : Int) = some x := by
  obtain ⟨hl, _⟩ := List.getElem?_eq_some_iff.mp e
  unfold atI ixN
  rw [if_pos (by omega), if_pos (by omega)]
  simpa using e
@[simp] theorem slice_tup (l : List PV) (lo hi : Option Int) (h : PH) : slice (.tup l) lo hi h = .ok (.tup (cutP l lo hi)) h := (rfl)
theorem slice_lst {a : Nat} {l : List PV} {h : PH} (e : h.get a = some (.lst l)) (lo hi : Option Int) : slice (.ref a) lo hi h = .ok (.ref h.n) (h.new (.lst (cutP l lo hi))) := by simp only [slice, e, alloc]
theorem slice_rol {a : Nat} {l : List PV} {h : PH} (e : h.get a = some (.rol l)) (lo hi : Option Int) : slice (.ref a) lo hi h = .ok (.ref h.n) (h.new (.lst (cutP l lo hi))) := by simp only [slice, e, alloc]
@[simp] theorem mtch_atom (p : P1) (v : PV) : mtch (.atom p) v = m1 p v := (rfl)
@[simp] theorem mtch_seq (ps : List P1) (l : List PV) : mtch (.seq ps) (.tup l) = if l.length = ps.length then mEach ps l else some none := (rfl)
@[simp] theorem m1_wild (v : PV) : m1 .wild v = some (some []) := (rfl)
@[simp] theorem m1_cap (i : Nat) (v : PV) : m1 (.cap i) v = some (some [(i, v)]) := (rfl)
@[simp] theorem m1_val (c v : PV) : m1 (.val c) v = (eqS v c).map fun b => if b = true then some [] else none := (rfl)
@[simp] theorem mEach_nil : mEach [] [] = some (some []) := (rfl)
def mCat (o : Option (Option (List (Nat × PV)))) (f : Unit → Option (Option (List (Nat × PV)))) : Option (Option (List (Nat × PV))) := match o with
  | some (some b) => match f () with
    | some (some m) => some (some (b ++ m))
    | r => r
  | r => r
theorem mEach_cons (p : P1) (ps : List P1) (v : PV) (vs : List PV) : mEach (p :: ps) (v :: vs) = mCat (m1 p v) fun _ => mEach ps vs := rfl
@[simp] theorem bindAll_nil (σ : Sl) : bindAll [] σ = σ := (rfl)
@[simp] theorem bindAll_cons (b : Nat × PV) (bs : List (Nat × PV)) (σ : Sl) : bindAll (b :: bs) σ = bindAll bs (σ.set b.1 (some b.2)) := (rfl)
@[simp] theorem setAll_nil (σ : Sl) : setAll [] [] σ = some σ := (rfl)
@[simp] theorem setAll_cons (i : Nat) (is : List Nat) (v : PV) (vs : List PV) (σ : Sl) : setAll (i :: is) (v :: vs) σ = setAll is vs (σ.set i (some v)) := (rfl)
@[simp] theorem bindT_name (i : Nat) (v : PV) (σ : Sl) : bindT (.name i) v σ = some (σ.set i (some v)) := (rfl)
@[simp] theorem bindT_names (is : List Nat) (l : List PV) (σ : Sl) : bindT (.names is) (.tup l) σ = setAll is l σ := (rfl)
@[simp] theorem wipe_nil (σ : Sl) : wipeP σ [] = σ := (rfl)
@[simp] theorem wipe_cons (σ : Sl) (v : Nat) (vs : List Nat) : wipeP σ (v :: vs) = (wipeP σ vs).set v none := (rfl)
end Fx

/-! The draws of a law. -/
namespace Fx
open PySem L2
def b_draws : Ss := (.cons (.set 2 (.lst .nil)) (.cons (.set 3 (.blt .int (.cons (.var 0) .nil))) (.cons (.ite (.cmp .ge (.var 3) (.bin .pow (.cst (.int 10)) (.cst (.int 18)))) (.cons (.forr (.name 4) (.rng1 (.var 1)) (.cons (.ite (.cmp .gt (.var 3) (.cst (.int 0))) (.cons (.expr (.lm .append (.var 2) (.cons (.bin .mod (.blt .int (.cons (.var 3) .nil)) (.cst (.int 1000))) .nil))) (.cons (.set 3 (.bin .fdiv (.var 3) (.cst (.int 1000)))) .nil)) .nil) .nil)) .nil) .nil) (.cons (.set 5 (.bin .mod (.blt .int (.cons (.bin .add (.bin .mul (.blt .int (.cons (.var 0) .nil)) (.cst (.int 48271))) (.cst (.int 11))) .nil)) (.cst (.int 2147483647)))) (.cons (.forr (.name 4) (.rng1 (.var 1)) (.cons (.set 5 (.bin .mod (.blt .int (.cons (.bin .add (.bin .add (.bin .mul (.var 5) (.cst (.int 48271))) (.bin .mul (.var 4) (.cst (.int 69621)))) (.cst (.int 7))) .nil)) (.cst (.int 2147483647)))) (.cons (.ite (.cmp .lt (.blt .len (.cons (.var 2) .nil)) (.var 1)) (.cons (.expr (.lm .append (.var 2) (.cons (.bin .mod (.blt .int (.cons (.bin .mod (.blt .int (.cons (.bin .add (.bin .mul (.var 5) (.cst (.int 69621))) (.cst (.int 5))) .nil)) (.cst (.int 2147483629))) .nil)) (.cst (.int 1000))) .nil))) .nil) .nil) .nil))) (.cons (.ret (.var 2)) .nil))))))

/-- the digits of a great cell -/
def dr1 (c : Int) : Nat → List Int × Int
  | 0 => ([], c)
  | n + 1 => if 0 < (dr1 c n).2 then ((dr1 c n).1 ++ [(dr1 c n).2 % 1000], (dr1 c n).2 / 1000) else dr1 c n
def dr0 (c : Int) (m : Nat) : List Int := if (10 : Int) ^ 18 ≤ c then (dr1 c m).1 else []
def dr2 (c : Int) (m : Nat) : Nat → List Int × Int
  | 0 => (dr0 c m, (c * 48271 + 11) % 2147483647)
  | n + 1 => ((if (dr2 c m n).1.length < m then (dr2 c m n).1 ++ [((((dr2 c m n).2 * 48271 + n * 69621 + 7) % 2147483647) * 69621 + 5) % 2147483629 % 1000] else (dr2 c m n).1), ((dr2 c m n).2 * 48271 + n * 69621 + 7) % 2147483647)
def drawsF (c : Int) (m : Nat) : List Int := (dr2 c m m).1
def Dig (l : List Int) : Prop := ∀ d ∈ l, 0 ≤ d ∧ d < 1000
theorem dr1_ok (c : Int) : ∀ n, Dig (dr1 c n).1 ∧ (dr1 c n).1.length ≤ n
  | 0 => ⟨fun d h => by simp [dr1] at h, by simp [dr1]⟩
  | n + 1 => by
    obtain ⟨h1, h2⟩ := dr1_ok c n
    unfold dr1
    split
    · refine ⟨fun d hd => ?_, by simp; omega⟩
      rcases List.mem_append.mp hd with hd | hd
      · exact h1 d hd
      · rw [List.mem_singleton.mp hd]; omega
    · exact ⟨h1, by omega⟩
theorem dr2_ok (c : Int) (m : Nat) : ∀ n, Dig (dr2 c m n).1 ∧ (dr2 c m n).1.length ≤ m ∧ min m n ≤ (dr2 c m n).1.length
  | 0 => by
    unfold dr2 dr0
    split
    · exact ⟨(dr1_ok c m).1, (dr1_ok c m).2, by omega⟩
    · exact ⟨fun d h => by simp at h, by simp, by simp⟩
  | n + 1 => by
    obtain ⟨h1, h2, h3⟩ := dr2_ok c m n
    unfold dr2
    dsimp only
    split
    · refine ⟨fun d hd => ?_, by simp; omega, by simp; omega⟩
      rcases List.mem_append.mp hd with hd | hd
      · exact h1 d hd
      · rw [List.mem_singleton.mp hd]; omega
    · exact ⟨h1, h2, by omega⟩
theorem drawsF_len (c : Int) (m : Nat) : (drawsF c m).length = m := by
  have := dr2_ok c m m
  unfold drawsF
  omega
theorem drawsF_dig (c : Int) (m : Nat) : Dig (drawsF c m) := (dr2_ok c m m).1
theorem lm_app {h : PH} {a : Nat} {l : List PV} {v : PV} (e : h.get a = some (.lst l)) (hl : l.length < LINE) : lmeth .append (.ref a) [v] h = .ok .non (h.set a (.lst (l ++ [v]))) := by
  unfold lmeth
  simp only [e, if_pos hl]
theorem lstAt_of {h : PH} {a : Nat} {l : List PV} (e : h.get a = some (.lst l)) : lstAt h (.ref a) = some () := by
  unfold lstAt
  simp only [e]
theorem app_map (l : List Int) (d : Int) : l.map PV.int ++ [.int d] = (l ++ [d]).map .int := by simp
theorem draws_spec {P : Pg} {f k : Nat} (hf : P.fn f = some ⟨2, 6, b_draws⟩) (c : Int) (m : Nat) (hm : m ≤ 1000) (h : PH) :
    ∃ h', run P (k + 2) f [.int c, .int m] h = .ok (.ref h.n) h' ∧ Ext h h' ∧ h.n < h'.n ∧ h'.get h.n = some (.lst ((drawsF c m).map .int)) := by
  have hL : LINE = 16777216 := rfl
  have e0 : (h.new (.lst [])).get h.n = some (.lst (([] : List Int).map .int)) := PH.get_new_same
  have hin : inR (m : Int) = true := by simp [inR]; omega
  have hpow : (10 : Int) ^ 18 = 1000000000000000000 := rfl
  -- the first loop
  have l1 := loopF_rule (body := forB (.name 4) (xss P (run P (k + 1)) (run P k) (.cons (.ite (.cmp .gt (.var 3) (.cst (.int 0))) (.cons (.expr (.lm .append (.var 2) (.cons (.bin .mod (.blt .int (.cons (.var 3) .nil)) (.cst (.int 1000))) .nil))) (.cons (.set 3 (.bin .fdiv (.var 3) (.cst (.int 1000)))) .nil)) .nil) .nil))) (s := .vals (rngV 0 m)) (l := rngV 0 m)
    (fun i σ h1 => ∃ x4, σ = [some (.int c), some (.int m), some (.ref h.n), some (.int (dr1 c i).2), x4, none] ∧ ExtBut h.n (h.new (.lst [])) h1 ∧ h1.get h.n = some (.lst ((dr1 c i).1.map .int)))
    (fun i σ h1 _ => rfl) (fun i x σ h1 hx ⟨x4, hs, hE, hg⟩ => by
      obtain ⟨rfl, hi⟩ := rngV_get hx
      subst hs
      have hlen := (dr1_ok c i).2
      have hl : ((dr1 c i).1.map PV.int).length < LINE := by rw [List.length_map]; omega
      by_cases hr : 0 < (dr1 c i).2
      · refine ⟨_, _, .inl ?_, ⟨some (.int (0 + i)), rfl, hE.trans (ExtBut.set _ _ (.lst ((dr1 c (i + 1)).1.map .int))), PH.get_set_same hg⟩⟩
        simp [lstAt_of hg, lm_app hg hl, hr, dr1]
      · refine ⟨_, h1, .inl ?_, ⟨some (.int (0 + i)), rfl, hE, ?_⟩⟩
        · simp [hr, dr1]
        · simpa [dr1, hr] using hg) m 0 _ (h.new (.lst [])) (by rw [rngV_length]; simp) ⟨none, rfl, ExtBut.refl _ _, e0⟩
  have l2 : ∀ (rest : Int) (x4 : Option PV) (h1 : PH), ExtBut h.n (h.new (.lst [])) h1 → h1.get h.n = some (.lst ((dr0 c m).map .int)) → ∃ σ' h2, loopF (forB (.name 4) (xss P (run P (k + 1)) (run P k) (.cons (.set 5 (.bin .mod (.blt .int (.cons (.bin .add (.bin .add (.bin .mul (.var 5) (.cst (.int 48271))) (.bin .mul (.var 4) (.cst (.int 69621)))) (.cst (.int 7))) .nil)) (.cst (.int 2147483647)))) (.cons (.ite (.cmp .lt (.blt .len (.cons (.var 2) .nil)) (.var 1)) (.cons (.expr (.lm .append (.var 2) (.cons (.bin .mod (.blt .int (.cons (.bin .mod (.blt .int (.cons (.bin .add (.bin .mul (.var 5) (.cst (.int 69621))) (.cst (.int 5))) .nil)) (.cst (.int 2147483629))) .nil)) (.cst (.int 1000))) .nil))) .nil) .nil) .nil))))
      (.vals (rngV 0 m)) m 0 [some (.int c), some (.int m), some (.ref h.n), some (.int rest), x4, some (.int ((c * 48271 + 11) % 2147483647))] h1 = .nx σ' h2 ∧ ∃ x4 x5, σ' = [some (.int c), some (.int m), some (.ref h.n), some (.int rest), x4, x5] ∧ ExtBut h.n (h.new (.lst [])) h2 ∧ h2.get h.n = some (.lst ((dr2 c m m).1.map .int)) := by
    intro rest x4 h1 hE hg
    obtain ⟨σ', h2, e, x4', hs, hE', hg'⟩ := loopF_rule (body := forB (.name 4) (xss P (run P (k + 1)) (run P k) (.cons (.set 5 (.bin .mod (.blt .int (.cons (.bin .add (.bin .add (.bin .mul (.var 5) (.cst (.int 48271))) (.bin .mul (.var 4) (.cst (.int 69621)))) (.cst (.int 7))) .nil)) (.cst (.int 2147483647)))) (.cons (.ite (.cmp .lt (.blt .len (.cons (.var 2) .nil)) (.var 1)) (.cons (.expr (.lm .append (.var 2) (.cons (.bin .mod (.blt .int (.cons (.bin .mod (.blt .int (.cons (.bin .add (.bin .mul (.var 5) (.cst (.int 69621))) (.cst (.int 5))) .nil)) (.cst (.int 2147483629))) .nil)) (.cst (.int 1000))) .nil))) .nil) .nil) .nil)))) (s := .vals (rngV 0 m)) (l := rngV 0 m)
      (fun i σ h1 => ∃ x4, σ = [some (.int c), some (.int m), some (.ref h.n), some (.int rest), x4, some (.int (dr2 c m i).2)] ∧ ExtBut h.n (h.new (.lst [])) h1 ∧ h1.get h.n = some (.lst ((dr2 c m i).1.map .int)))
      (fun i σ h1 _ => rfl) (fun i x σ h1 hx ⟨x4, hs, hE, hg⟩ => by
        obtain ⟨rfl, hi⟩ := rngV_get hx
        subst hs
        obtain ⟨_, hlen, _⟩ := dr2_ok c m i
        have hl : ((dr2 c m i).1.map PV.int).length < LINE := by rw [List.length_map]; omega
        by_cases hr : (dr2 c m i).1.length < m
        · refine ⟨_, _, .inl ?_, ⟨some (.int (0 + i)), rfl, hE.trans (ExtBut.set _ _ (.lst ((dr2 c m (i + 1)).1.map .int))), PH.get_set_same hg⟩⟩
          simp [lstAt_of hg, lm_app hg hl, blt_len (seqOf_lst hg), hr, dr2]
        · refine ⟨_, h1, .inl ?_, ⟨some (.int (0 + i)), rfl, hE, ?_⟩⟩
          · simp [blt_len (seqOf_lst hg), hr, dr2]
          · simpa [dr2, hr] using hg) m 0 _ h1 (by rw [rngV_length]; simp) ⟨x4, rfl, hE, hg⟩
    rw [rngV_length, show ((m : Int) - 0).toNat = m by omega] at hs hg'
    exact ⟨σ', h2, e, x4', _, hs, hE', hg'⟩
  rw [run_def hf rfl]
  by_cases hc : (10 : Int) ^ 18 ≤ c
  · have hc2 : (1000000000000000000 : Int) ≤ c := by omega
    obtain ⟨σ1, h1, e1, x4, hs1, hE1, hg1⟩ := l1
    rw [rngV_length, show ((m : Int) - 0).toNat = m by omega] at hs1 hg1
    subst hs1
    obtain ⟨σ2, h2, e2, x4', x5, hs2, hE2, hg2⟩ := l2 (dr1 c m).2 x4 h1 hE1 (by unfold dr0; rw [if_pos hc]; exact hg1)
    subst hs2
    refine ⟨h2, ?_, hE2.ext (Ext.new h _) (Nat.le_refl _), ?_, hg2⟩
    · simp only [dr1] at e1
      simp [b_draws, hc2, hin, rngV_length, e1, e2]
    · have := hE2.n
      rw [PH.new_n] at this
      omega
  · have hc2 : ¬ (1000000000000000000 : Int) ≤ c := by omega
    obtain ⟨σ2, h2, e2, x4', x5, hs2, hE2, hg2⟩ := l2 c none (h.new (.lst [])) (ExtBut.refl _ _) (by unfold dr0; rw [if_neg hc]; exact e0)
    subst hs2
    refine ⟨h2, ?_, hE2.ext (Ext.new h _) (Nat.le_refl _), ?_, hg2⟩
    · simp [b_draws, hc2, hin, rngV_length, e2]
    · have := hE2.n
      rw [PH.new_n] at this
      omega
end Fx

/-! What a law's comparison says. -/
namespace Fx
open PySem L2
def b_same (f : Nat) : Ss := (.cons (.ite (.cmp .is (.var 1) (.cst .non)) (.cons (.ret (.cmp .is (.var 0) (.cst .non))) .nil) .nil) (.cons (.ite (.cmp .is (.var 1) (.cst (.bl true))) (.cons (.ret (.cmp .is (.var 0) (.cst (.bl true)))) .nil) .nil) (.cons (.ite (.cmp .is (.var 1) (.cst (.bl false))) (.cons (.ret (.cmp .is (.var 0) (.cst (.bl false)))) .nil) .nil) (.cons (.ite (.isi (.var 1) .int) (.cons (.ret (.and (.isi (.var 0) .int) (.and (.not (.isi (.var 0) .bool)) (.cmp .eq (.var 0) (.var 1))))) .nil) .nil) (.cons (.ite (.isi (.var 1) .str) (.cons (.ret (.and (.isi (.var 0) .str) (.cmp .eq (.var 0) (.var 1)))) .nil) .nil) (.cons (.ite (.and (.isi (.var 1) .tuple) (.not (.isi (.var 0) .tuple))) (.cons (.ret (.cst (.bl false))) .nil) .nil) (.cons (.ite (.and (.isi (.var 1) .list) (.not (.isi (.var 0) .list))) (.cons (.ret (.cst (.bl false))) .nil) .nil) (.cons (.ite (.cmp .ne (.blt .len (.cons (.var 0) .nil)) (.blt .len (.cons (.var 1) .nil))) (.cons (.ret (.cst (.bl false))) .nil) .nil) (.cons (.forr (.name 2) (.rng1 (.blt .len (.cons (.var 1) .nil))) (.cons (.ite (.not (.call f (.cons (.idx (.var 0) (.var 2)) (.cons (.idx (.var 1) (.var 2)) .nil)) [])) (.cons (.ret (.cst (.bl false))) .nil) .nil) .nil)) (.cons (.ret (.cst (.bl true))) .nil))))))))))
inductive Sm (h : PH) : Nat → PV → PV → Prop
  | non (d : Nat) : Sm h d .non .non
  | bl (d : Nat) (b : Bool) : Sm h d (.bl b) (.bl b)
  | int (d : Nat) (i : Int) : Sm h d (.int i) (.int i)
  | str (d : Nat) (x : Str) : Sm h d (.str x) (.str x)
  | tup {d : Nat} {l r : List PV} : l.length = r.length → r.length < 1000000 → (∀ (i : Nat) (x y : PV), l[i]? = some x → r[i]? = some y → Sm h d x y) → Sm h (d + 1) (.tup l) (.tup r)
  | lst {d : Nat} {a b : Nat} {l r : List PV} : h.get a = some (.lst l) → h.get b = some (.lst r) → l.length = r.length → r.length < 1000000 → (∀ (i : Nat) (x y : PV), l[i]? = some x → r[i]? = some y → Sm h d x y) → Sm h (d + 1) (.ref a) (.ref b)
theorem Sm.up {h : PH} {d : Nat} {v w : PV} (s : Sm h d v w) : Sm h (d + 1) v w := by
  induction s with
  | non d => exact .non _
  | bl d b => exact .bl _ b
  | int d i => exact .int _ i
  | str d x => exact .str _ x
  | tup e1 e2 _ ih => exact .tup e1 e2 ih
  | lst a1 a2 e1 e2 _ ih => exact .lst a1 a2 e1 e2 ih
theorem same_loop {P : Pg} {f k : Nat} {h : PH} {v w : PV} {l r : List PV} (e1 : l.length = r.length) (e2 : r.length < 1000000) (gx : ∀ i, getIx h v (.int i) = atI l i) (gy : ∀ i, getIx h w (.int i) = atI r i)
    (ih : ∀ (i : Nat) (x y : PV), l[i]? = some x → r[i]? = some y → run P (k + 1) f [x, y] h = .ok (.bl true) h) : ∃ x2, loopF (forB (.name 2) (xss P (run P (k + 1)) (run P k) (.cons (.ite (.not (.call f (.cons (.idx (.var 0) (.var 2)) (.cons (.idx (.var 1) (.var 2)) .nil)) [])) (.cons (.ret (.cst (.bl false))) .nil) .nil) .nil)))
      (.vals (rngV 0 (r.length : Int))) r.length 0 [some v, some w, none] h = .nx [some v, some w, x2] h := by
  obtain ⟨σ', h', e, x2, hs, hh⟩ := loopF_rule (body := forB (.name 2) (xss P (run P (k + 1)) (run P k) (.cons (.ite (.not (.call f (.cons (.idx (.var 0) (.var 2)) (.cons (.idx (.var 1) (.var 2)) .nil)) [])) (.cons (.ret (.cst (.bl false))) .nil) .nil) .nil))) (s := .vals (rngV 0 (r.length : Int))) (l := rngV 0 (r.length : Int))
    (fun i σ h1 => ∃ x2, σ = [some v, some w, x2] ∧ h1 = h) (fun i σ h1 _ => rfl) (fun i x σ h1 hx ⟨x2, hs, hh⟩ => by
      obtain ⟨rfl, hi⟩ := rngV_get hx
      subst hs; subst hh
      have hi' : i < r.length := by omega
      have y1 : l[i]? = some (l[i]'(by omega)) := List.getElem?_eq_getElem _
      have y2 : r[i]? = some r[i] := List.getElem?_eq_getElem _
      refine ⟨_, h1, .inl ?_, ⟨some (.int (0 + i)), rfl, rfl⟩⟩
      simp [gx, gy, atI_nat y1, atI_nat y2, ih i _ _ y1 y2]) r.length 0 _ h (by rw [rngV_length]; simp) ⟨none, rfl, rfl⟩
  subst hs; subst hh
  exact ⟨x2, e⟩
theorem same_spec {P : Pg} {f : Nat} (hf : P.fn f = some ⟨2, 3, b_same f⟩) {h : PH} {d : Nat} {v w : PV} (s : Sm h d v w) : ∀ k, run P (k + d + 2) f [v, w] h = .ok (.bl true) h := by
  induction s with
  | non d => intro k; rw [run_def hf rfl]; simp [b_same]
  | bl d b => intro k; rw [run_def hf rfl]; cases b <;> simp [b_same]
  | int d i => intro k; rw [run_def hf rfl]; simp [b_same]
  | str d x => intro k; rw [run_def hf rfl]; simp [b_same]
  | @tup d l r e1 e2 _ ih =>
    intro k
    rw [show k + (d + 1) + 2 = (k + d + 1) + 2 by omega, run_def hf rfl]
    obtain ⟨x2, e⟩ := same_loop (P := P) (f := f) (k := k + d + 1) (h := h) (v := .tup l) (w := .tup r) e1 e2 (fun i => rfl) (fun i => rfl) fun i x y h1 h2 => ih i x y h1 h2 k
    have hin : inR (r.length : Int) = true := by simp [inR]; omega
    simp [b_same, e1, hin, e]
  | @lst d a b l r a1 a2 e1 e2 _ ih =>
    intro k
    rw [show k + (d + 1) + 2 = (k + d + 1) + 2 by omega, run_def hf rfl]
    obtain ⟨x2, e⟩ := same_loop (P := P) (f := f) (k := k + d + 1) (h := h) (v := .ref a) (w := .ref b) e1 e2 (fun i => ix_lst (seqOf_lst a1) i) (fun i => ix_lst (seqOf_lst a2) i) fun i x y h1 h2 => ih i x y h1 h2 k
    have hin : inR (r.length : Int) = true := by simp [inR]; omega
    simp [b_same, e1, hin, e, isT_lst a1, isT_lst a2, blt_len (seqOf_lst a1), blt_len (seqOf_lst a2)]
end Fx
namespace Fx
open PySem L2
/-- the values that hold nothing -/
def flatS : PV → Bool
  | .non => true
  | .bl _ => true
  | .int _ => true
  | .str _ => true
  | _ => false
theorem sm_flat {h : PH} {v : PV} (f : flatS v = true) (d : Nat) : Sm h d v v := by
  cases v with
  | non => exact .non d
  | bl b => exact .bl d b
  | int i => exact .int d i
  | str x => exact .str d x
  | _ => cases f
theorem sm_tup {h : PH} {l : List PV} (f : l.all flatS = true) (hl : l.length < 1000000) (d : Nat) : Sm h (d + 1) (.tup l) (.tup l) := .tup rfl hl fun i x y e1 e2 => by
  rw [e1] at e2
  cases e2
  exact sm_flat (List.all_eq_true.mp f x (List.mem_of_getElem? e1)) d
theorem same_flat {P : Pg} {f : Nat} (hf : P.fn f = some ⟨2, 3, b_same f⟩) {v : PV} (fv : flatS v = true) (k : Nat) (h : PH) : run P (k + 2) f [v, v] h = .ok (.bl true) h := same_spec hf (sm_flat fv 0) k
theorem same_tup {P : Pg} {f : Nat} (hf : P.fn f = some ⟨2, 3, b_same f⟩) {l : List PV} (fl : l.all flatS = true) (hl : l.length < 1000000) (k : Nat) (h : PH) : run P (k + 3) f [.tup l, .tup l] h = .ok (.bl true) h := same_spec hf (sm_tup fl hl 0) k
theorem cut_mem {l : List PV} {lo hi : Option Int} {x : PV} (h : x ∈ cutP l lo hi) : x ∈ l := List.mem_of_mem_drop (List.mem_of_mem_take h)
theorem cut_len (l : List PV) (lo hi : Option Int) : (cutP l lo hi).length ≤ l.length := by
  unfold cutP
  rw [List.length_take, List.length_drop]
  omega
theorem mem_ints {l : List Int} {x : PV} (h : x ∈ l.map PV.int) : ∃ i ∈ l, x = .int i := by
  obtain ⟨i, hi, rfl⟩ := List.mem_map.mp h
  exact ⟨i, hi, rfl⟩
end Fx

namespace Lw
open PySem PySem.Spec PyProof.Rows L2 Fx PySem.W PySem.Calls
abbrev R : PySem.W.OpenRow := PySem.W.OpenLaw.row PySem.Challenge.rw_fardesk_k75_keyforms_read_back
def top (i : Nat) : Stmt := R.prog.main.body.getD i (.Pass ⟨0, 0, 0, 0⟩)
def meth (i j : Nat) : Stmt := (C8.clsBody (top i)).getD j (.Pass ⟨0, 0, 0, 0⟩)
def b_kind_of : Ss := (.cons (.ite (.or (.cmp .lt (.var 0) (.cst (.int 32))) (.chain .le .le (.cst (.int 127)) (.var 0) (.cst (.int 159)))) (.cons (.ret (.cst (.str "control"))) .nil) .nil) (.cons (.ite (.cmp .ge (.var 0) (.cst (.int 192))) (.cons (.ret (.cst (.str "wide"))) .nil) .nil) (.cons (.ret (.cst (.str "narrow"))) .nil)))
def b_is_key : Ss := (.cons (.ite (.isi (.var 0) .str) (.cons (.ret (.call 1 (.cons (.var 0) .nil) [])) .nil) .nil) (.cons (.ret (.cmp .ne (.call 0 (.cons (.var 0) .nil) []) (.cst (.str "control")))) .nil))
def b_key_codes : Ss := (.cons (.ite (.isi (.var 0) .int) (.cons (.ret (.tup (.cons (.cst (.int 0)) (.cons (.var 0) .nil)))) .nil) .nil) (.cons (.ret (.tup (.cons (.cst (.int 1)) (.cons (.tidx [(.str "enter"), (.str "tab"), (.str "back"), (.str "escape"), (.str "up"), (.str "down"), (.str "right"), (.str "left"), (.str "home"), (.str "end"), (.str "insert"), (.str "delete"), (.str "page up"), (.str "page down")] (.var 0)) .nil)))) .nil))
def b_key_of : Ss := (.cons (.mtch (.var 0) (.cons (.seq [(.val (.int 0)), (.cap 1)]) (.cons (.ret (.ite (.call 2 (.cons (.var 1) .nil) []) (.var 1) (.cst .non))) .nil) (.cons (.seq [(.val (.int 1)), (.cap 2)]) (.cons (.ret (.ite (.cmp .lt (.var 2) (.blt .len (.cons (.cst (.tup [(.str "enter"), (.str "tab"), (.str "back"), (.str "escape"), (.str "up"), (.str "down"), (.str "right"), (.str "left"), (.str "home"), (.str "end"), (.str "insert"), (.str "delete"), (.str "page up"), (.str "page down")])) .nil))) (.idx (.cst (.tup [(.str "enter"), (.str "tab"), (.str "back"), (.str "escape"), (.str "up"), (.str "down"), (.str "right"), (.str "left"), (.str "home"), (.str "end"), (.str "insert"), (.str "delete"), (.str "page up"), (.str "page down")])) (.var 2)) (.cst .non))) .nil) (.cons (.atom .wild) (.cons (.ret (.cst .non)) .nil) .nil)))) .nil)
def b__law_draws : Ss := (.cons (.set 2 (.lst .nil)) (.cons (.set 3 (.blt .int (.cons (.var 0) .nil))) (.cons (.ite (.cmp .ge (.var 3) (.bin .pow (.cst (.int 10)) (.cst (.int 18)))) (.cons (.forr (.name 4) (.rng1 (.var 1)) (.cons (.ite (.cmp .gt (.var 3) (.cst (.int 0))) (.cons (.expr (.lm .append (.var 2) (.cons (.bin .mod (.blt .int (.cons (.var 3) .nil)) (.cst (.int 1000))) .nil))) (.cons (.set 3 (.bin .fdiv (.var 3) (.cst (.int 1000)))) .nil)) .nil) .nil)) .nil) .nil) (.cons (.set 5 (.bin .mod (.blt .int (.cons (.bin .add (.bin .mul (.blt .int (.cons (.var 0) .nil)) (.cst (.int 48271))) (.cst (.int 11))) .nil)) (.cst (.int 2147483647)))) (.cons (.forr (.name 4) (.rng1 (.var 1)) (.cons (.set 5 (.bin .mod (.blt .int (.cons (.bin .add (.bin .add (.bin .mul (.var 5) (.cst (.int 48271))) (.bin .mul (.var 4) (.cst (.int 69621)))) (.cst (.int 7))) .nil)) (.cst (.int 2147483647)))) (.cons (.ite (.cmp .lt (.blt .len (.cons (.var 2) .nil)) (.var 1)) (.cons (.expr (.lm .append (.var 2) (.cons (.bin .mod (.blt .int (.cons (.bin .mod (.blt .int (.cons (.bin .add (.bin .mul (.var 5) (.cst (.int 69621))) (.cst (.int 5))) .nil)) (.cst (.int 2147483629))) .nil)) (.cst (.int 1000))) .nil))) .nil) .nil) .nil))) (.cons (.ret (.var 2)) .nil))))))
def b__law_same : Ss := (.cons (.ite (.cmp .is (.var 1) (.cst .non)) (.cons (.ret (.cmp .is (.var 0) (.cst .non))) .nil) .nil) (.cons (.ite (.cmp .is (.var 1) (.cst (.bl true))) (.cons (.ret (.cmp .is (.var 0) (.cst (.bl true)))) .nil) .nil) (.cons (.ite (.cmp .is (.var 1) (.cst (.bl false))) (.cons (.ret (.cmp .is (.var 0) (.cst (.bl false)))) .nil) .nil) (.cons (.ite (.isi (.var 1) .int) (.cons (.ret (.and (.isi (.var 0) .int) (.and (.not (.isi (.var 0) .bool)) (.cmp .eq (.var 0) (.var 1))))) .nil) .nil) (.cons (.ite (.isi (.var 1) .str) (.cons (.ret (.and (.isi (.var 0) .str) (.cmp .eq (.var 0) (.var 1)))) .nil) .nil) (.cons (.ite (.and (.isi (.var 1) .tuple) (.not (.isi (.var 0) .tuple))) (.cons (.ret (.cst (.bl false))) .nil) .nil) (.cons (.ite (.and (.isi (.var 1) .list) (.not (.isi (.var 0) .list))) (.cons (.ret (.cst (.bl false))) .nil) .nil) (.cons (.ite (.cmp .ne (.blt .len (.cons (.var 0) .nil)) (.blt .len (.cons (.var 1) .nil))) (.cons (.ret (.cst (.bl false))) .nil) .nil) (.cons (.forr (.name 2) (.rng1 (.blt .len (.cons (.var 1) .nil))) (.cons (.ite (.not (.call 6 (.cons (.idx (.var 0) (.var 2)) (.cons (.idx (.var 1) (.var 2)) .nil)) [])) (.cons (.ret (.cst (.bl false))) .nil) .nil) .nil)) (.cons (.ret (.cst (.bl true))) .nil))))))))))
def b__law_names : Ss := (.cons (.ret (.lst (.cons (.cst (.str "enter")) (.cons (.cst (.str "tab")) (.cons (.cst (.str "back")) (.cons (.cst (.str "escape")) (.cons (.cst (.str "up")) (.cons (.cst (.str "down")) (.cons (.cst (.str "right")) (.cons (.cst (.str "left")) (.cons (.cst (.str "home")) (.cons (.cst (.str "end")) (.cons (.cst (.str "insert")) (.cons (.cst (.str "delete")) (.cons (.cst (.str "page up")) (.cons (.cst (.str "page down")) .nil)))))))))))))))) .nil)
def b__law_due : Ss := (.cons (.ite (.cmp .ne (.blt .len (.cons (.var 0) .nil)) (.cst (.int 2))) (.cons (.ret (.cst .non)) .nil) .nil) (.cons (.ite (.and (.cmp .eq (.idx (.var 0) (.cst (.int 0))) (.cst (.int 0))) (.or (.cmp .gt (.idx (.var 0) (.cst (.int 1))) (.cst (.int 159))) (.and (.cmp .gt (.idx (.var 0) (.cst (.int 1))) (.cst (.int 31))) (.cmp .lt (.idx (.var 0) (.cst (.int 1))) (.cst (.int 127)))))) (.cons (.ret (.idx (.var 0) (.cst (.int 1)))) .nil) .nil) (.cons (.ite (.and (.cmp .eq (.idx (.var 0) (.cst (.int 0))) (.cst (.int 1))) (.cmp .lt (.idx (.var 0) (.cst (.int 1))) (.cst (.int 14)))) (.cons (.ret (.idx (.call 7 .nil []) (.idx (.var 0) (.cst (.int 1))))) .nil) .nil) (.cons (.ret (.cst .non)) .nil))))
def b_law : Ss := (.cons (.set 1 (.call 7 .nil [])) (.cons (.forr (.name 2) (.rng1 (.cst (.int 14))) (.cons (.ite (.or (.not (.call 6 (.cons (.call 3 (.cons (.idx (.var 1) (.var 2)) .nil) []) (.cons (.tup (.cons (.cst (.int 1)) (.cons (.var 2) .nil))) .nil)) [])) (.not (.call 6 (.cons (.call 4 (.cons (.tup (.cons (.cst (.int 1)) (.cons (.var 2) .nil))) .nil) []) (.cons (.idx (.var 1) (.var 2)) .nil)) []))) (.cons (.ret (.cst (.bl false))) .nil) .nil) .nil)) (.cons (.forr (.name 3) (.seq (.bin .add (.lrng1 (.cst (.int 256))) (.blt .list (.cons (.var 0) .nil)))) (.cons (.set 4 (.bin .mod (.blt .int (.cons (.var 3) .nil)) (.cst (.int 256)))) (.cons (.set 5 (.call 8 (.cons (.tup (.cons (.cst (.int 0)) (.cons (.var 4) .nil))) .nil) [])) (.cons (.ite (.not (.call 6 (.cons (.call 4 (.cons (.tup (.cons (.cst (.int 0)) (.cons (.var 4) .nil))) .nil) []) (.cons (.var 5) .nil)) [])) (.cons (.ret (.cst (.bl false))) .nil) .nil) (.cons (.ite (.and (.cmp .isnot (.var 5) (.cst .non)) (.not (.call 6 (.cons (.call 3 (.cons (.var 4) .nil) []) (.cons (.tup (.cons (.cst (.int 0)) (.cons (.var 4) .nil))) .nil)) []))) (.cons (.ret (.cst (.bl false))) .nil) .nil) (.cons (.set 6 (.call 5 (.cons (.var 3) (.cons (.cst (.int 5)) .nil)) [])) (.cons (.set 7 (.blt .tuple (.cons (.lc [2, 9] (.names [2, 9]) (.enum (.slc (.var 6) .none (.some (.bin .mod (.blt .int (.cons (.idx (.var 6) (.cst (.int 4))) .nil)) (.cst (.int 4)))))) .none (.bin .mod (.blt .int (.cons (.var 9) .nil)) (.idx (.lst (.cons (.cst (.int 3)) (.cons (.cst (.int 256)) (.cons (.cst (.int 256)) .nil)))) (.bin .mod (.var 2) (.cst (.int 3)))))) .nil))) (.cons (.forr (.name 8) (.seq (.lst (.cons (.var 7) (.cons (.tup (.cons (.cst (.int 1)) (.cons (.bin .mod (.blt .int (.cons (.idx (.var 6) (.cst (.int 0))) .nil)) (.cst (.int 20))) .nil))) (.cons (.tup (.cons (.cst (.int 2)) (.cons (.var 4) .nil))) (.cons (.tup (.cons (.cst (.int 0)) .nil)) (.cons (.tup .nil) .nil))))))) (.cons (.ite (.not (.call 6 (.cons (.call 4 (.cons (.var 8) .nil) []) (.cons (.call 8 (.cons (.var 8) .nil) []) .nil)) [])) (.cons (.ret (.cst (.bl false))) .nil) .nil) .nil)) .nil)))))))) (.cons (.ret (.cst (.bl true))) .nil))))
def dDefs : List (Nat × DF) := [(0, ⟨("kind_of", none), "kind_of", top 1, ["character"], ["character"], some ⟨1, 1, b_kind_of⟩⟩),
  (1, ⟨("is_name", none), "is_name", top 6, ["key"], ["key"], none⟩),
  (2, ⟨("is_key", none), "is_key", top 7, ["value"], ["value"], some ⟨1, 1, b_is_key⟩⟩),
  (3, ⟨("key_codes", none), "key_codes", top 10, ["key"], ["key"], some ⟨1, 1, b_key_codes⟩⟩),
  (4, ⟨("key_of", none), "key_of", top 11, ["codes", "character", "place"], ["codes"], some ⟨1, 3, b_key_of⟩⟩),
  (5, ⟨("_law_draws", none), "_law_draws", top 13, ["_law_cell", "_law_many", "_law_rows", "_law_rest", "_law_k", "_law_state"], ["_law_cell", "_law_many"], some ⟨2, 6, b__law_draws⟩⟩),
  (6, ⟨("_law_same", none), "_law_same", top 14, ["_law_told", "_law_due_here", "_law_k"], ["_law_told", "_law_due_here"], some ⟨2, 3, b__law_same⟩⟩),
  (7, ⟨("_law_names", none), "_law_names", top 15, [], [], some ⟨0, 0, b__law_names⟩⟩),
  (8, ⟨("_law_due", none), "_law_due", top 16, ["_law_codes"], ["_law_codes"], some ⟨1, 1, b__law_due⟩⟩),
  (9, ⟨("law", none), "law", top 17, ["_law_script", "_law_names_here", "_law_k", "_law_cell", "_law_character", "_law_due_here", "_law_draws_here", "_law_codes", "_law_row", "_law_n"], ["_law_script"], some ⟨1, 10, b_law⟩⟩)]
def dGv : List (PySem.Str × GV) := List.append ([("kind_of", .fn 0 [[]]),
  ("is_name", .fn 1 [[]]),
  ("is_key", .fn 2 [[]]),
  ("key_codes", .fn 3 [[]]),
  ("key_of", .fn 4 [[]]),
  ("_law_draws", .fn 5 [[]]),
  ("_law_same", .fn 6 [[]]),
  ("_law_names", .fn 7 [[]]),
  ("_law_due", .fn 8 [[]]),
  ("law", .fn 9 [[]]),
  ("KEY_NAMES", .val (.tup [(.str "enter"), (.str "tab"), (.str "back"), (.str "escape"), (.str "up"), (.str "down"), (.str "right"), (.str "left"), (.str "home"), (.str "end"), (.str "insert"), (.str "delete"), (.str "page up"), (.str "page down")])),
  ("bool", .bi),
  ("enumerate", .bi),
  ("int", .bi),
  ("isinstance", .bi),
  ("len", .bi),
  ("list", .bi),
  ("range", .bi)]) ([("str", .bi),
  ("tuple", .bi)])
def D : Desc where
  defs := dDefs
  cls := []
  gv := dGv
  nms := []
  mns := []
  mts := []
  inis := []
  fls := []
  exi := []
  subs := []
abbrev lawIx : Nat := 17
abbrev lawFn : Nat := 9
def loose : List PySem.Str := ["kind_of",
  "SINGLE",
  "MOVING",
  "NUMBERED",
  "is_name",
  "is_key",
  "KEY_NAMES",
  "key_codes",
  "key_of",
  "_law_draws",
  "_law_same",
  "_law_names",
  "_law_due"]
abbrev qv : Program := PySem.W.view R.prog [lawIx]
theorem wf : D.wf = true := by kernel_rfl
abbrev hk : PySem.W.Hook := He.hookX 4 D.fa D.fn [] [] D.ex
def ob (s : PySem.W.SharedT) : He.AlX := He.obsX 4 D.fa D.fn [] [] D.ex (HandSHeadRun.getT s)
theorem ob_eq (s : PySem.W.SharedT) : ob s = hk.obs s.abs := He.obsX_eq (HandSHeadRun.getT_eq s)
theorem run_eq (w : World) : HandSHeadRun.RunEq R qv hk ob 1000 loose w :=
  PySem.W.byRow2 (P := fun w => HandSHeadRun.RunEq R qv hk ob 1000 loose w) "special-get-raises" (fun w os => by kernel_rfl) (fun w os => by kernel_rfl) w
theorem head (law : ∀ ns : List Int, ns.length ≤ 63 → ∃ h', Fx.run D.pg 200 lawFn [.ref 0] (Fx.scriptH ns) = .ok (.bl true) h') : PySem.Challenge.rw_fardesk_k75_keyforms_read_back.Holds := by
  w_on; o_law
  refine HandSHeadRun.head_any (r := PySem.W.OpenLaw.row PySem.Challenge.rw_fardesk_k75_keyforms_read_back) (q := PySem.W.view (PySem.W.OpenLaw.row PySem.Challenge.rw_fardesk_k75_keyforms_read_back).prog [lawIx]) (H := hk) (ob := ob) (M := 1000) (loose := loose) (d := HandSHeadRun.topDef (PySem.W.OpenLaw.row PySem.Challenge.rw_fardesk_k75_keyforms_read_back).prog lawIx) (kwd := []) ob_eq
    (by kernel_rfl) (fun s => by kernel_rfl) run_eq (by kernel_rfl) (by kernel_rfl) (by kernel_rfl) (by rfl) (by first | assumption | decide +kernel) (by decide +kernel) ⟨rfl, rfl, rfl, rfl, rfl, by decide +kernel⟩ ?hw ?hc
  case hw => w_witness2
  case hc =>
    exact Fx.lawEnd (D := D) (l := PySem.Challenge.rw_fardesk_k75_keyforms_read_back) (m := 63) (k := 200) (f := lawFn) (y := "_law_script") rfl (by decide) (by kernel_rfl) ⟨rfl, by decide, by decide⟩ wf rfl rfl rfl rfl (by kernel_rfl) law
end Lw

namespace Lw
open Fx PySem L2
theorem fn0 : D.pg.fn 0 = some ⟨1, 1, b_kind_of⟩ := rfl
theorem fn2 : D.pg.fn 2 = some ⟨1, 1, b_is_key⟩ := rfl
theorem fn3 : D.pg.fn 3 = some ⟨1, 1, b_key_codes⟩ := rfl
theorem fn4 : D.pg.fn 4 = some ⟨1, 3, b_key_of⟩ := rfl
theorem fn5 : D.pg.fn 5 = some ⟨2, 6, b_draws⟩ := rfl
theorem fn6 : D.pg.fn 6 = some ⟨2, 3, b_same 6⟩ := rfl
theorem fn7 : D.pg.fn 7 = some ⟨0, 0, b__law_names⟩ := rfl
theorem fn8 : D.pg.fn 8 = some ⟨1, 1, b__law_due⟩ := rfl
theorem fn9 : D.pg.fn 9 = some ⟨1, 10, b_law⟩ := rfl
def okc (c : Int) : Bool := !(decide (c < 32) || (decide (127 ≤ c) && decide (c ≤ 159)))
def nameL : List Str := ["enter", "tab", "back", "escape", "up", "down", "right", "left", "home", "end", "insert", "delete", "page up", "page down"]
theorem kind_of_spec (k : Nat) (c : Int) (h : PH) : run D.pg (k + 2) 0 [.int c] h = .ok (.str (if okc c = true then (if 192 ≤ c then "wide" else "narrow") else "control")) h := by
  rw [run_def fn0 rfl]
  by_cases h1 : c < 32
  · simp [b_kind_of, okc, h1]
  · by_cases h2 : 127 ≤ c <;> by_cases h3 : c ≤ 159 <;> by_cases h4 : 192 ≤ c <;> simp [b_kind_of, okc, h1, h2, h3, h4]
theorem is_key_spec (k : Nat) (c : Int) (h : PH) : run D.pg (k + 3) 2 [.int c] h = .ok (.bl (okc c)) h := by
  rw [show k + 3 = (k + 1) + 2 by omega, run_def fn2 rfl]
  by_cases h1 : okc c = true
  · by_cases h4 : 192 ≤ c
    · simp [b_is_key, kind_of_spec, h1, h4]
      decide
    · simp [b_is_key, kind_of_spec, h1, h4]
      decide
  · simp [b_is_key, kind_of_spec, h1]
theorem codes_int (k : Nat) (c : Int) (h : PH) : run D.pg (k + 2) 3 [.int c] h = .ok (.tup [.int 0, .int c]) h := by
  rw [run_def fn3 rfl]
  simp [b_key_codes]
theorem codes_str (k : Nat) (i : Nat) (x : Str) (hx : nameL[i]? = some x) (h : PH) : run D.pg (k + 2) 3 [.str x] h = .ok (.tup [.int 1, .int i]) h := by
  rw [run_def fn3 rfl]
  have hi : i < 14 := by
    obtain ⟨hl, _⟩ := List.getElem?_eq_some_iff.mp hx
    exact hl
  have : i = 0 ∨ i = 1 ∨ i = 2 ∨ i = 3 ∨ i = 4 ∨ i = 5 ∨ i = 6 ∨ i = 7 ∨ i = 8 ∨ i = 9 ∨ i = 10 ∨ i = 11 ∨ i = 12 ∨ i = 13 := by omega
  rcases this with rfl | rfl | rfl | rfl | rfl | rfl | rfl | rfl | rfl | rfl | rfl | rfl | rfl | rfl <;> (cases hx; simp [b_key_codes]; rfl)
def keyV (l : List Int) : PV := match l with
  | [a, b] => if a = 0 then (if okc b = true then .int b else .non) else if a = 1 then (if b < 14 then (match nameL[b.toNat]? with | some x => .str x | none => .non) else .non) else .non
  | _ => .non
theorem names_at {b : Int} (h0 : 0 ≤ b) (h1 : b < 14) : ∃ x, nameL[b.toNat]? = some x ∧ atI (nameL.map PV.str) b = some (.str x) := by
  have hl : b.toNat < nameL.length := by show b.toNat < 14; omega
  refine ⟨nameL[b.toNat], List.getElem?_eq_getElem hl, ?_⟩
  have e : (nameL.map PV.str)[b.toNat]? = some (.str nameL[b.toNat]) := by rw [List.getElem?_map, List.getElem?_eq_getElem hl]; rfl
  have := Fx.atI_nat e
  rwa [Int.toNat_of_nonneg h0] at this
theorem key_of_spec (k : Nat) (l : List Int) (h0 : ∀ x ∈ l, 0 ≤ x) (h : PH) : run D.pg (k + 4) 4 [.tup (l.map .int)] h = .ok (keyV l) h := by
  rw [show k + 4 = (k + 2) + 2 by omega, run_def fn4 rfl]
  match l, h0 with
  | [], _ => simp [b_key_of, keyV]
  | [a], _ => simp [b_key_of, keyV]
  | a :: b :: c :: r, _ => simp [b_key_of, keyV]
  | [a, b], h0 =>
    by_cases ha : a = 0
    · subst ha
      by_cases hb : okc b = true
      · simp [b_key_of, keyV, mEach_cons, mCat, is_key_spec, hb]
      · simp [b_key_of, keyV, mEach_cons, mCat, is_key_spec, hb]
    · by_cases ha1 : a = 1
      · subst ha1
        by_cases hb : b < 14
        · obtain ⟨x, e1, e2⟩ := names_at (h0 b (by simp)) hb
          have e2' : atI ([.str "enter", .str "tab", .str "back", .str "escape", .str "up", .str "down", .str "right", .str "left", .str "home", .str "end", .str "insert", .str "delete", .str "page up", .str "page down"] : List PV) b = some (.str x) := e2
          simp [b_key_of, keyV, mEach_cons, mCat, hb, e1, e2']
        · simp [b_key_of, keyV, mEach_cons, mCat, hb]
      · simp [b_key_of, keyV, mEach_cons, mCat, ha, ha1]
theorem names_spec (k : Nat) (h : PH) : run D.pg (k + 2) 7 [] h = .ok (.ref h.n) (h.new (.lst (nameL.map .str))) := by
  rw [run_def fn7 rfl]
  simp [b__law_names, nameL]
theorem due_spec (k : Nat) (l : List Int) (h0 : ∀ x ∈ l, 0 ≤ x) (h : PH) : ∃ h', run D.pg (k + 3) 8 [.tup (l.map .int)] h = .ok (keyV l) h' ∧ Ext h h' := by
  rw [show k + 3 = (k + 1) + 2 by omega, run_def fn8 rfl]
  match l, h0 with
  | [], _ => exact ⟨h, by simp [b__law_due, keyV], Ext.refl h⟩
  | [a], _ => exact ⟨h, by simp [b__law_due, keyV], Ext.refl h⟩
  | a :: b :: c :: r, _ =>
    refine ⟨h, ?_, Ext.refl h⟩
    have : ¬ ((r.length : Int) + 1 + 1 + 1 = 2) := by omega
    simp [b__law_due, keyV, this]
  | [a, b], h0 =>
    have at0 : ∀ x y : PV, atI [x, y] 0 = some x := fun _ _ => rfl
    have at1 : ∀ x y : PV, atI [x, y] 1 = some y := fun _ _ => rfl
    by_cases ha : a = 0
    · subst ha
      refine ⟨h, ?_, Ext.refl h⟩
      by_cases c1 : 159 < b
      · have : okc b = true := by simp [okc]; omega
        simp [b__law_due, keyV, at0, at1, c1, this]
      · by_cases c2 : 31 < b
        · by_cases c3 : b < 127
          · have : okc b = true := by simp [okc]; omega
            simp [b__law_due, keyV, at0, at1, c1, c2, c3, this]
          · have : okc b = false := by simp [okc]; omega
            simp [b__law_due, keyV, at0, at1, c1, c2, c3, this]
        · have : okc b = false := by simp [okc]; omega
          simp [b__law_due, keyV, at0, at1, c1, c2, this]
    · by_cases ha1 : a = 1
      · subst ha1
        by_cases hb : b < 14
        · obtain ⟨x, e1, e2⟩ := names_at (h0 b (by simp)) hb
          have e3 : getIx (h.new (.lst (nameL.map PV.str))) (.ref h.n) (.int b) = some (.str x) := by rw [ix_lst (seqOf_lst PH.get_new_same)]; exact e2
          exact ⟨h.new (.lst (nameL.map .str)), by simp [b__law_due, keyV, at0, at1, hb, e1, names_spec, e3], Ext.new h _⟩
        · exact ⟨h, by simp [b__law_due, keyV, at0, at1, hb], Ext.refl h⟩
      · exact ⟨h, by simp [b__law_due, keyV, at0, at1, ha, ha1], Ext.refl h⟩
end Lw

namespace Lw
open Fx PySem L2
theorem same_f (k : Nat) {v : PV} (fv : flatS v = true) (h : PH) : run D.pg (k + 2) 6 [v, v] h = .ok (.bl true) h := same_flat fn6 fv k h
theorem same_t (k : Nat) {l : List PV} (fl : l.all flatS = true) (hl : l.length < 1000000) (h : PH) : run D.pg (k + 3) 6 [.tup l, .tup l] h = .ok (.bl true) h := same_tup fn6 fl hl k h
theorem keyV_flat (l : List Int) : flatS (keyV l) = true := by
  unfold keyV
  split
  · split
    · split <;> rfl
    · split
      · split
        · split <;> rfl
        · rfl
      · rfl
  · rfl
abbrev b1 : Ss := (.cons (.ite (.or (.not (.call 6 (.cons (.call 3 (.cons (.idx (.var 1) (.var 2)) .nil) []) (.cons (.tup (.cons (.cst (.int 1)) (.cons (.var 2) .nil))) .nil)) [])) (.not (.call 6 (.cons (.call 4 (.cons (.tup (.cons (.cst (.int 1)) (.cons (.var 2) .nil))) .nil) []) (.cons (.idx (.var 1) (.var 2)) .nil)) []))) (.cons (.ret (.cst (.bl false))) .nil) .nil) .nil)
theorem loop1 (h : PH) (hg : h.get 1 = some (.lst (nameL.map .str))) : ∃ x2, loopF (forB (.name 2) (xss D.pg (run D.pg 199) (run D.pg 198) b1)) (.vals (rngV 0 14)) 14 0 [some (.ref 0), some (.ref 1), none, none, none, none, none, none, none, none] h
    = .nx [some (.ref 0), some (.ref 1), x2, none, none, none, none, none, none, none] h := by
  obtain ⟨σ', h', e, x2, hs, hh⟩ := loopF_rule (body := forB (.name 2) (xss D.pg (run D.pg 199) (run D.pg 198) b1)) (s := .vals (rngV 0 14)) (l := rngV 0 14)
    (fun i σ h1 => ∃ x2, σ = [some (.ref 0), some (.ref 1), x2, none, none, none, none, none, none, none] ∧ h1 = h) (fun _ _ _ _ => rfl) (fun i x σ h1 hx ⟨x2, hs, hh⟩ => by
      obtain ⟨rfl, hi⟩ := rngV_get hx
      subst hs; subst hh
      have hi' : i < 14 := by omega
      obtain ⟨z, e1, e2⟩ := names_at (b := i) (by omega) (by omega)
      have e1' : nameL[i]? = some z := by simpa using e1
      have gi : getIx h1 (.ref 1) (.int i) = some (.str z) := by rw [ix_lst (seqOf_lst hg)]; exact e2
      have ko := key_of_spec 195 [1, (i : Int)] (by intro x hx; simp at hx; omega) h1
      have kv : keyV [1, (i : Int)] = .str z := by
        have : (i : Int) < 14 := by omega
        simp [keyV, this, e1']
      rw [kv] at ko
      have ko' : run D.pg 199 4 [.tup [.int 1, .int i]] h1 = .ok (.str z) h1 := ko
      have kc := codes_str 197 i z e1' h1
      have s1 := same_t 196 (l := [.int 1, .int i]) rfl (by simp) h1
      have s2 := same_f 197 (v := .str z) rfl h1
      refine ⟨_, h1, .inl ?_, ⟨some (.int (0 + i)), rfl, rfl⟩⟩
      simp [gi, kc, ko', s1, s2]) 14 0 _ h rfl ⟨none, rfl, rfl⟩
  subst hs; subst hh
  exact ⟨x2, e⟩
/-- a row of ints is told alike -/
theorem row_ok (l : List Int) (h0 : ∀ x ∈ l, 0 ≤ x) (h : PH) : ∃ h', run D.pg 199 4 [.tup (l.map .int)] h = .ok (keyV l) h ∧ run D.pg 199 8 [.tup (l.map .int)] h = .ok (keyV l) h' ∧ Ext h h' ∧ run D.pg 199 6 [keyV l, keyV l] h' = .ok (.bl true) h' := by
  obtain ⟨h', e, x⟩ := due_spec 196 l h0 h
  exact ⟨h', key_of_spec 195 l h0 h, e, x, same_f 197 (keyV_flat l) h'⟩
abbrev b3 : Ss := (.cons (.ite (.not (.call 6 (.cons (.call 4 (.cons (.var 8) .nil) []) (.cons (.call 8 (.cons (.var 8) .nil) []) .nil)) [])) (.cons (.ret (.cst (.bl false))) .nil) .nil) .nil)
theorem loop3 (rows : List (List Int)) (hr : ∀ l ∈ rows, ∀ x ∈ l, 0 ≤ x) (a : Nat) (h : PH) (hg : h.get a = some (.lst (rows.map fun l => .tup (l.map .int)))) (s0 s1 s2 s3 s4 s5 s6 s7 s8 s9 : Option PV) :
    ∃ x8 h', loopF (forB (.name 8) (xss D.pg (run D.pg 199) (run D.pg 198) b3)) (.live a) rows.length 0 [s0, s1, s2, s3, s4, s5, s6, s7, s8, s9] h = .nx [s0, s1, s2, s3, s4, s5, s6, s7, x8, s9] h' ∧ Ext h h' := by
  obtain ⟨σ', h', e, x8, hs, hh⟩ := loopF_rule (body := forB (.name 8) (xss D.pg (run D.pg 199) (run D.pg 198) b3)) (s := .live a) (l := rows.map fun l => .tup (l.map .int))
    (fun i σ h1 => ∃ x8, σ = [s0, s1, s2, s3, s4, s5, s6, s7, x8, s9] ∧ Ext h h1) (fun i σ h1 ⟨_, _, hE⟩ => by simp [nxt, seqOf_lst (hE.get hg)]) (fun i x σ h1 hx ⟨x8, hs, hE⟩ => by
      rw [List.getElem?_map] at hx
      obtain ⟨l, el, rfl⟩ := Option.map_eq_some_iff.mp hx
      subst hs
      obtain ⟨h2, e1, e2, hE2, e3⟩ := row_ok l (hr l (List.mem_of_getElem? el)) h1
      refine ⟨_, h2, .inl ?_, ⟨some (.tup (l.map .int)), rfl, hE.trans hE2⟩⟩
      simp [e1, e2, e3]) rows.length 0 _ h (by simp) ⟨s8, rfl, Ext.refl h⟩
  subst hs
  exact ⟨x8, h', e, hh⟩
abbrev b2 : Ss := (.cons (.set 4 (.bin .mod (.blt .int (.cons (.var 3) .nil)) (.cst (.int 256)))) (.cons (.set 5 (.call 8 (.cons (.tup (.cons (.cst (.int 0)) (.cons (.var 4) .nil))) .nil) [])) (.cons (.ite (.not (.call 6 (.cons (.call 4 (.cons (.tup (.cons (.cst (.int 0)) (.cons (.var 4) .nil))) .nil) []) (.cons (.var 5) .nil)) [])) (.cons (.ret (.cst (.bl false))) .nil) .nil) (.cons (.ite (.and (.cmp .isnot (.var 5) (.cst .non)) (.not (.call 6 (.cons (.call 3 (.cons (.var 4) .nil) []) (.cons (.tup (.cons (.cst (.int 0)) (.cons (.var 4) .nil))) .nil)) []))) (.cons (.ret (.cst (.bl false))) .nil) .nil) (.cons (.set 6 (.call 5 (.cons (.var 3) (.cons (.cst (.int 5)) .nil)) [])) (.cons (.set 7 (.blt .tuple (.cons (.lc [2, 9] (.names [2, 9]) (.enum (.slc (.var 6) .none (.some (.bin .mod (.blt .int (.cons (.idx (.var 6) (.cst (.int 4))) .nil)) (.cst (.int 4)))))) .none (.bin .mod (.blt .int (.cons (.var 9) .nil)) (.idx (.lst (.cons (.cst (.int 3)) (.cons (.cst (.int 256)) (.cons (.cst (.int 256)) .nil)))) (.bin .mod (.var 2) (.cst (.int 3)))))) .nil))) (.cons (.forr (.name 8) (.seq (.lst (.cons (.var 7) (.cons (.tup (.cons (.cst (.int 1)) (.cons (.bin .mod (.blt .int (.cons (.idx (.var 6) (.cst (.int 0))) .nil)) (.cst (.int 20))) .nil))) (.cons (.tup (.cons (.cst (.int 2)) (.cons (.var 4) .nil))) (.cons (.tup (.cons (.cst (.int 0)) .nil)) (.cons (.tup .nil) .nil))))))) (.cons (.ite (.not (.call 6 (.cons (.call 4 (.cons (.var 8) .nil) []) (.cons (.call 8 (.cons (.var 8) .nil) []) .nil)) [])) (.cons (.ret (.cst (.bl false))) .nil) .nil) .nil)) .nil)))))))
abbrev celt : E := (.bin .mod (.blt .int (.cons (.var 9) .nil)) (.idx (.lst (.cons (.cst (.int 3)) (.cons (.cst (.int 256)) (.cons (.cst (.int 256)) .nil)))) (.bin .mod (.var 2) (.cst (.int 3)))))
/-- the codes that a law draws -/
theorem codes_loop (σ : Sl) (hσ : σ.length = 10) (a : Nat) (l : List Int) (h : PH) (hg : h.get a = some (.lst (l.map .int))) (hl : l.length < 1000) :
    ∃ (r : List Int) (h' : PH), loopC (cBody [2, 9] (.names [2, 9]) (evt D.pg (run D.pg 199) (run D.pg 198) .none) (ev D.pg (run D.pg 199) (run D.pg 198) celt) σ) (.lenum a) l.length 0 [] h = .ok (r.map .int) h' ∧ Ext h h' ∧ ∀ x ∈ r, 0 ≤ x := by
  obtain ⟨acc, h', e, r, hacc, hE, hr, _⟩ := loopC_rule (body := cBody [2, 9] (.names [2, 9]) (evt D.pg (run D.pg 199) (run D.pg 198) .none) (ev D.pg (run D.pg 199) (run D.pg 198) celt) σ) (s := .lenum a) (l := (List.range l.length).map fun (i : Nat) => .tup [.int i, .int (l[i]?.getD 0)])
    (fun i acc h1 => ∃ r : List Int, acc = r.map .int ∧ Ext h h1 ∧ (∀ x ∈ r, 0 ≤ x) ∧ r.length = i) (fun i acc h1 ⟨r, _, hE, _, _⟩ => by
      show ((seqOf h1 (.ref a)).map fun l => l[i]?.map fun x => PV.tup [.int (i : Int), x]) = _
      rw [seqOf_lst (hE.get hg)]
      simp only [Option.map_some, List.getElem?_map]
      congr 1
      by_cases hi : i < l.length
      · rw [List.getElem?_eq_getElem hi, List.getElem?_range hi]
        simp [List.getElem?_eq_getElem hi]
      · rw [List.getElem?_eq_none (by omega), List.getElem?_eq_none (by simp; omega)]
        rfl) (fun i x acc h1 hx ⟨r, hacc, hE, hr, hlen⟩ => by
      rw [List.getElem?_map] at hx
      obtain ⟨i', ei, rfl⟩ := Option.map_eq_some_iff.mp hx
      obtain ⟨hi, ei2⟩ := List.getElem?_eq_some_iff.mp ei
      rw [List.getElem_range] at ei2
      subst ei2
      simp at hi
      have m3 : (i : Int) % 3 = 0 ∨ (i : Int) % 3 = 1 ∨ (i : Int) % 3 = 2 := by omega
      obtain ⟨z0, z1, z2, z3, z4, z5, z6, z7, z8, z9, rfl⟩ : ∃ z0 z1 z2 z3 z4 z5 z6 z7 z8 z9, σ = [z0, z1, z2, z3, z4, z5, z6, z7, z8, z9] := by
        match σ, hσ with
        | [z0, z1, z2, z3, z4, z5, z6, z7, z8, z9], _ => exact ⟨z0, z1, z2, z3, z4, z5, z6, z7, z8, z9, rfl⟩
      have at3 : ∀ x y z : PV, atI [x, y, z] 0 = some x ∧ atI [x, y, z] 1 = some y ∧ atI [x, y, z] 2 = some z := fun _ _ _ => ⟨rfl, rfl, rfl⟩
      have key : ∃ d : Int, 0 < d ∧ getIx (h1.new (.lst [.int 3, .int 256, .int 256])) (.ref h1.n) (.int ((i : Int) % 3)) = some (.int d) := by
        have e := fun j => ix_lst (seqOf_lst (PH.get_new_same (h := h1) (o := .lst [.int 3, .int 256, .int 256]))) j
        rcases m3 with m | m | m
        · exact ⟨3, by omega, by rw [e, m]; exact (at3 _ _ _).1⟩
        · exact ⟨256, by omega, by rw [e, m]; exact (at3 _ _ _).2.1⟩
        · exact ⟨256, by omega, by rw [e, m]; exact (at3 _ _ _).2.2⟩
      obtain ⟨d, hd, ed⟩ := key
      refine ⟨some (.int (l[i]?.getD 0 % d)), h1.new (.lst [.int 3, .int 256, .int 256]), ?_, ?_, r ++ [l[i]?.getD 0 % d], by rw [hacc, app_map], hE.trans (Ext.new _ _), fun x hx => ?_, by simp [hlen]⟩
      · simp [cBody, ed, hd]
      · rw [hacc, List.length_map, hlen]
        simp
        omega
      · rcases List.mem_append.mp hx with hx | hx
        · exact hr x hx
        · rw [List.mem_singleton.mp hx]; exact Int.emod_nonneg _ (by omega)) l.length 0 [] h (by simp) ⟨[], rfl, Ext.refl h, fun x hx => by simp at hx, rfl⟩
  exact ⟨r, h', by rw [e, hacc], hE, hr⟩
theorem cut_ints (l : List Int) (lo hi : Option Int) : ∃ r : List Int, cutP (l.map PV.int) lo hi = r.map .int ∧ r.length ≤ l.length := by
  unfold cutP
  rw [List.length_map, ← List.map_drop, ← List.map_take]
  exact ⟨_, rfl, by rw [List.length_take, List.length_drop]; omega⟩
theorem turn (c : Int) (h : PH) (s0 s2 s3 s4 s5 s6 s7 s8 s9 : Option PV) : ∃ σ' h', forB (.name 3) (xss D.pg (run D.pg 199) (run D.pg 198) b2) (.int c) [s0, some (.ref 1), s2, s3, s4, s5, s6, s7, s8, s9] h = .nx σ' h' ∧ Ext h h' ∧ ∃ t2 t3 t4 t5 t6 t7 t8 t9, σ' = [s0, some (.ref 1), t2, t3, t4, t5, t6, t7, t8, t9] := by
  obtain ⟨h2, k1, k2, hE2, k3⟩ := row_ok [0, c % 256] (by intro x hx; simp at hx; omega) h
  have k1' := key_of_spec 195 [0, c % 256] (by intro x hx; simp at hx; omega) h2
  simp only [List.map_cons, List.map_nil] at k1 k2 k1'
  have k4 := codes_int 197 (c % 256) h2
  have k5 := same_t 196 (l := [.int 0, .int (c % 256)]) rfl (by simp) h2
  obtain ⟨h3, e3, hE3, hn3, hg3⟩ := draws_spec (k := 197) fn5 c 5 (by omega) h2
  have e3' : run D.pg 199 5 [.int c, .int 5] h2 = .ok (.ref h2.n) h3 := e3
  have hlen := drawsF_len c 5
  have hdig := drawsF_dig c 5
  generalize drawsF c 5 = ds at hg3 hlen hdig
  obtain ⟨d0, d1, d2, d3, d4, rfl⟩ : ∃ d0 d1 d2 d3 d4, ds = [d0, d1, d2, d3, d4] := by
    match ds, hlen with
    | [d0, d1, d2, d3, d4], _ => exact ⟨d0, d1, d2, d3, d4, rfl⟩
  have i0 : ∀ h', Ext h3 h' → getIx h' (.ref h2.n) (.int 0) = some (.int d0) := fun h' x => by rw [ix_lst (seqOf_lst (x.get hg3))]; rfl
  have i4 : ∀ h', Ext h3 h' → getIx h' (.ref h2.n) (.int 4) = some (.int d4) := fun h' x => by rw [ix_lst (seqOf_lst (x.get hg3))]; rfl
  obtain ⟨r, er, hrl⟩ := cut_ints [d0, d1, d2, d3, d4] none (some (d4 % 4))
  have sl := slice_lst hg3 none (some (d4 % 4))
  rw [er] at sl
  have g4 : (h3.new (.lst (r.map PV.int))).get h3.n = some (.lst (r.map .int)) := PH.get_new_same
  obtain ⟨q, h5, e5, hE5, hq⟩ := codes_loop [s0, some (.ref 1), s2, some (.int c), some (.int (c % 256)), some (keyV [0, c % 256]), some (.ref h2.n), s7, s8, s9] rfl h3.n r _ g4 (by simp at hrl; omega)
  have f4 : fuelOf (.lenum h3.n) (h3.new (.lst (r.map PV.int))) = r.length := by rw [fuel_enum (seqOf_lst g4), List.length_map]
  have g6 : (h5.new (.lst (q.map PV.int))).get h5.n = some (.lst (q.map .int)) := PH.get_new_same
  have x6 : Ext h3 (h5.new (.lst (q.map PV.int))) := ((Ext.new h3 _).trans hE5).trans (Ext.new h5 _)
  have g7 : ((h5.new (.lst (q.map PV.int))).new (.lst [.tup (q.map .int), .tup [.int 1, .int (d0 % 20)], .tup [.int 2, .int (c % 256)], .tup [.int 0], .tup []])).get (h5.new (.lst (q.map PV.int))).n = some (.lst ([q, [1, d0 % 20], [2, c % 256], [0], []].map fun l => .tup (l.map .int))) := PH.get_new_same
  obtain ⟨x8, h8, e8, hE8⟩ := loop3 [q, [1, d0 % 20], [2, c % 256], [0], []] (by
    intro l hl
    simp at hl
    rcases hl with rfl | rfl | rfl | rfl | rfl
    · exact hq
    · intro x hx; simp at hx; omega
    · intro x hx; simp at hx; omega
    · intro x hx; simp at hx; omega
    · intro x hx; simp at hx) _ _ g7 s0 (some (.ref 1)) s2 (some (.int c)) (some (.int (c % 256))) (some (keyV [0, c % 256])) (some (.ref h2.n)) (some (.tup (q.map .int))) s8 s9
  change loopF _ _ 5 0 _ _ = _ at e8
  have f7 := fuel_live (seqOf_lst g7)
  have s7' := src_lst g7
  refine ⟨[s0, some (.ref 1), s2, some (.int c), some (.int (c % 256)), some (keyV [0, c % 256]), some (.ref h2.n), some (.tup (q.map .int)), x8, s9], h8, ?_, ((hE2.trans hE3).trans x6).trans ((Ext.new _ _).trans hE8), _, _, _, _, _, _, _, _, rfl⟩
  cases hn : isNon (keyV [0, c % 256]) <;> simp [k1, k2, k3, k1', k4, k5, e3', i0 _ (Ext.refl _), i0 _ x6, i4 _ (Ext.refl _), sl, er, enum_lst g4, f4, e5, blt_tup (seqOf_lst g6), s7', f7, e8, hn]
theorem law_ok (ns : List Int) (hl : ns.length ≤ 63) : ∃ h', run D.pg 200 9 [.ref 0] (scriptH ns) = .ok (.bl true) h' := by
  rw [run_def (k := 198) fn9 rfl]
  have n1 := names_spec 197 (scriptH ns)
  have g1 : ((scriptH ns).new (.lst (nameL.map .str))).get 1 = some (.lst (nameL.map .str)) := PH.get_new_same (h := scriptH ns)
  have hn : (scriptH ns).n = 1 := rfl
  rw [hn] at n1
  obtain ⟨x2, e1⟩ := loop1 _ g1
  have g0 : (scriptH ns).get 0 = some (.rol (ns.map .int)) := rfl
  generalize scriptH ns = h0 at n1 g1 hn g0 e1 ⊢
  generalize hh1 : h0.new (.lst (nameL.map .str)) = h1 at n1 g1 e1
  have x1 : Ext h0 h1 := by rw [← hh1]; exact Ext.new _ _
  have gA : (h1.new (.lst (rngV 0 256))).get h1.n = some (.lst (rngV 0 256)) := PH.get_new_same
  generalize hhA : h1.new (.lst (rngV 0 256)) = hA at gA
  have xA : Ext h1 hA := by rw [← hhA]; exact Ext.new _ _
  have bl := blt_lst (seqOf_rol ((x1.trans xA).get g0))
  have gB : (hA.new (.lst (ns.map .int))).get hA.n = some (.lst (ns.map .int)) := PH.get_new_same
  generalize hhB : hA.new (.lst (ns.map PV.int)) = hB at gB bl
  have xB : Ext hA hB := by rw [← hhB]; exact Ext.new _ _
  have ad := bop_addL (xB.get gA) gB (by rw [rngV_length, List.length_map, LINE_val]; omega)
  have gC : (hB.new (.lst (rngV 0 256 ++ ns.map .int))).get hB.n = some (.lst (rngV 0 256 ++ ns.map .int)) := PH.get_new_same
  generalize hhC : hB.new (.lst (rngV 0 256 ++ ns.map PV.int)) = hC at gC ad
  have allI : ∀ x ∈ rngV 0 256 ++ ns.map PV.int, ∃ c : Int, x = .int c := fun x hx => by
    rcases List.mem_append.mp hx with hx | hx
    · unfold rngV at hx
      obtain ⟨k, _, rfl⟩ := List.mem_map.mp hx
      exact ⟨_, rfl⟩
    · obtain ⟨c, _, rfl⟩ := mem_ints hx
      exact ⟨c, rfl⟩
  obtain ⟨σ', h', e2, _, t2, t3, t4, t5, t6, t7, t8, t9, hs⟩ := loopF_rule (body := forB (.name 3) (xss D.pg (run D.pg 199) (run D.pg 198) b2)) (s := .live hB.n) (l := rngV 0 256 ++ ns.map .int)
    (fun i σ h => Ext hC h ∧ ∃ t2 t3 t4 t5 t6 t7 t8 t9, σ = [some (.ref 0), some (.ref 1), t2, t3, t4, t5, t6, t7, t8, t9]) (fun i σ h ⟨x, _⟩ => by
      show (seqOf h (.ref hB.n)).map (fun l => l[i]?) = _
      rw [seqOf_lst (x.get gC)]
      rfl) (fun i x σ h hx ⟨hE, t2, t3, t4, t5, t6, t7, t8, t9, hs⟩ => by
      obtain ⟨c, rfl⟩ := allI x (List.mem_of_getElem? hx)
      subst hs
      obtain ⟨σ', h', e, hE', r⟩ := turn c h (some (.ref 0)) t2 t3 t4 t5 t6 t7 t8 t9
      exact ⟨σ', h', .inl e, hE.trans hE', r⟩) (rngV 0 256 ++ ns.map PV.int).length 0 [some (.ref 0), some (.ref 1), x2, none, none, none, none, none, none, none] hC (by simp) ⟨Ext.refl _, x2, none, none, none, none, none, none, none, rfl⟩
  have f8 := fuel_live (seqOf_lst gC)
  have s8 := src_lst gC
  have in14 : inR 14 = true := by decide
  have in256 : inR 256 = true := by decide
  refine ⟨h', ?_⟩
  simp [b_law, n1, in14, in256, e1, hhA, bl, ad, s8]
  rw [f8, e2]
  simp
end Lw

theorem PySem.Challenge.cw_fardesk_k75_keyforms_read_back_holds : PySem.Challenge.rw_fardesk_k75_keyforms_read_back.Holds :=
  Lw.head Lw.law_ok
