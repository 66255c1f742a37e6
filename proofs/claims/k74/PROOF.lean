import PyProof.Rows.All
import HandS.ForMost
import HandS.ForExc
import HandS.TryMany
import HandS.CallSlots
import HandS.MakeKwOnly
import HandS.Flow
import HandS.IsInst
import HandS.Star
import HandS.Conv
import HandS.Style
import HandS.TupLe
import HandS.SetBool
import HandS.Strs
import HandS.HeadEnd
import HandS.Head2
import HandS.HeadHook4
import HandS.EndTab
import HandS.TupMul
import HandS.TupAny
import HandS.AnyAll
import HandS.Deep
import HandS.Dict
import HandS.More
import HandS.BoundDict
import HandS.Remove
import HandS.TupSets
import KE.KIndexOf
import KE.DataFind
import HandS.ExcInit
import HandS.ExcField
import HandS.ExcIs
import KE.KExcIs
import HandS.Codes
import PySem.Challenge.RW_fardesk_k74_programs_read
set_option Elab.async false
set_option linter.all false
set_option maxRecDepth 100000
set_option maxHeartbeats 0
/-! A small language and its pure, deterministic interpreter: values are trees, lists, dicts and instances stand at numbered places. -/
namespace Fx
open PySem L2

inductive PV where
  | non | bl (b : Bool) | int (i : Int) | str (x : Str) | tup (l : List PV) | ref (n : Nat)
  deriving Inhabited

abbrev Sl := List (Option PV)

inductive PO where
  | lst (l : List PV) | rol (l : List PV) | dic (kvs : List (Key × PV)) | ins (c : Nat) (fs : List (Nat × PV))

structure PH where
  m : Nat → Option PO
  n : Nat
  wf : ∀ i, n ≤ i → m i = none

def PH.get (h : PH) (a : Nat) : Option PO := h.m a
def PH.set (h : PH) (a : Nat) (o : PO) : PH where
  m := fun b => if b = a ∧ a < h.n then some o else h.m b
  n := h.n
  wf := fun i hi => by
    have : ¬ (i = a ∧ a < h.n) := fun ⟨e, l⟩ => by omega
    rw [if_neg this]
    exact h.wf i hi
def PH.new (h : PH) (o : PO) : PH where
  m := fun b => if b = h.n then some o else h.m b
  n := h.n + 1
  wf := fun i hi => by
    have : ¬ i = h.n := fun e => by omega
    rw [if_neg this]
    exact h.wf i (by omega)
theorem PH.get_lt {h : PH} {a : Nat} {o : PO} (e : h.get a = some o) : a < h.n := by
  rcases Nat.lt_or_ge a h.n with l | g
  · exact l
  · have := h.wf a g
    unfold PH.get at e
    rw [this] at e
    cases e
theorem PH.get_fresh (h : PH) : h.get h.n = none := h.wf _ (Nat.le_refl _)
theorem PH.get_set_same {h : PH} {a : Nat} {o o' : PO} (e : h.get a = some o') : (h.set a o).get a = some o := by
  show (if a = a ∧ a < h.n then some o else h.m a) = some o
  rw [if_pos ⟨rfl, PH.get_lt e⟩]
theorem PH.get_set_ne {h : PH} {a b : Nat} {o : PO} (e : b ≠ a) : (h.set a o).get b = h.get b := by
  show (if b = a ∧ a < h.n then some o else h.m b) = h.m b
  rw [if_neg fun q => e q.1]
theorem PH.get_new_same {h : PH} {o : PO} : (h.new o).get h.n = some o := by
  show (if h.n = h.n then some o else h.m h.n) = some o
  rw [if_pos rfl]
theorem PH.get_new_ne {h : PH} {b : Nat} {o : PO} (e : b ≠ h.n) : (h.new o).get b = h.get b := by
  show (if b = h.n then some o else h.m b) = h.m b
  rw [if_neg e]
theorem PH.get_new_lt {h : PH} {b : Nat} {o : PO} (e : b < h.n) : (h.new o).get b = h.get b := PH.get_new_ne (by omega)
theorem PH.get_new_of {h : PH} {b : Nat} {o o' : PO} (e : h.get b = some o') : (h.new o).get b = some o' := (PH.get_new_lt (PH.get_lt e)).trans e
theorem PH.set_n (h : PH) (a : Nat) (o : PO) : (h.set a o).n = h.n := rfl
theorem PH.new_n (h : PH) (o : PO) : (h.new o).n = h.n + 1 := rfl

inductive Res (α : Type) where
  | ok (a : α) (h : PH) | exc (c : Nat) (fs : List (Nat × PV)) (h : PH) | no
def Res.bind {α β : Type} (r : Res α) (f : α → PH → Res β) : Res β := match r with
  | .ok a h => f a h
  | .exc c fs h => .exc c fs h
  | .no => .no
def Res.quiet {α : Type} (r : Res α) : Res α := match r with
  | .exc _ _ _ => .no
  | r => r
theorem Res.bind_ok {α β : Type} (a : α) (h : PH) (f : α → PH → Res β) : (Res.ok a h).bind f = f a h := rfl
theorem Res.bind_exc {α β : Type} (c : Nat) (fs : List (Nat × PV)) (h : PH) (f : α → PH → Res β) : (Res.exc c fs h).bind f = .exc c fs h := rfl
theorem Res.bind_no {α β : Type} (f : α → PH → Res β) : (Res.no : Res α).bind f = .no := rfl

/-- a value that may be missing -/
def opt {α : Type} (o : Option α) (h : PH) : Res α := match o with
  | some a => .ok a h
  | none => .no
def alloc (o : PO) (h : PH) : Res PV := .ok (.ref h.n) (h.new o)

def LINE : Nat := 16777216
def FUEL : Nat := 16777216

inductive Bop | add | sub | mul | mod | fdiv | pow
  deriving DecidableEq
inductive Cop | eq | ne | lt | le | gt | ge | is | isnot | isin | notin
  deriving DecidableEq
inductive Ty | int | bool | str | tuple | list
  deriving DecidableEq
inductive Blt | len | int | tuple | list | min2 | max2 | bool | sorted
  deriving DecidableEq
inductive Lm | append | extend | index | reverse | remove | pop | insert
  deriving DecidableEq

/-- == of scalars; none where it is not told -/
def eqS : PV → PV → Option Bool
  | .non, .non => some true | .non, .int _ => some false | .int _, .non => some false | .non, .bl _ => some false | .bl _, .non => some false
  | .non, .str _ => some false | .str _, .non => some false
  | .int i, .int j => some (decide (i = j)) | .bl i, .bl j => some (i == j) | .str x, .str y => some (decide (x = y))
  | .int _, .str _ => some false | .str _, .int _ => some false | .bl _, .str _ => some false | .str _, .bl _ => some false
  | _, _ => none
/-- the flat values, as «in» compares them (no bools) -/
def flat : PV → Bool
  | .non => true | .int _ => true | .str _ => true | _ => false
def eqF : PV → PV → Bool
  | .non, .non => true | .int i, .int j => decide (i = j) | .str x, .str y => decide (x = y) | _, _ => false

mutual
def datT : PV → Option PyData
  | .non => some .none
  | .bl b => some (.bool b)
  | .int i => some (.int i)
  | .str x => some (.str x)
  | .tup l => (datTs l).map .tuple
  | .ref _ => none
def datTs : List PV → Option (List PyData)
  | [] => some []
  | x :: r => match datT x, datTs r with
    | some d, some ds => some (d :: ds)
    | _, _ => none
end
/-- .. and a list of such -/
def dat (h : PH) : PV → Option PyData
  | .ref a => match h.get a with
    | some (.lst l) => (datTs l).map .list
    | some (.rol l) => (datTs l).map .list
    | _ => none
  | v => datT v
def eqD (h : PH) (x y : PV) : Option Bool := match dat h x, dat h y with
  | some d, some e => if SeqAt.shaped d = true ∧ SeqAt.shaped e = true then some (PyData.eqv d e) else none
  | _, _ => none
def eqX (h : PH) (x y : PV) : Option Bool := match eqS x y with
  | some b => some b
  | none => eqD h x y
def smallI (i : Int) : Bool := decide (-(2 ^ 64) < i) && decide (i < 2 ^ 64)

def seqOf (h : PH) : PV → Option (List PV)
  | .tup l => some l
  | .ref a => match h.get a with
    | some (.lst l) => some l
    | some (.rol l) => some l
    | _ => none
  | _ => none
def keyOf : PV → Option Key
  | .int i => some (.inl i)
  | .str x => some (.inr x)
  | _ => none
def findK (kvs : List (Key × PV)) (k : Key) : Option PV := (kvs.find? fun kv => decide (kv.1 = k)).map (·.2)
def putKP (kvs : List (Key × PV)) (k : Key) (v : PV) : List (Key × PV) :=
  if (kvs.any fun kv => decide (kv.1 = k)) = true then kvs.map (fun kv => if kv.1 = k then (kv.1, v) else kv) else kvs ++ [(k, v)]
def putFP (f : Nat) (v : PV) : List (Nat × PV) → List (Nat × PV)
  | [] => [(f, v)]
  | (g, x) :: r => if g = f then (g, v) :: r else (g, x) :: putFP f v r

def truth (h : PH) : PV → Option Bool
  | .non => some false
  | .bl b => some b
  | .int i => some (i != 0)
  | .str x => if x.length ≤ LINE then some ((x.length : Int) != 0) else none
  | .tup l => some (!l.isEmpty)
  | .ref a => match h.get a with
    | some (.lst l) => some (!l.isEmpty)
    | some (.rol l) => some (!l.isEmpty)
    | some (.dic kvs) => some (!kvs.isEmpty)
    | _ => none

def bop (o : Bop) (x y : PV) (h : PH) : Res PV := match o, x, y with
  | .add, .int i, .int j => .ok (.int (i + j)) h
  | .add, .tup xs, .tup ys => if xs.length + ys.length ≤ LINE then .ok (.tup (xs ++ ys)) h else .no
  | .add, .ref a, .ref b => match h.get a, h.get b with
    | some (.lst xs), some (.lst ys) => if xs.length + ys.length ≤ LINE then alloc (.lst (xs ++ ys)) h else .no
    | _, _ => .no
  | .sub, .int i, .int j => .ok (.int (i - j)) h
  | .mul, .int i, .int j => if smallI i ∨ smallI j then .ok (.int (i * j)) h else .no
  | .mod, .int i, .int j => if 0 < j then .ok (.int (i % j)) h else .no
  | .fdiv, .int i, .int j => if 0 < j ∧ j < 1073741824 then .ok (.int (i / j)) h else .no
  | .pow, .int i, .int j => if 0 ≤ j ∧ j ≤ 1000000 ∧ i.natAbs < 2 ^ 64 then .ok (.int (i ^ j.toNat)) h else .no
  | _, _, _ => .no

/-- x in y -/
def inF (h : PH) (x y : PV) : Option Bool := if flat x then match seqOf h y with
    | some l => if l.all flat then some (l.any fun z => eqF z x) else none
    | none => none
    else none
def inD (h : PH) (x y : PV) : Option Bool := match dat h x, dat h y with
  | some d, some (.list ds) => if SeqAt.shaped d = true ∧ SeqAt.shaped (.list ds) = true then some (ds.any fun z => PyData.eqv z d) else none
  | _, _ => none
def inK (h : PH) (x y : PV) : Option Bool := match keyOf x, y with
  | some k, .ref a => match h.get a with
    | some (.dic kvs) => some (findK kvs k).isSome
    | _ => none
  | _, _ => none
def inX (h : PH) (x y : PV) : Option Bool := match inF h x y with
  | some b => some b
  | none => match inD h x y with
    | some b => some b
    | none => inK h x y
/-- a comparison's answer -/
def cop (o : Cop) (x y : PV) (h : PH) : Option Bool := match o, x, y with
  | .eq, x, y => eqX h x y
  | .ne, x, y => (eqX h x y).map fun b => !b
  | .lt, .int i, .int j => some (decide (i < j))
  | .le, .int i, .int j => some (decide (i ≤ j))
  | .gt, .int i, .int j => some (decide (j < i))
  | .ge, .int i, .int j => some (decide (j ≤ i))
  | .is, .non, .non => some true
  | .is, _, .non => some false
  | .is, .bl a, .bl b => some (a == b)
  | .is, .non, .bl _ => some false
  | .is, .int _, .bl _ => some false
  | .is, .str _, .bl _ => some false
  | .is, .tup _, .bl _ => some false
  | .is, .ref _, .bl _ => some false
  | .isnot, .non, .non => some false
  | .isnot, _, .non => some true
  | .isin, x, y => inX h x y
  | .notin, x, y => (inX h x y).map fun b => !b
  | _, _, _ => none

def isT (h : PH) (t : Ty) (x : PV) : Option Bool := match x with
  | .non => some false
  | .bl _ => some (match t with | .int => true | .bool => true | _ => false)
  | .int _ => some (match t with | .int => true | _ => false)
  | .str _ => some (match t with | .str => true | _ => false)
  | .tup _ => some (match t with | .tuple => true | _ => false)
  | .ref a => match h.get a with
    | some (.lst _) => some (match t with | .list => true | _ => false)
    | some (.dic _) => some false
    | _ => none

def getIx (h : PH) (x i : PV) : Option PV := match i with
  | .int k => match seqOf h x with
    | some l => atI l k
    | none => match x with
      | .ref a => match h.get a with
        | some (.dic kvs) => findK kvs (.inl k)
        | _ => none
      | _ => none
  | .str z => match x with
    | .ref a => match h.get a with
      | some (.dic kvs) => findK kvs (.inr z)
      | _ => none
    | _ => none
  | _ => none
/-- the bounds of a slice -/
def cutP (xs : List PV) (lo hi : Option Int) : List PV := (xs.drop (HT.sIx xs.length 0 lo)).take (HT.sIx xs.length xs.length hi - HT.sIx xs.length 0 lo)
def slice (x : PV) (lo hi : Option Int) (h : PH) : Res PV := match x with
  | .tup l => .ok (.tup (cutP l lo hi)) h
  | .ref a => match h.get a with
    | some (.lst l) => alloc (.lst (cutP l lo hi)) h
    | some (.rol l) => alloc (.lst (cutP l lo hi)) h
    | _ => .no
  | _ => .no

def intsOf : List PV → Option (List Int)
  | [] => some []
  | .int i :: r => (intsOf r).map (i :: ·)
  | _ :: _ => none
def insI (i : Int) : List Int → List Int
  | [] => [i]
  | j :: r => if i ≤ j then i :: j :: r else j :: insI i r
def sortI : List Int → List Int
  | [] => []
  | i :: r => insI i (sortI r)
def metI (l : List Int) (x : Int) : List Int := if l.any (· == x) then l else l ++ [x]
def dedup : List Int → List Int
  | [] => []
  | i :: r => if r.contains i then dedup r else i :: dedup r

def blt (b : Blt) (vs : List PV) (h : PH) : Res PV := match b, vs with
  | .len, [.str z] => if z.length ≤ LINE then .ok (.int z.length) h else .no
  | .len, [x] => match seqOf h x with
    | some l => .ok (.int l.length) h
    | none => .no
  | .int, [.int i] => .ok (.int i) h
  | .int, [.bl b] => .ok (.int (if b then 1 else 0)) h
  | .bool, [.int i] => .ok (.bl (i != 0)) h
  | .bool, [.bl b] => .ok (.bl b) h
  | .tuple, [x] => match seqOf h x with
    | some l => .ok (.tup l) h
    | none => .no
  | .list, [x] => match seqOf h x with
    | some l => alloc (.lst l) h
    | none => .no
  | .min2, [.int i, .int j] => .ok (.int (if j < i then j else i)) h
  | .max2, [.int i, .int j] => .ok (.int (if j > i then j else i)) h
  | .sorted, [.ref a] => match h.get a with
    | some (.lst l) => match intsOf l with
      | some ns => if ns.length < 64 then alloc (.lst ((sortI ns).map .int)) h else .no
      | none => .no
    | _ => .no
  | _, _ => .no

/-- the first place of a value -/
def indexP (x : PV) : List PV → Option Nat
  | [] => none
  | y :: r => if eqF y x then some 0 else (indexP x r).map (· + 1)

def lstAt (h : PH) : PV → Option Unit
  | .ref a => match h.get a with
    | some (.lst _) => some ()
    | some (.rol _) => some ()
    | _ => none
  | _ => none
/-- without the first that is equal -/
def remP (d : PyData) : List PV → Option (List PV)
  | [] => none
  | z :: r => match datT z with
    | some e => if PyData.eqv e d = true then some r else (remP d r).map (z :: ·)
    | none => none
def lmeth (m : Lm) (o : PV) (vs : List PV) (h : PH) : Res PV := match m, o, vs with
  | .append, .ref a, [v] => match h.get a with
    | some (.lst l) => if l.length < LINE then .ok .non (h.set a (.lst (l ++ [v]))) else .no
    | _ => .no
  | .extend, .ref a, [.ref b] => match h.get a, h.get b with
    | some (.lst l), some (.lst r) => if a ≠ b ∧ l.length + r.length ≤ LINE then .ok .non (h.set a (.lst (l ++ r))) else .no
    | _, _ => .no
  | .index, .ref a, [x] => if flat x then match seqOf h (.ref a) with
    | some l => if l.all flat then match indexP x l with
      | some j => .ok (.int j) h
      | none => .no
      else .no
    | none => .no
    else .no
  | .reverse, .ref a, [] => match h.get a with
    | some (.lst l) => .ok .non (h.set a (.lst l.reverse))
    | _ => .no
  | .pop, .ref a, [] => match h.get a with
    | some (.lst l) => match l[l.length - 1]? with
      | some y => .ok y (h.set a (.lst l.dropLast))
      | none => .no
    | _ => .no
  | .insert, .ref a, [.int i, y] => match h.get a with
    | some (.lst l) => if l.length < LINE ∧ 0 ≤ i ∧ i < 2 ^ 62 then .ok .non (h.set a (.lst (l.take i.toNat ++ y :: l.drop i.toNat))) else .no
    | _ => .no
  | .remove, .ref a, [x] => match h.get a, datT x with
    | some (.lst l), some d => match datTs l with
      | some ds => if SeqAt.shaped d = true ∧ SeqAt.shaped (.list ds) = true then match remP d l with
        | some r => .ok .non (h.set a (.lst r))
        | none => .no
        else .no
      | none => .no
    | _, _ => .no
  | _, _, _ => .no

/-! ### the language -/
inductive P1 where
  | wild | cap (i : Nat) | val (v : PV)
inductive Pt where
  | atom (p : P1) | seq (ps : List P1) | seqs (ps : List P1) | ors (pss : List (List P1)) | orv (vs : List PV)
/-- targets: a name, a field, a tuple of names -/
inductive Tg where
  | name (i : Nat) | names (is : List Nat)
inductive HE where
  | cst (v : PV) | ctup (vs : List PV) | xfld (d f : Nat) | xis (d c : Nat) | eq (a b : HE) | and (a b : HE) | not (a : HE)
inductive HS where
  | pass | ret (e : HE)

mutual
inductive E where
  | var (i : Nat) | cst (v : PV)
  | bin (o : Bop) (a b : E) | neg (a : E) | not (a : E) | and (a b : E) | or (a b : E)
  | cmp (o : Cop) (a b : E) | chain (o p : Cop) (a b c : E) | ite (c a b : E)
  | tup (es : Es) | lst (es : Es) | dic (ks : List PV) (es : Es) | idx (a i : E) | slc (a : E) (lo hi : Oe) | fld (a : E) (f : Nat)
  | call (f : Nat) (es : Es) (ds : List PV) | meth (o : E) (m : Nat) (es : Es) | mk (c : Nat) (es : Es) (ds : List PV)
  | blt (b : Blt) (es : Es) | lm (m : Lm) (o : E) (es : Es) | isi (a : E) (t : Ty) | tidx (l : List PV) (a : E)
  | lc (own : List Nat) (tg : Tg) (it : It) (cnd : Oe) (elt : E)
  | callk (f : Nat) (es : Es) (ks : List Str) (kes : Es) (ds : List PV) | mkk (c : Nat) (es : Es) (ks : List Str) (kes : Es) (ds : List PV)
  | dget (a k : E) | dget2 (a k v : E) | dsetd (a k v : E)
  | sortset (i : Nat) (it : It) (cnd : Oe) | lenset (a : E) | lrng1 (a : E) | listrng (a b : E) | all (i : Nat) (it : It) (elt : E)
inductive Es where
  | nil | cons (e : E) (r : Es) | star (e : E) (r : Es)
inductive Oe where
  | none | some (e : E)
inductive It where
  | seq (e : E) | rng1 (a : E) | rng (a b : E) | enum (e : E)
end
mutual
inductive S where
  | pass | brk | cont | retN | expr (e : E) | set (i : Nat) (e : E) | fset (o : E) (f : Nat) (e : E) | iset (o i e : E)
  | tset (is : List Nat) (e : E) | par (is : List Nat) (es : Es) | ftset (i : Nat) (o : E) (f : Nat) (e : E) (sw : Bool)
  | ret (e : E) | ite (c : E) (a b : Ss) | forr (tg : Tg) (it : It) (b : Ss) | whl (c : E) (b : Ss) | whlw (i : Nat) (e : E) (b : Ss)
  | raise (c : Nat) (es : Es) | mtch (e : E) (cs : Cs) | tryx (b : Ss) (nm : Option Nat) (hs : List (Nat × HS))
inductive Ss where
  | nil | cons (s : S) (r : Ss)
inductive Cs where
  | nil | cons (p : Pt) (b : Ss) (r : Cs)
end

structure FD where
  np : Nat
  ns : Nat
  body : Ss
/-- the program: defs, methods by class and name, makers, exception classes (their one field, if any), what «except» takes -/
structure Pg where
  fn : Nat → Option FD
  mt : Nat → Nat → Option Nat
  ini : Nat → Option Nat
  exi : Nat → Option (Option Nat)
  sub : Nat → Nat → Option Bool
  fl : Nat → Nat → Bool

abbrev Rn := Nat → List PV → PH → Res PV

/-! ### iteration -/
inductive Src where
  | vals (l : List PV) | live (a : Nat) | lenum (a : Nat)
def srcOf (h : PH) : PV → Option Src
  | .tup l => some (.vals l)
  | .ref a => match h.get a with
    | some (.lst _) => some (.live a)
    | some (.rol _) => some (.live a)
    | _ => none
  | .str x => some (.vals (x.cps.toList.map fun c => .str ⟨#[c]⟩))
  | _ => none
def enumOf (h : PH) : PV → Option Src
  | .ref a => match h.get a with
    | some (.lst _) => some (.lenum a)
    | some (.rol _) => some (.lenum a)
    | _ => none
  | _ => none
def nxt (s : Src) (i : Nat) (h : PH) : Option (Option PV) := match s with
  | .vals l => some l[i]?
  | .live a => (seqOf h (.ref a)).map fun l => l[i]?
  | .lenum a => (seqOf h (.ref a)).map fun l => l[i]?.map fun x => .tup [.int (i : Int), x]
def fuelOf (s : Src) (h : PH) : Nat := match s with
  | .vals l => l.length
  | .live a => ((seqOf h (.ref a)).map List.length).getD 0
  | .lenum a => ((seqOf h (.ref a)).map List.length).getD 0

def setAll : List Nat → List PV → Sl → Option Sl
  | [], [], σ => some σ
  | i :: is, v :: vs, σ => setAll is vs (σ.set i (some v))
  | _, _, _ => none
def wipeP (σ : Sl) : List Nat → Sl
  | [] => σ
  | v :: vs => (wipeP σ vs).set v none
def bindT (t : Tg) (v : PV) (σ : Sl) : Option Sl := match t with
  | .name i => some (σ.set i (some v))
  | .names is => match v with
    | .tup l => setAll is l σ
    | _ => none
/-- the items that a comprehension makes -/
def loopC (body : PV → PH → Res (Option PV)) (s : Src) : Nat → Nat → List PV → PH → Res (List PV)
  | 0, i, acc, h => match nxt s i h with
    | some none => .ok acc h
    | _ => .no
  | n + 1, i, acc, h => match nxt s i h with
    | some none => .ok acc h
    | some (some x) => (body x h).bind fun r h1 => match r with
      | none => loopC body s n (i + 1) acc h1
      | some v => if acc.length < LINE then loopC body s n (i + 1) (acc ++ [v]) h1 else .no
    | none => .no

/-- a comprehension's turn -/
def cBody (own : List Nat) (tg : Tg) (dt : Sl → PH → Res Bool) (de : Sl → PH → Res PV) (σ : Sl) : PV → PH → Res (Option PV) := fun x h2 => (opt (bindT tg x (wipeP σ own)) h2).bind fun σ' h3 => ((dt σ' h3).quiet).bind fun b h4 => if b = true then ((de σ' h4).quiet).bind fun v h5 => .ok (some v) h5 else .ok none h4
/-- all(..) of a generator expression -/
def loopA (body : PV → PH → Res PV) (s : Src) : Nat → Nat → PH → Res Bool
  | 0, i, h => match nxt s i h with
    | some none => .ok true h
    | _ => .no
  | n + 1, i, h => match nxt s i h with
    | some none => .ok true h
    | some (some x) => (body x h).bind fun r h1 => match r with
      | .bl true => loopA body s n (i + 1) h1
      | .bl false => .ok false h1
      | _ => .no
    | none => .no
def aBody (i : Nat) (de : Sl → PH → Res PV) (σ : Sl) : PV → PH → Res PV := fun x h => (de ((wipeP σ [i]).set i (some x)) h).quiet
/-! ### expressions -/
section
variable (P : Pg) (rc rm : Rn)
def mfind (o : PV) (m : Nat) (h : PH) : Option Nat := match o with
  | .ref a => match h.get a with
    | some (.ins c _) => P.mt c m
    | _ => none
  | _ => none
def mkObj (c : Nat) (vs : List PV) (h : PH) : Res PV := match P.ini c with
  | some f => (rm f (.ref h.n :: vs) (h.new (.ins c []))).bind fun r h1 => match r with
    | .non => .ok (.ref h.n) h1
    | _ => .no
  | none => .no
def getFld (o : PV) (f : Nat) (h : PH) : Option PV := match o with
  | .ref a => match h.get a with
    | some (.ins _ fs) => fs.lookup f
    | _ => none
  | _ => none
def setFld (o : PV) (f : Nat) (v : PV) (h : PH) : Option PH := match o with
  | .ref a => match h.get a with
    | some (.ins c fs) => if fs.length < 900 ∧ P.fl c f = true then some (h.set a (.ins c (putFP f v fs))) else none
    | _ => none
  | _ => none
def setIx (o i v : PV) (h : PH) : Option PH := match o with
  | .ref a => match h.get a, i with
    | some (.lst l), .int k => match ixN l.length k with
      | some j => some (h.set a (.lst (l.set j v)))
      | none => none
    | some (.dic kvs), i => match keyOf i with
      | some k => if kvs.length < LINE then some (h.set a (.dic (putKP kvs k v))) else none
      | none => none
    | _, _ => none
  | _ => none
/-- a display's pairs, put one after another -/
def dispP : List PV → List PV → List (Key × PV) → Option (List (Key × PV))
  | [], [], kvs => some kvs
  | k :: ks, v :: vs, kvs => match keyOf k with
    | some q => dispP ks vs (putKP kvs q v)
    | none => none
  | _, _, _ => none
def dicAt (h : PH) : PV → Option Unit
  | .ref a => match h.get a with
    | some (.dic _) => some ()
    | _ => none
  | _ => none
/-- d.get(k, v) -/
def dgetP (h : PH) (x k v : PV) : Option PV := match x, keyOf k with
  | .ref a, some q => match h.get a with
    | some (.dic kvs) => some ((findK kvs q).getD v)
    | _ => none
  | _, _ => none
/-- d.setdefault(k, v) -/
def dsetP (x k v : PV) (h : PH) : Res PV := match x, keyOf k with
  | .ref a, some q => match h.get a with
    | some (.dic kvs) => match findK kvs q with
      | some w => .ok w h
      | none => if kvs.length < LINE then .ok v (h.set a (.dic (putKP kvs q v))) else .no
    | _ => .no
  | _, _ => .no
/-- a test's value -/
def tru (r : Res PV) : Res Bool := r.bind fun v h => opt (truth h v) h
def rngV (i j : Int) : List PV := (List.range (j - i).toNat).map fun (k : Nat) => .int (i + (k : Int))
def inR (i : Int) : Bool := decide (-(2 ^ 62) ≤ i) && decide (i < 2 ^ 62)

mutual
def ev : E → Sl → PH → Res PV
  | .var i, σ, h => opt (σ[i]?.join) h
  | .cst v, _, h => .ok v h
  | .bin o a b, σ, h => (ev a σ h).bind fun x h1 => (ev b σ h1).bind fun y h2 => bop o x y h2
  | .neg a, σ, h => (ev a σ h).bind fun x h1 => match x with
    | .int i => .ok (.int (-i)) h1
    | _ => .no
  | .not a, σ, h => (tru (ev a σ h)).bind fun b h1 => .ok (.bl (!b)) h1
  | .and a b, σ, h => (ev a σ h).bind fun x h1 => (opt (truth h1 x) h1).bind fun t h2 => if t = true then ev b σ h2 else .ok x h2
  | .or a b, σ, h => (ev a σ h).bind fun x h1 => (opt (truth h1 x) h1).bind fun t h2 => if t = true then .ok x h2 else ev b σ h2
  | .cmp o a b, σ, h => (ev a σ h).bind fun x h1 => (ev b σ h1).bind fun y h2 => (opt (cop o x y h2) h2).bind fun t h3 => .ok (.bl t) h3
  | .chain o p a b c, σ, h => (ev a σ h).bind fun x h1 => (ev b σ h1).bind fun y h2 => (opt (cop o x y h2) h2).bind fun t h3 =>
      if t = true then (ev c σ h3).bind fun z h4 => (opt (cop p y z h4) h4).bind fun t h5 => .ok (.bl t) h5 else .ok (.bl false) h3
  | .ite c a b, σ, h => (tru (ev c σ h)).bind fun t h1 => if t = true then ev a σ h1 else ev b σ h1
  | .tup es, σ, h => (evs es σ h).bind fun vs h1 => if vs.length ≤ LINE then .ok (.tup vs) h1 else .no
  | .lst es, σ, h => (evs es σ h).bind fun vs h1 => if vs.length ≤ LINE then alloc (.lst vs) h1 else .no
  | .dic ks es, σ, h => (evs es σ h).bind fun vs h1 => match dispP ks vs [] with
    | some kvs => alloc (.dic kvs) h1
    | none => .no
  | .callk f es ks kes ds, σ, h => (evs es σ h).bind fun vs h1 => (evs kes σ h1).bind fun zs h2 => rc f (vs ++ zs ++ ds) h2
  | .mkk c es ks kes ds, σ, h => (evs es σ h).bind fun vs h1 => (evs kes σ h1).bind fun zs h2 => mkObj P rm c (vs ++ zs ++ ds) h2
  | .dget a k, σ, h => (ev a σ h).bind fun x h1 => (opt (dicAt h1 x) h1).bind fun _ h1 => (ev k σ h1).bind fun y h2 => opt (dgetP h2 x y .non) h2
  | .dget2 a k v, σ, h => (ev a σ h).bind fun x h1 => (opt (dicAt h1 x) h1).bind fun _ h1 => (ev k σ h1).bind fun y h2 => (ev v σ h2).bind fun z h3 => opt (dgetP h3 x y z) h3
  | .dsetd a k v, σ, h => (ev a σ h).bind fun x h1 => (opt (dicAt h1 x) h1).bind fun _ h1 => (ev k σ h1).bind fun y h2 => (ev v σ h2).bind fun z h3 => dsetP x y z h3
  | .idx a i, σ, h => (ev a σ h).bind fun x h1 => (ev i σ h1).bind fun y h2 => opt (getIx h2 x y) h2
  | .slc a lo hi, σ, h => (ev a σ h).bind fun x h1 => (evo lo σ h1).bind fun l h2 => (evo hi σ h2).bind fun u h3 => slice x l u h3
  | .fld a f, σ, h => (ev a σ h).bind fun x h1 => opt (getFld x f h1) h1
  | .call f es ds, σ, h => (evs es σ h).bind fun vs h1 => rc f (vs ++ ds) h1
  | .meth o m es, σ, h => (ev o σ h).bind fun x h1 => (opt (mfind P x m h1) h1).bind fun f h2 => (evs es σ h2).bind fun vs h3 => rc f (x :: vs) h3
  | .mk c es ds, σ, h => (evs es σ h).bind fun vs h1 => mkObj P rm c (vs ++ ds) h1
  | .blt b es, σ, h => (evs es σ h).bind fun vs h1 => blt b vs h1
  | .lm m o es, σ, h => (ev o σ h).bind fun x h1 => (opt (lstAt h1 x) h1).bind fun _ h2 => (evs es σ h2).bind fun vs h3 => lmeth m x vs h3
  | .isi a t, σ, h => (ev a σ h).bind fun x h1 => (opt (isT h1 t x) h1).bind fun b h2 => .ok (.bl b) h2
  | .tidx l a, σ, h => (ev a σ h).bind fun x h1 => if flat x ∧ l.all flat then match indexP x l with
      | some j => .ok (.int j) h1
      | none => .no
      else .no
  | .lc own tg it cnd elt, σ, h => (evi it σ h).bind fun s h1 =>
      (loopC (cBody own tg (evt cnd) (ev elt) σ) s (fuelOf s h1) 0 [] h1).bind fun vs h6 => alloc (.lst vs) h6
  | .sortset i it cnd, σ, h => (evi it σ h).bind fun s h1 =>
      (loopC (fun x h2 => ((evt cnd ((σ.set i none).set i (some x)) h2).quiet).bind fun b h3 => if b = true then .ok (some x) h3 else .ok none h3)
        s (fuelOf s h1) 0 [] h1).bind fun vs h4 => match intsOf vs with
          | some ns => if ns.length < 60 then alloc (.lst ((sortI (dedup ns)).map .int)) h4 else .no
          | none => .no
  | .lenset a, σ, h => (ev a σ h).bind fun x h1 => match x with
    | .tup l => match intsOf l with
      | some ns => if ns.length < 60 then .ok (.int (ns.foldl metI []).length) h1 else .no
      | none => .no
    | _ => .no
  | .lrng1 a, σ, h => (ev a σ h).bind fun y h2 => match y with
    | .int j => if inR j = true ∧ j.toNat ≤ LINE then alloc (.lst (rngV 0 j)) h2 else .no
    | _ => .no
  | .listrng a b, σ, h => (ev a σ h).bind fun x h1 => (ev b σ h1).bind fun y h2 => match x, y with
    | .int i, .int j => if inR i = true ∧ inR j = true ∧ (j - i).toNat ≤ LINE then alloc (.lst (rngV i j)) h2 else .no
    | _, _ => .no
  | .all i it elt, σ, h => (evi it σ h).bind fun s h1 => (loopA (aBody i (ev elt) σ) s (fuelOf s h1) 0 h1).bind fun b h2 => .ok (.bl b) h2
def evs : Es → Sl → PH → Res (List PV)
  | .nil, _, h => .ok [] h
  | .cons e r, σ, h => (ev e σ h).bind fun x h1 => (evs r σ h1).bind fun xs h2 => .ok (x :: xs) h2
  | .star e r, σ, h => (ev e σ h).bind fun x h1 => (opt (seqOf h1 x) h1).bind fun ys h2 => (evs r σ h2).bind fun xs h3 => .ok (ys ++ xs) h3
def evo : Oe → Sl → PH → Res (Option Int)
  | .none, _, h => .ok none h
  | .some e, σ, h => (ev e σ h).bind fun x h1 => match x with
    | .int i => .ok (some i) h1
    | _ => .no
def evt : Oe → Sl → PH → Res Bool
  | .none, _, h => .ok true h
  | .some e, σ, h => tru (ev e σ h)
def evi : It → Sl → PH → Res Src
  | .seq e, σ, h => (ev e σ h).bind fun x h1 => opt (srcOf h1 x) h1
  | .enum e, σ, h => (ev e σ h).bind fun x h1 => opt (enumOf h1 x) h1
  | .rng1 a, σ, h => (ev a σ h).bind fun y h2 => match y with
    | .int j => if inR j = true then .ok (.vals (rngV 0 j)) h2 else .no
    | _ => .no
  | .rng a b, σ, h => (ev a σ h).bind fun x h1 => (ev b σ h1).bind fun y h2 => match x, y with
    | .int i, .int j => if inR i = true ∧ inR j = true then .ok (.vals (rngV i j)) h2 else .no
    | _, _ => .no
end
end

/-! ### statements -/
inductive SR where
  | nx (σ : Sl) (h : PH) | rt (v : PV) (h : PH) | bk (σ : Sl) (h : PH) | ct (σ : Sl) (h : PH) | ex (c : Nat) (fs : List (Nat × PV)) (σ : Sl) (h : PH) | no
def SR.seq (r : SR) (f : Sl → PH → SR) : SR := match r with
  | .nx σ h => f σ h
  | r => r
def ofRes {α : Type} (σ : Sl) (r : Res α) (f : α → PH → SR) : SR := match r with
  | .ok a h => f a h
  | .exc c fs h => .ex c fs σ h
  | .no => .no

def m1 : P1 → PV → Option (Option (List (Nat × PV)))
  | .wild, _ => some (some [])
  | .cap i, v => some (some [(i, v)])
  | .val c, v => (eqS v c).map fun b => if b = true then some [] else none
def mEach : List P1 → List PV → Option (Option (List (Nat × PV)))
  | [], [] => some (some [])
  | p :: ps, v :: vs => match m1 p v with
    | some (some b) => match mEach ps vs with
      | some (some m) => some (some (b ++ m))
      | r => r
    | r => r
  | _, _ => none
def mSeq (ps : List P1) (v : PV) : Option (Option (List (Nat × PV))) := match v with
  | .tup l => if l.length = ps.length then mEach ps l else some none
  | _ => none
def mSeqs (ps : List P1) (v : PV) : Option (Option (List (Nat × PV))) := match v with
  | .tup l => if ps.length ≤ l.length then mEach ps (l.take ps.length) else some none
  | _ => none
def mOrs (v : PV) : List (List P1) → Option (Option (List (Nat × PV)))
  | [] => some none
  | ps :: r => match mSeq ps v with
    | some none => mOrs v r
    | some (some _) => some (some [])
    | none => none
def mOrv (v : PV) : List PV → Option (Option (List (Nat × PV)))
  | [] => some none
  | c :: r => match eqS v c with
    | some true => some (some [])
    | some false => mOrv v r
    | none => none
def mtch (p : Pt) (v : PV) : Option (Option (List (Nat × PV))) := match p with
  | .atom p => m1 p v
  | .seq ps => mSeq ps v
  | .seqs ps => mSeqs ps v
  | .ors pss => mOrs v pss
  | .orv vs => mOrv v vs
def bindAll (bs : List (Nat × PV)) (σ : Sl) : Sl := bs.foldl (fun σ b => σ.set b.1 (some b.2)) σ

/-- an except suite's value -/
def evh (P : Pg) (c : Nat) (fs : List (Nat × PV)) : HE → Option PV
  | .cst v => some v
  | .ctup vs => some (.tup vs)
  | .xfld d f => if c = d then fs.lookup f else none
  | .xis d e => match fs with
    | [_] => if c = d then (P.sub c e).map .bl else none
    | _ => none
  | .eq a b => match evh P c fs a, evh P c fs b with
    | some x, some y => (eqS x y).map .bl
    | _, _ => none
  | .and a b => match evh P c fs a with
    | some (.bl true) => evh P c fs b
    | some (.bl false) => some (.bl false)
    | _ => none
  | .not a => match evh P c fs a with
    | some (.bl b) => some (.bl (!b))
    | _ => none
def wipeN (nm : Option Nat) (σ : Sl) : Sl := match nm with
  | some i => σ.set i none
  | none => σ
def hsuite (P : Pg) (c : Nat) (fs : List (Nat × PV)) (nm : Option Nat) (σ : Sl) (h : PH) : HS → SR
  | .pass => .nx (wipeN nm σ) h
  | .ret e => match evh P c fs e with
    | some v => .rt v h
    | none => .no
def handle (P : Pg) (c : Nat) (fs : List (Nat × PV)) (nm : Option Nat) (σ : Sl) (h : PH) : List (Nat × HS) → SR
  | [] => .ex c fs σ h
  | (d, e) :: r => match P.sub c d with
    | some true => hsuite P c fs nm σ h e
    | some false => handle P c fs nm σ h r
    | none => .no
def nmOk (nm : Option Nat) (σ : Sl) : Bool := match nm with
  | some i => decide (i < σ.length)
  | none => true
def tryK (P : Pg) (nm : Option Nat) (hs : List (Nat × HS)) : SR → SR
  | .ex c fs σ h => if nmOk nm σ then handle P c fs nm σ h hs else .no
  | r => r
def raiseK (P : Pg) (c : Nat) (σ : Sl) (vs : List PV) (h : PH) : SR := match P.exi c, vs with
  | some none, [] => .ex c [] σ h
  | some (some f), [v] => .ex c [(f, v)] σ h
  | _, _ => .no

/-- a for: what the body does at each item -/
def loopF (body : PV → Sl → PH → SR) (s : Src) : Nat → Nat → Sl → PH → SR
  | 0, i, σ, h => match nxt s i h with
    | some none => .nx σ h
    | _ => .no
  | n + 1, i, σ, h => match nxt s i h with
    | some none => .nx σ h
    | some (some x) => match body x σ h with
      | .nx σ1 h1 => loopF body s n (i + 1) σ1 h1
      | .ct σ1 h1 => loopF body s n (i + 1) σ1 h1
      | .bk σ1 h1 => .nx σ1 h1
      | r => r
    | none => .no
def loopW (test : Sl → PH → SR) : Nat → Sl → PH → SR
  | 0, _, _ => .no
  | n + 1, σ, h => match test σ h with
    | .nx σ1 h1 => loopW test n σ1 h1
    | .ct σ1 h1 => loopW test n σ1 h1
    | .bk σ1 h1 => .nx σ1 h1
    | r => r

/-- a for's turn, a while's turn -/
def forB (tg : Tg) (f : Sl → PH → SR) : PV → Sl → PH → SR := fun x σ' h' => match bindT tg x σ' with
  | some σ2 => f σ2 h'
  | none => .no
def whB (c : Sl → PH → Res PV) (f : Sl → PH → SR) : Sl → PH → SR := fun σ' h' => ofRes σ' (tru (c σ' h')) fun t h1 => if t = true then f σ' h1 else .bk σ' h1
section
variable (P : Pg) (rc rm : Rn)
mutual
def xs : S → Sl → PH → SR
  | .pass, σ, h => .nx σ h
  | .brk, σ, h => .bk σ h
  | .cont, σ, h => .ct σ h
  | .retN, _, h => .rt .non h
  | .expr e, σ, h => ofRes σ (ev P rc rm e σ h) fun _ h1 => .nx σ h1
  | .set i e, σ, h => ofRes σ (ev P rc rm e σ h) fun v h1 => .nx (σ.set i (some v)) h1
  | .fset o f e, σ, h => ofRes σ (ev P rc rm e σ h) fun v h1 => ofRes σ (ev P rc rm o σ h1) fun x h2 => match setFld P x f v h2 with
    | some h3 => .nx σ h3
    | none => .no
  | .iset o i e, σ, h => ofRes σ (ev P rc rm e σ h) fun v h1 => ofRes σ (ev P rc rm o σ h1) fun x h2 => ofRes σ (ev P rc rm i σ h2) fun y h3 => match setIx x y v h3 with
    | some h4 => .nx σ h4
    | none => .no
  | .tset is e, σ, h => ofRes σ (ev P rc rm e σ h) fun v h1 => match v with
    | .tup l => match setAll is l σ with
      | some σ1 => .nx σ1 h1
      | none => .no
    | _ => .no
  | .par is es, σ, h => ofRes σ (evs P rc rm es σ h) fun vs h1 => match setAll is vs σ with
    | some σ1 => .nx σ1 h1
    | none => .no
  | .ftset i o f e sw, σ, h => .no
  | .ret e, σ, h => ofRes σ (ev P rc rm e σ h) fun v h1 => .rt v h1
  | .ite c a b, σ, h => ofRes σ (tru (ev P rc rm c σ h)) fun t h1 => if t = true then xss a σ h1 else xss b σ h1
  | .forr tg it b, σ, h => ofRes σ (evi P rc rm it σ h) fun s h1 => loopF (forB tg (xss b)) s (fuelOf s h1) 0 σ h1
  | .whl c b, σ, h => loopW (whB (ev P rc rm c) (xss b)) FUEL σ h
  | .whlw i e b, σ, h => loopW (fun σ' h' => ofRes σ' (ev P rc rm e σ' h') fun v h1 => match v with
      | .non => .bk (σ'.set i (some v)) h1
      | v => xss b (σ'.set i (some v)) h1) FUEL σ h
  | .raise c es, σ, h => ofRes σ (evs P rc rm es σ h) fun vs h1 => raiseK P c σ vs h1
  | .mtch e cs, σ, h => ofRes σ (ev P rc rm e σ h) fun v h1 => xcs cs v σ h1
  | .tryx b nm hs, σ, h => tryK P nm hs (xss b σ h)
def xss : Ss → Sl → PH → SR
  | .nil, σ, h => .nx σ h
  | .cons s r, σ, h => (xs s σ h).seq fun σ1 h1 => xss r σ1 h1
def xcs : Cs → PV → Sl → PH → SR
  | .nil, _, σ, h => .nx σ h
  | .cons p b r, v, σ, h => match mtch p v with
    | some (some bs) => xss b (bindAll bs σ) h
    | some none => xcs r v σ h
    | none => .no
end
end

def fin : SR → Res PV
  | .nx _ h => .ok .non h
  | .rt v h => .ok v h
  | .ex c fs _ h => .exc c fs h
  | _ => .no
/-- a def's body over what its calls and makers do -/
def runF (P : Pg) (rc rm : Rn) : Rn := fun f args h => match P.fn f with
  | some fd => if args.length = fd.np then fin (xss P rc rm fd.body (args.map some ++ List.replicate (fd.ns - fd.np) none) h) else .no
  | none => .no
def run (P : Pg) : Nat → Rn
  | 0 => fun _ _ _ => .no
  | 1 => fun _ _ _ => .no
  | k + 2 => runF P (run P (k + 1)) (run P k)
end Fx

/-! How the small language's states stand in the model's. -/
namespace Fx
open PySem PySem.Spec PyProof.Rows L2

/-- what a program's names stand for -/
structure Glob where
  K : PySem.W.Frag
  P : Pg
  nms : List Str
  mns : List Str
  cm : Nat → Addr
  fa : Nat → Addr
  fd : Nat → FuncData
  ps : Nat → List Str
  nd : nms.Nodup
  tf : List He.Defn

abbrev Glob.tabs (G : Glob) : List Addr := G.tf.map fun p => (He.cT G.K p).2
/-- tuples and locked objects stay -/
structure Keep (H H' : Hp) : Prop where
  tup : ∀ a xs, H a = some (.tup xs) → H' a = some (.tup xs)
  frz : ∀ a o u, H a = some (.frz o u) → H' a = some (.frz o u)
theorem Keep.refl (H : Hp) : Keep H H := ⟨fun _ _ e => e, fun _ _ _ e => e⟩
theorem Keep.trans {H H1 H2 : Hp} (a : Keep H H1) (b : Keep H1 H2) : Keep H H2 := ⟨fun x xs e => b.tup x xs (a.tup x xs e), fun x o u e => b.frz x o u (a.frz x o u e)⟩
theorem Keep.new {H : Hp} {p : Addr} {o : HO} (n : H p = none) : Keep H (upd H p o) :=
  ⟨fun a xs e => by rw [upd_ne (ne_of_none e n)]; exact e, fun a o' u e => by rw [upd_ne (ne_of_none e n)]; exact e⟩
/-- an object that is neither is changed -/
def Soft : Option HO → Prop
  | some (.tup _) => False
  | some (.frz _ _) => False
  | some (.tbl _) => False
  | _ => True
theorem Keep.upd {H : Hp} {p : Addr} {o : HO} (n : Soft (H p)) : Keep H (upd H p o) :=
  ⟨fun a xs e => by
    rw [upd_ne fun z => ?_]; exact e
    subst z; rw [e] at n; exact n, fun a o' u e => by
    rw [upd_ne fun z => ?_]; exact e
    subst z; rw [e] at n; exact n⟩
theorem SqT.keep {K : PySem.W.Frag} {H H' : Hp} {a : Addr} {xs : List V} (h : SqT K H a xs) (k : Keep H H') : SqT K H' a xs := by
  rcases h with h | h
  · rcases h with h | ⟨o, h⟩
    · exact .inl (.inl (k.tup _ _ h))
    · exact .inl (.inr ⟨o, k.frz _ _ _ h⟩)
  · exact .inr h

def Le (ρ ρ' : List Addr) : Prop := ∀ (n : Nat) (a : Addr), ρ[n]? = some a → ρ'[n]? = some a
theorem Le.refl (ρ : List Addr) : Le ρ ρ := fun _ _ e => e
theorem Le.trans {ρ ρ1 ρ2 : List Addr} (a : Le ρ ρ1) (b : Le ρ1 ρ2) : Le ρ ρ2 := fun n x e => b n x (a n x e)
theorem Le.app (ρ : List Addr) (t : List Addr) : Le ρ (ρ ++ t) := fun n a e => by
  obtain ⟨h, _⟩ := List.getElem?_eq_some_iff.mp e
  rw [List.getElem?_append_left h]
  exact e

/-- what a piece of code leaves: tracked objects may change, what is not tracked stays; what comes is new -/
structure Frm (ρ : List Addr) (H : Hp) (ρ' : List Addr) (H' : Hp) : Prop extends Keep H H' where
  new : ∀ a ∈ ρ', a ∈ ρ ∨ H a = none
  same : ∀ a, a ∉ ρ → H a ≠ none → (∀ ps, H a ≠ some (.tbl ps)) → H' a = H a
  tab : ∀ a ps, H a = some (.tbl ps) → ∃ ps', H' a = some (.tbl ps') ∧ (TriplesOk ps.toList → TriplesOk ps'.toList)
instance {ρ : List Addr} {H : Hp} {ρ' : List Addr} {H' : Hp} : CoeOut (Frm ρ H ρ' H') (Keep H H') := ⟨Frm.toKeep⟩
theorem Frm.refl (ρ : List Addr) (H : Hp) : Frm ρ H ρ H := ⟨Keep.refl H, fun _ h => .inl h, fun _ _ _ _ => rfl, fun _ ps e => ⟨ps, e, id⟩⟩
theorem Frm.trans {ρ ρ1 ρ2 : List Addr} {H H1 H2 : Hp} (a : Frm ρ H ρ1 H1) (b : Frm ρ1 H1 ρ2 H2) : Frm ρ H ρ2 H2 := by
  refine ⟨a.toKeep.trans b.toKeep, fun x hx => ?_, fun x hx hn ht => ?_, fun x ps e => ?_⟩
  · rcases b.new x hx with h | h
    · exact a.new x h
    · by_cases hm : x ∈ ρ
      · exact .inl hm
      · refine .inr ?_
        by_cases hn : H x = none
        · exact hn
        · by_cases ht : ∃ ps, H x = some (.tbl ps)
          · obtain ⟨ps, e⟩ := ht
            obtain ⟨ps', e', _⟩ := a.tab x ps e
            rw [h] at e'; cases e'
          · rw [a.same x hm hn fun ps z => ht ⟨ps, z⟩] at h; exact absurd h hn
  · have h1 := a.same x hx hn ht
    rw [b.same x (fun hm => ?_) (by rw [h1]; exact hn) (by rw [h1]; exact ht), h1]
    rcases a.new x hm with h | h
    · exact hx h
    · exact hn h
  · obtain ⟨p1, e1, t1⟩ := a.tab x ps e
    obtain ⟨p2, e2, t2⟩ := b.tab x p1 e1
    exact ⟨p2, e2, fun z => t2 (t1 z)⟩
theorem Frm.lay {ρ : List Addr} {H : Hp} {p : Addr} {o : HO} (n : H p = none) : Frm ρ H ρ (upd H p o) := ⟨.new n, fun _ h => .inl h, fun a _ h _ => upd_ne fun z => h (z ▸ n), fun a ps e => ⟨ps, (upd_ne fun z => by rw [z, n] at e; cases e).trans e, id⟩⟩
theorem Frm.alloc {ρ : List Addr} {H : Hp} {p : Addr} {o : HO} (n : H p = none) : Frm ρ H (ρ ++ [p]) (upd H p o) :=
  ⟨.new n, fun a h => (List.mem_append.mp h).imp id fun z => by rw [List.mem_singleton.mp z]; exact n, fun a _ h _ => upd_ne fun z => h (z ▸ n), fun a ps e => ⟨ps, (upd_ne fun z => by rw [z, n] at e; cases e).trans e, id⟩⟩
theorem Frm.write {ρ : List Addr} {H : Hp} {p : Addr} {o : HO} (hp : p ∈ ρ) (sf : Soft (H p)) : Frm ρ H ρ (upd H p o) := ⟨.upd sf, fun _ h => .inl h, fun a h _ _ => upd_ne fun z => h (z ▸ hp), fun a ps e => ⟨ps, (upd_ne fun z => by subst z; rw [e] at sf; exact sf).trans e, id⟩⟩

mutual
inductive VR (K : PySem.W.Frag) (ρ : List Addr) (H : Hp) : PV → V → Prop
  | non : VR K ρ H .non .non
  | bl (b : Bool) : VR K ρ H (.bl b) (.bl b)
  | int (i : Int) : VR K ρ H (.int i) (.int i)
  | str (x : Str) : VR K ρ H (.str x) (.str x)
  | tup {l : List PV} {a : Addr} {vs : List V} : SqT K H a vs → VRs K ρ H l vs → VR K ρ H (.tup l) (.ref a)
  | ref {n : Nat} {a : Addr} : ρ[n]? = some a → VR K ρ H (.ref n) (.ref a)
inductive VRs (K : PySem.W.Frag) (ρ : List Addr) (H : Hp) : List PV → List V → Prop
  | nil : VRs K ρ H [] []
  | cons {p : PV} {v : V} {l : List PV} {vs : List V} : VR K ρ H p v → VRs K ρ H l vs → VRs K ρ H (p :: l) (v :: vs)
end
section
variable {K : PySem.W.Frag} {ρ ρ' : List Addr} {H H' : Hp}
mutual
theorem VR.mono (le : Le ρ ρ') (k : Keep H H') : ∀ {p : PV} {v : V}, VR K ρ H p v → VR K ρ' H' p v
  | _, _, .non => .non
  | _, _, .bl b => .bl b
  | _, _, .int i => .int i
  | _, _, .str x => .str x
  | _, _, .tup h r => .tup (SqT.keep h k) (VRs.mono le k r)
  | _, _, .ref e => .ref (le _ _ e)
theorem VRs.mono (le : Le ρ ρ') (k : Keep H H') : ∀ {l : List PV} {vs : List V}, VRs K ρ H l vs → VRs K ρ' H' l vs
  | _, _, .nil => .nil
  | _, _, .cons h r => .cons (VR.mono le k h) (VRs.mono le k r)
end
theorem VRs.length : ∀ {l : List PV} {vs : List V}, VRs K ρ H l vs → l.length = vs.length
  | _, _, .nil => rfl
  | _, _, .cons _ r => congrArg Nat.succ (VRs.length r)
theorem VRs.append : ∀ {l r : List PV} {vs ws : List V}, VRs K ρ H l vs → VRs K ρ H r ws → VRs K ρ H (l ++ r) (vs ++ ws)
  | _, _, _, _, .nil, s => s
  | _, _, _, _, .cons h t, s => .cons h (VRs.append t s)
theorem VRs.get : ∀ {l : List PV} {vs : List V} {i : Nat} {p : PV}, VRs K ρ H l vs → l[i]? = some p → ∃ v, vs[i]? = some v ∧ VR K ρ H p v
  | _, _, _, _, .nil, e => by simp at e
  | _, _, 0, _, .cons h _, e => by simp at e; subst e; exact ⟨_, rfl, h⟩
  | _, _, i + 1, p, .cons _ t, e => by
    obtain ⟨v, h1, h2⟩ := VRs.get (i := i) (p := p) t (by simpa using e)
    exact ⟨v, by simpa using h1, h2⟩
theorem VRs.none : ∀ {l : List PV} {vs : List V} {i : Nat}, VRs K ρ H l vs → l[i]? = none → vs[i]? = none := fun r e => by
  have := r.length
  have h2 := List.getElem?_eq_none_iff.mp e
  exact List.getElem?_eq_none_iff.mpr (by omega)
theorem VRs.take : ∀ {l : List PV} {vs : List V} (n : Nat), VRs K ρ H l vs → VRs K ρ H (l.take n) (vs.take n)
  | _, _, 0, _ => .nil
  | _, _, _ + 1, .nil => .nil
  | _, _, n + 1, .cons h t => .cons h (VRs.take n t)
theorem VRs.drop : ∀ {l : List PV} {vs : List V} (n : Nat), VRs K ρ H l vs → VRs K ρ H (l.drop n) (vs.drop n)
  | _, _, 0, h => h
  | _, _, _ + 1, .nil => .nil
  | _, _, n + 1, .cons _ t => VRs.drop n t
theorem VRs.set {p : PV} {v : V} (h : VR K ρ H p v) : ∀ {l : List PV} {vs : List V} (i : Nat), VRs K ρ H l vs → VRs K ρ H (l.set i p) (vs.set i v)
  | _, _, _, .nil => .nil
  | _, _, 0, .cons _ t => .cons h t
  | _, _, i + 1, .cons q t => .cons q (VRs.set h i t)
theorem VRs.reverse {l : List PV} {vs : List V} (h : VRs K ρ H l vs) : VRs K ρ H l.reverse vs.reverse := by
  induction l generalizing vs with
  | nil => cases h; exact .nil
  | cons p l ih =>
    cases h with
    | cons a b =>
      rw [List.reverse_cons, List.reverse_cons]
      exact (ih b).append (.cons a .nil)
theorem VR.int_inv {i : Int} {v : V} (h : VR K ρ H (.int i) v) : v = .int i := by cases h; rfl
theorem VR.bl_inv {b : Bool} {v : V} (h : VR K ρ H (.bl b) v) : v = .bl b := by cases h; rfl
theorem VR.str_inv {x : Str} {v : V} (h : VR K ρ H (.str x) v) : v = .str x := by cases h; rfl
theorem VR.non_inv {v : V} (h : VR K ρ H .non v) : v = .non := by cases h; rfl
theorem VR.ref_inv {n : Nat} {v : V} (h : VR K ρ H (.ref n) v) : ∃ a, v = .ref a ∧ ρ[n]? = some a := by cases h; exact ⟨_, rfl, by assumption⟩
theorem VR.tup_inv {l : List PV} {v : V} (h : VR K ρ H (.tup l) v) : ∃ a vs, v = .ref a ∧ SqT K H a vs ∧ VRs K ρ H l vs := by cases h; exact ⟨_, _, rfl, by assumption, by assumption⟩
theorem VRs.cons_inv {p : PV} {l : List PV} {vs : List V} (h : VRs K ρ H (p :: l) vs) : ∃ v r, vs = v :: r ∧ VR K ρ H p v ∧ VRs K ρ H l r := by cases h; exact ⟨_, _, rfl, by assumption, by assumption⟩
theorem VRs.nil_inv {vs : List V} (h : VRs K ρ H [] vs) : vs = [] := by cases h; rfl
theorem VRs.ints {ns : List Int} : ∀ {vs : List V}, VRs K ρ H (ns.map PV.int) vs → vs = ns.map V.int := by
  induction ns with
  | nil => intro vs h; exact h.nil_inv
  | cons n ns ih =>
    intro vs h
    obtain ⟨v, r, rfl, h1, h2⟩ := h.cons_inv
    rw [h1.int_inv, ih h2]
    rfl
theorem VRs.of_ints (ns : List Int) : VRs K ρ H (ns.map PV.int) (ns.map V.int) := by
  induction ns with
  | nil => exact .nil
  | cons n ns ih => exact .cons (.int n) ih
end

/-- pairs by a key, related -/
def KVR {κ μ : Type} (T : κ → μ → Prop) (K : PySem.W.Frag) (ρ : List Addr) (H : Hp) : List (κ × PV) → List (μ × V) → Prop := Paired fun p q => T p.1 q.1 ∧ VR K ρ H p.2 q.2
theorem KVR.mono {κ μ : Type} {T : κ → μ → Prop} {K : PySem.W.Frag} {ρ ρ' : List Addr} {H H' : Hp} (le : Le ρ ρ') (k : Keep H H') {l : List (κ × PV)} {r : List (μ × V)} (h : KVR T K ρ H l r) : KVR T K ρ' H' l r :=
  Paired.mapP h fun _ _ q => ⟨q.1, q.2.mono le k⟩

section
variable (G : Glob)
/-- an object, as it stands at a -/
def OR (ρ : List Addr) (H : Hp) (o : PO) (a : Addr) : Prop := match o with
  | .lst l => ∃ vs, H a = some (.lst vs) ∧ VRs G.K ρ H l vs
  | .rol l => ∃ vs, Rd H a (.lst vs) ∧ VRs G.K ρ H l vs
  | .dic kvs => ∃ ws, H a = some (.dK ws) ∧ KVR (· = ·) G.K ρ H kvs ws
  | .ins c fs => ∃ dx ws, H a = some (.ins (G.cm c) dx ws) ∧ Cls G.K (G.cm c) ∧ KVR (fun f name => G.nms[f]? = some name ∧ NoAttr G.K (G.cm c) name) G.K ρ H fs ws
structure HR (ρ : List Addr) (h : PH) (H : Hp) : Prop where
  len : ρ.length = h.n
  nd : ρ.Nodup
  obj : ∀ (n : Nat) (o : PO), h.get n = some o → ∃ a, ρ[n]? = some a ∧ OR G ρ H o a
  full : ∀ a ∈ ρ, H a ≠ none
  tab : ∀ p ∈ G.tabs, p ∉ ρ ∧ ∃ ps : Array Value, H p = some (.tbl ps) ∧ TriplesOk ps.toList
end
section
variable {G : Glob} {ρ ρ' : List Addr} {h : PH} {H H' : Hp}
theorem OR.carry {o : PO} {a : Addr} (x : OR G ρ H o a) (le : Le ρ ρ') (k : Keep H H') (e : H' a = H a) : OR G ρ' H' o a := by
  cases o with
  | lst l => obtain ⟨vs, h1, h2⟩ := x; exact ⟨vs, e.trans h1, h2.mono le k⟩
  | rol l => obtain ⟨vs, h1, h2⟩ := x; exact ⟨vs, h1.imp e.trans (fun ⟨o, q⟩ => ⟨o, e.trans q⟩), h2.mono le k⟩
  | dic kvs => obtain ⟨ws, h1, h2⟩ := x; exact ⟨ws, e.trans h1, h2.mono le k⟩
  | ins c fs => obtain ⟨dx, ws, h1, hc, h2⟩ := x; exact ⟨dx, ws, e.trans h1, hc, h2.mono le k⟩
theorem HR.at_ (r : HR G ρ h H) {n : Nat} {o : PO} {a : Addr} (e : h.get n = some o) (ea : ρ[n]? = some a) : OR G ρ H o a := by
  obtain ⟨b, h1, h2⟩ := r.obj n o e
  rw [ea] at h1
  cases h1
  exact h2
theorem HR.some_ (r : HR G ρ h H) {n : Nat} {o : PO} (e : h.get n = some o) : ∃ a, ρ[n]? = some a ∧ OR G ρ H o a := r.obj n o e
theorem OR.notTab {o : PO} {a : Addr} (x : OR G ρ H o a) (ps : Array Value) : H a ≠ some (.tbl ps) := fun z => by
  cases o with
  | lst l => obtain ⟨vs, h1, h2⟩ := x; rw [h1] at z; cases z
  | rol l => obtain ⟨vs, h1 | ⟨o, h1⟩, h2⟩ := x <;> (rw [h1] at z; cases z)
  | dic kvs => obtain ⟨ws, h1, h2⟩ := x; rw [h1] at z; cases z
  | ins c fs => obtain ⟨dx, ws, h1, hc, h2⟩ := x; rw [h1] at z; cases z
/-- the concrete heap has changed elsewhere -/
theorem HR.keep (r : HR G ρ h H) (k : Keep H H') (e : ∀ a ∈ ρ, H' a = H a) (t : ∀ p ∈ G.tabs, ∃ ps : Array Value, H' p = some (.tbl ps) ∧ TriplesOk ps.toList) : HR G ρ h H' :=
  ⟨r.len, r.nd, fun n o q => by
    obtain ⟨a, h1, h2⟩ := r.obj n o q
    exact ⟨a, h1, h2.carry (Le.refl _) k (e a (List.mem_of_getElem? h1))⟩, fun a ha => by rw [e a ha]; exact r.full a ha, fun p hp => ⟨(r.tab p hp).1, t p hp⟩⟩
theorem HR.fresh (r : HR G ρ h H) {p : Addr} (n : H p = none) : p ∉ ρ := fun hp => r.full p hp n
/-- something that is not tracked here is laid -/
theorem HR.other (r : HR G ρ h H) {p : Addr} {o : HO} (n : H p = none) : HR G ρ h (upd H p o) :=
  r.keep (.new n) (fun a ha => upd_ne fun z => by subst z; exact r.fresh n ha) fun q hq => by
    obtain ⟨_, ps, e, t⟩ := r.tab q hq
    exact ⟨ps, (upd_ne fun z => by rw [z, n] at e; cases e).trans e, t⟩
/-- a new object -/
theorem HR.new (r : HR G ρ h H) {p : Addr} {o : PO} {ho : HO} (n : H p = none) (hor : OR G (ρ ++ [p]) (upd H p ho) o p) : HR G (ρ ++ [p]) (h.new o) (upd H p ho) := by
  have hp := r.fresh n
  refine ⟨by rw [List.length_append, r.len]; rfl, ?_, fun i o' e => ?_, fun a ha => ?_, fun q hq => ?_⟩
  · rw [List.nodup_append]
    exact ⟨r.nd, by simp, fun a ha b hb => by simp at hb; subst hb; exact fun z => hp (z ▸ ha)⟩
  · by_cases hi : i = h.n
    · subst hi
      rw [PH.get_new_same] at e
      cases e
      refine ⟨p, ?_, hor⟩
      rw [← r.len]
      simp
    · rw [PH.get_new_ne hi] at e
      obtain ⟨a, h1, h2⟩ := r.obj i o' e
      exact ⟨a, Le.app _ _ _ _ h1, h2.carry (Le.app _ _) (.new n) (upd_ne fun z => hp (z ▸ List.mem_of_getElem? h1))⟩
  · rcases List.mem_append.mp ha with hb | hb
    · have ne : a ≠ p := fun z => hp (by rw [← z]; exact hb)
      rw [upd_ne ne]
      exact r.full a hb
    · have e : a = p := by simpa using hb
      rw [e, upd_same]
      exact fun z => nomatch z
  · obtain ⟨h1, ps, e, t⟩ := r.tab q hq
    have ne : q ≠ p := fun z => by rw [z, n] at e; cases e
    exact ⟨fun z => (List.mem_append.mp z).elim h1 fun z => ne (List.mem_singleton.mp z), ps, (upd_ne ne).trans e, t⟩
/-- an object is written -/
theorem HR.set (r : HR G ρ h H) {i : Nat} {a : Addr} {o o' : PO} {ho : HO} (e : h.get i = some o) (ea : ρ[i]? = some a) (sf : Soft (H a)) (hor : OR G ρ (upd H a ho) o' a) : HR G ρ (h.set i o') (upd H a ho) := by
  refine ⟨r.len, r.nd, fun j u ej => ?_, fun b hb => ?_, fun q hq => ?_⟩
  · by_cases hj : j = i
    · subst hj
      rw [PH.get_set_same e] at ej
      cases ej
      exact ⟨a, ea, hor⟩
    · rw [PH.get_set_ne hj] at ej
      obtain ⟨b, h1, h2⟩ := r.obj j u ej
      refine ⟨b, h1, h2.carry (Le.refl _) (.upd sf) (upd_ne fun z => hj ?_)⟩
      subst z
      obtain ⟨l1, e1⟩ := List.getElem?_eq_some_iff.mp h1
      obtain ⟨l2, e2⟩ := List.getElem?_eq_some_iff.mp ea
      exact (List.getElem_inj r.nd).mp (e1.trans e2.symm)
  · by_cases hb2 : b = a
    · rw [hb2, upd_same]
      exact fun z => nomatch z
    · rw [upd_ne hb2]
      exact r.full b hb
  · obtain ⟨h1, ps, e1, t⟩ := r.tab q hq
    exact ⟨h1, ps, (upd_ne fun z => h1 (by rw [z]; exact List.mem_of_getElem? ea)).trans e1, t⟩
end

/-! ### slots, results -/
section
variable (G : Glob)
def SlR (ρ : List Addr) (H : Hp) (sp : Sl) (σ : L2.St) : Prop := sp.length = σ.length ∧ ∀ (i : Nat) (p : PV), sp[i]? = some (some p) → ∃ v, σ[i]? = some (some v) ∧ VR G.K ρ H p v
/-- an exception: its class, its own dict -/
def ER (ρ : List Addr) (H : Hp) (c : Nat) (fs : List (Nat × PV)) (cls : Value) (d : Option Addr) : Prop := cls = .ref (G.cm c) ∧ match fs with
  | [] => True
  | [(f, p)] => ∃ dd name v, d = some dd ∧ G.nms[f]? = some name ∧ dd ∉ ρ ∧ H dd = some (.xd [(name, v)]) ∧ VR G.K ρ H p v
  | _ => False
/-- what is wanted of a result -/
def Post {α β : Type} (W : XK) (ρ : List Addr) (H : Hp) (rel : List Addr → Hp → α → β → Prop) (r : Res α) (Q : β → Hp → Prop) : Prop := match r with
  | .ok a h' => ∀ ρ' H' b, Le ρ ρ' → Frm ρ H ρ' H' → HR G ρ' h' H' → rel ρ' H' a b → Q b H'
  | .exc c fs h' => ∀ ρ' H' cls d, Le ρ ρ' → Frm ρ H ρ' H' → HR G ρ' h' H' → ER G ρ' H' c fs cls d → W cls d H'
  | .no => False
/-- what holds of a result (the other way round): used to give results -/
def relV (ρ : List Addr) (H : Hp) (p : PV) (v : V) : Prop := VR G.K ρ H p v
def relVs (ρ : List Addr) (H : Hp) (p : List PV) (v : List V) : Prop := VRs G.K ρ H p v
def relB (_ : List Addr) (_ : Hp) (p : Bool) (v : Bool) : Prop := p = v
def relOI (_ : List Addr) (_ : Hp) (p : Option Int) (v : Option Int) : Prop := p = v
end
section
variable {G : Glob} {α β γ δ : Type} {W : XK} {ρ ρ1 : List Addr} {H H1 : Hp} {rel : List Addr → Hp → α → β → Prop} {rel2 : List Addr → Hp → γ → δ → Prop} {Q : β → Hp → Prop} {Q2 : δ → Hp → Prop}
theorem SlR.mono {sp : Sl} {σ : L2.St} (s : SlR G ρ H sp σ) (le : Le ρ ρ1) (k : Keep H H1) : SlR G ρ1 H1 sp σ := ⟨s.1, fun i p e => by
  obtain ⟨v, h1, h2⟩ := s.2 i p e
  exact ⟨v, h1, h2.mono le k⟩⟩
theorem SlR.set {sp : Sl} {σ : L2.St} (s : SlR G ρ H sp σ) (i : Nat) {p : PV} {v : V} (r : VR G.K ρ H p v) : SlR G ρ H (sp.set i (some p)) (σ.set i (some v)) := by
  refine ⟨by simp [s.1], fun j q e => ?_⟩
  by_cases hj : i = j
  · subst hj
    by_cases hl : i < sp.length
    · rw [List.getElem?_set_self hl] at e
      cases e
      exact ⟨v, by rw [List.getElem?_set_self (by rw [← s.1]; exact hl)], r⟩
    · rw [List.getElem?_eq_none (by simpa using hl)] at e
      cases e
  · rw [List.getElem?_set_ne hj] at e ⊢
    exact s.2 j q e
theorem SlR.wipe {sp : Sl} {σ : L2.St} (s : SlR G ρ H sp σ) (i : Nat) : SlR G ρ H (sp.set i none) (σ.set i none) := by
  refine ⟨by simp [s.1], fun j q e => ?_⟩
  by_cases hj : i = j
  · subst hj
    by_cases hl : i < sp.length
    · rw [List.getElem?_set_self hl] at e
      cases e
    · rw [List.getElem?_eq_none (by simpa using hl)] at e
      cases e
  · rw [List.getElem?_set_ne hj] at e ⊢
    exact s.2 j q e
theorem Post.base {r : Res α} (p : Post G W ρ H rel r Q) (le : Le ρ ρ1) (k : Frm ρ H ρ1 H1) : Post G W ρ1 H1 rel r Q := by
  cases r with
  | ok a h' => exact fun ρ' H' b l2 k2 => p ρ' H' b (le.trans l2) (k.trans k2)
  | exc c fs h' => exact fun ρ' H' cls d l2 k2 => p ρ' H' cls d (le.trans l2) (k.trans k2)
  | no => exact p
theorem Post.imp {r : Res α} {Q' : β → Hp → Prop} (p : Post G W ρ H rel r Q) (f : ∀ b H', Q b H' → Q' b H') : Post G W ρ H rel r Q' := by
  cases r with
  | ok a h' => exact fun ρ' H' b l2 k2 x y => f b H' (p ρ' H' b l2 k2 x y)
  | exc c fs h' => exact p
  | no => exact p
theorem Post.bind {r : Res α} {f : α → PH → Res γ} {Q : β → Hp → Prop} (p : Post G W ρ H rel2 (r.bind f) Q2)
    (k : ∀ a h1 ρ1 H1 b, r = .ok a h1 → Le ρ ρ1 → Frm ρ H ρ1 H1 → HR G ρ1 h1 H1 → rel ρ1 H1 a b → Post G W ρ1 H1 rel2 (f a h1) Q2 → Q b H1) : Post G W ρ H rel r Q := by
  cases r with
  | ok a h1 => exact fun ρ1 H1 b le kp hr rl => k a h1 ρ1 H1 b rfl le kp hr rl (Post.base (show Post G W ρ H rel2 (f a h1) Q2 from p) le kp)
  | exc c fs h1 => exact p
  | no => exact p
/-- a value given at once -/
theorem Post.now {a : α} {h : PH} {b : β} (p : Post G W ρ H rel (.ok a h) Q) (hr : HR G ρ h H) (r : rel ρ H a b) : Q b H := p ρ H b (Le.refl _) (Frm.refl _ _) hr r
theorem Post.opt {o : Option α} {h : PH} (p : Post G W ρ H rel (opt o h) Q) : ∃ a, o = some a ∧ Post G W ρ H rel (.ok a h) Q := by
  cases o with
  | some a => exact ⟨a, rfl, p⟩
  | none => exact False.elim p
theorem Post.optBind {o : Option α} {h : PH} {f : α → PH → Res γ} (p : Post G W ρ H rel2 ((Fx.opt o h).bind f) Q2) : ∃ a, o = some a ∧ Post G W ρ H rel2 (f a h) Q2 := by
  cases o with
  | some a => exact ⟨a, rfl, p⟩
  | none => exact False.elim p
end

/-- an expression's reading, by what it does -/
def tD (G : Glob) (W : WX) (d : Sl → PH → Res PV) : TE := fun σ H Q => ∃ ρ sp h, SlR G ρ H sp σ ∧ HR G ρ h H ∧ Post G (fun cls e H' => W cls e σ H') ρ H (relV G) (d sp h) Q
def tDT (G : Glob) (W : WX) (d : Sl → PH → Res Bool) : TT := fun σ H Q => ∃ ρ sp h, SlR G ρ H sp σ ∧ HR G ρ h H ∧ Post G (fun cls e H' => W cls e σ H') ρ H relB (d sp h) Q
def tDA (G : Glob) (W : WX) (d : Sl → PH → Res (List PV)) : TA := fun σ H Q => ∃ ρ sp h, SlR G ρ H sp σ ∧ HR G ρ h H ∧ Post G (fun cls e H' => W cls e σ H') ρ H (relVs G) (d sp h) Q
def tDO (G : Glob) (W : WX) (d : Sl → PH → Res (Option Int)) : TO := fun σ H Q => ∃ ρ sp h, SlR G ρ H sp σ ∧ HR G ρ h H ∧ Post G (fun cls e H' => W cls e σ H') ρ H relOI (d sp h) Q
theorem PE.weak {X : Cx} {e : Expr} {t t' : TE} (p : PE X e t) (f : ∀ σ H Q, t' σ H Q → t σ H Q) : PE X e t' := ⟨fun pins s σ H Q I h => p.run pins s σ H Q I (f _ _ _ h)⟩
theorem PT.weak {X : Cx} {e : Expr} {t t' : TT} (p : PT X e t) (f : ∀ σ H Q, t' σ H Q → t σ H Q) : PT X e t' := ⟨fun pins s σ H Q I h => p.run pins s σ H Q I (f _ _ _ h)⟩
theorem PW.weak {X : Cx} {e : Expr} {t t' : TT} (p : PW X e t) (f : ∀ σ H Q, t' σ H Q → t σ H Q) : PW X e t' := ⟨fun wh pins s σ H Q I h => p.run wh pins s σ H Q I (f _ _ _ h)⟩
theorem PA.weak {X : Cx} {e : List Expr} {t t' : TA} (p : PA X e t) (f : ∀ σ H Q, t' σ H Q → t σ H Q) : PA X e t' := ⟨fun ps pins s σ H Q I h => p.run ps pins s σ H Q I (f _ _ _ h)⟩
theorem PS.weak {X : Cx} {e : Stmt} {t t' : TS} (p : PS X e t) (f : ∀ D σ H, t' D σ H → t D σ H) : PS X e t' := ⟨fun pins s σ H D I h => p.run pins s σ H D I (f _ _ _ h)⟩
theorem PSs.weak {X : Cx} {e : List Stmt} {t t' : TS} (p : PSs X e t) (f : ∀ D σ H, t' D σ H → t D σ H) : PSs X e t' := ⟨fun pins s σ H D I h => p.run pins s σ H D I (f _ _ _ h)⟩
end Fx

/-! The small language's expressions, each by its rule. -/
namespace Fx
open PySem PySem.Spec PyProof.Rows L2
abbrev Dn := Sl → PH → Res PV
section
variable {G : Glob} {X : Cx} {W : WX} {a b c : Expr} {da db dc : Dn} {pos p1 p2 : Pos}

theorem LINE_eq : LINE = sizeLine := by rw [sizeLine_eq]; rfl
/-! ### operators -/
def rD (G : Glob) (f : PV → PV → PH → Res PV) : R2 := fun x y H Q => ∃ Wx ρ h p q, HR G ρ h H ∧ VR G.K ρ H p x ∧ VR G.K ρ H q y ∧ Post G Wx ρ H (relV G) (f p q h) Q
def rDC (G : Glob) (f : List PV → PH → Res PV) : List V → Hp → VK → Prop := fun xs H Q => ∃ Wx ρ h ps, HR G ρ h H ∧ VRs G.K ρ H ps xs ∧ Post G Wx ρ H (relV G) (f ps h) Q
def d2 (f : PV → PV → PH → Res PV) (da db : Dn) : Dn := fun σ h => (da σ h).bind fun x h1 => (db σ h1).bind fun y h2 => f x y h2
theorem to2 {f : PV → PV → PH → Res PV} {σ : L2.St} {H : Hp} {Q : VK} (h : tD G W (d2 f da db) σ H Q) : tOp (rD G f) (tD G W da) (tD G W db) σ H Q := by
  obtain ⟨ρ, sp, h, sl, hr, p⟩ := h
  exact ⟨ρ, sp, h, sl, hr, p.bind fun x h1 ρ1 H1 v _ le k hr1 rx p1 => ⟨ρ1, sp, h1, sl.mono le k, hr1, p1.bind fun y h2 ρ2 H2 u _ le2 k2 hr2 ry p2 => ⟨_, ρ2, h2, x, y, hr2, VR.mono le2 k2 rx, ry, p2⟩⟩⟩
theorem pd_op {op : Operator} {f : PV → PV → PH → Res PV} (ho : OpR X (binaryOp op) (rD G f)) (ha : PE X a (tD G W da)) (hb : PE X b (tD G W db)) : PE X (.BinOp a op b pos) (tD G W (d2 f da db)) :=
  PE.weak (pe_op ho ha hb) fun _ _ _ h => to2 h

section
variable {ρ : List Addr} {H : Hp} {h : PH}
theorem OR.list {n : Nat} {l : List PV} {a : Addr} (hr : HR G ρ h H) (e : h.get n = some (.lst l)) (ea : ρ[n]? = some a) : ∃ vs, H a = some (.lst vs) ∧ VRs G.K ρ H l vs := hr.at_ e ea
/-- a sequence stands there -/
theorem seqOf_rel {p : PV} {v : V} {l : List PV} (hr : HR G ρ h H) (r : VR G.K ρ H p v) (e : seqOf h p = some l) : ∃ a vs, v = .ref a ∧ VRs G.K ρ H l vs ∧ (SqL G.K H a vs ∨ SqT G.K H a vs) := by
  cases r with
  | tup s rs =>
    cases e
    exact ⟨_, _, rfl, rs, .inr s⟩
  | @ref n a ea =>
    simp only [seqOf] at e
    split at e
    · rename_i l' el
      cases e
      obtain ⟨vs, h1, h2⟩ := hr.at_ el ea
      exact ⟨a, vs, rfl, h2, .inl (.inl (.inl h1))⟩
    · rename_i l' el
      cases e
      obtain ⟨vs, h1, h2⟩ := hr.at_ el ea
      exact ⟨a, vs, rfl, h2, .inl (.inl h1)⟩
    · cases e
  | _ => cases e
theorem seqL_rel {n : Nat} {a : Addr} {l : List PV} (hr : HR G ρ h H) (ea : ρ[n]? = some a) (e : seqOf h (.ref n) = some l) : ∃ vs, VRs G.K ρ H l vs ∧ SqL G.K H a vs := by
  simp only [seqOf] at e
  split at e
  · rename_i l' el
    cases e
    obtain ⟨vs, h1, h2⟩ := hr.at_ el ea
    exact ⟨vs, h2, .inl (.inl h1)⟩
  · rename_i l' el
    cases e
    obtain ⟨vs, h1, h2⟩ := hr.at_ el ea
    exact ⟨vs, h2, .inl h1⟩
  · cases e
theorem new_ref (hr : HR G ρ h H) {p : Addr} : (ρ ++ [p])[h.n]? = some p := by rw [← hr.len]; simp
/-- a value given with a new list -/
theorem Post.newList {Wx : XK} {l : List PV} {vs : List V} {Q : VK} (p : Post G Wx ρ H (relV G) (alloc (.lst l) h) Q) (hr : HR G ρ h H) (r : VRs G.K ρ H l vs) : ∀ p, H p = none → Q (.ref p) (upd H p (.lst vs)) := fun q n =>
  p (ρ ++ [q]) (upd H q (.lst vs)) (.ref q) (Le.app _ _) (Frm.alloc n) (hr.new n ⟨vs, upd_same, r.mono (Le.app _ _) (Keep.new n)⟩) (.ref (new_ref hr))
/-- .. a new tuple -/
theorem Post.newTup {Wx : XK} {l : List PV} {vs : List V} {Q : VK} (p : Post G Wx ρ H (relV G) (.ok (.tup l) h) Q) (hr : HR G ρ h H) (r : VRs G.K ρ H l vs) : ∀ p, H p = none → Q (.ref p) (upd H p (.tup vs)) := fun q n =>
  p ρ (upd H q (.tup vs)) (.ref q) (Le.refl _) (Frm.lay n) (hr.other n) (.tup (.inl (.inl upd_same)) (r.mono (Le.refl _) (Keep.new n)))
theorem VRs.nil_iff {l : List PV} {vs : List V} (r : VRs G.K ρ H l vs) : (l = [] ↔ vs = []) := by
  cases r with
  | nil => simp
  | cons => simp
end

theorem or_add (hK : X.K = G.K) : OpR X (binaryOp .Add) (rD G (bop .add)) := by
  intro pins s σ H x y v u Q I rx ry ⟨Wx, ρ, h, p, q, hr, rp, rq, pq⟩
  cases rp with
  | int i =>
    cases rq with
    | int j => exact op_add pins s σ H _ _ v u Q I rx ry ⟨i, j, rfl, rfl, pq.now hr (.int _)⟩
    | _ => exact False.elim pq
  | tup s1 r1 =>
    cases rq with
    | tup s2 r2 =>
      simp only [bop] at pq
      split at pq
      · rename_i hh
        refine op_catA pins s σ H _ _ v u Q I rx ry ⟨_, _, _, _, rfl, rfl, hK ▸ s1, hK ▸ s2, ?_, fun e => ?_, fun _ e => ?_, fun _ _ => ?_⟩
        · rw [← LINE_eq, ← r1.length, ← r2.length]; exact hh
        · have e2 := r1.nil_iff.mpr e
          subst e2
          exact pq.now hr (.tup s2 r2)
        · have e2 := r2.nil_iff.mpr e
          subst e2
          rw [List.append_nil] at pq
          exact pq.now hr (.tup s1 r1)
        · exact pq.newTup hr (r1.append r2)
      · exact False.elim pq
    | _ => exact False.elim pq
  | @ref n a ea =>
    cases rq with
    | @ref m b eb =>
      simp only [bop] at pq
      split at pq
      · rename_i l r e1 e2
        split at pq
        · rename_i hl
          obtain ⟨vs, h1, r1⟩ := hr.at_ e1 ea
          obtain ⟨ws, h2, r2⟩ := hr.at_ e2 eb
          exact op_cat pins s σ H _ _ v u Q I rx ry ⟨_, _, _, _, rfl, rfl, h1, h2, by rw [← LINE_eq, ← r1.length, ← r2.length]; exact hl, pq.newList hr (r1.append r2)⟩
        · exact False.elim pq
      · exact False.elim pq
    | _ => exact False.elim pq
  | _ => cases rq <;> exact False.elim pq
theorem smallI_iff {i : Int} : smallI i = true ↔ -(2 ^ 64) < i ∧ i < 2 ^ 64 := by simp [smallI]
theorem or_sub : OpR X (binaryOp .Sub) (rD G (bop .sub)) := by
  intro pins s σ H x y v u Q I rx ry ⟨Wx, ρ, h, p, q, hr, rp, rq, pq⟩
  cases rp <;> cases rq <;> first | exact False.elim pq | skip
  exact op_sub pins s σ H _ _ v u Q I rx ry ⟨_, _, rfl, rfl, pq.now hr (.int _)⟩
theorem or_mul : OpR X (binaryOp .Mult) (rD G (bop .mul)) := by
  intro pins s σ H x y v u Q I rx ry ⟨Wx, ρ, h, p, q, hr, rp, rq, pq⟩
  cases rp <;> cases rq <;> first | exact False.elim pq | skip
  simp only [bop] at pq
  split at pq
  · rename_i hh
    exact op_mul pins s σ H _ _ v u Q I rx ry ⟨_, _, rfl, rfl, hh.imp smallI_iff.mp smallI_iff.mp, pq.now hr (.int _)⟩
  · exact False.elim pq
theorem or_mod : OpR X (binaryOp .Mod) (rD G (bop .mod)) := by
  intro pins s σ H x y v u Q I rx ry ⟨Wx, ρ, h, p, q, hr, rp, rq, pq⟩
  cases rp <;> cases rq <;> first | exact False.elim pq | skip
  simp only [bop] at pq
  split at pq
  · rename_i hh
    exact op_mod pins s σ H _ _ v u Q I rx ry ⟨_, _, rfl, rfl, hh, pq.now hr (.int _)⟩
  · exact False.elim pq
theorem or_fdiv : OpR X (binaryOp .FloorDiv) (rD G (bop .fdiv)) := by
  intro pins s σ H x y v u Q I rx ry ⟨Wx, ρ, h, p, q, hr, rp, rq, pq⟩
  cases rp <;> cases rq <;> first | exact False.elim pq | skip
  simp only [bop] at pq
  split at pq
  · rename_i hh
    exact op_fdiv pins s σ H _ _ v u Q I rx ry ⟨_, _, rfl, rfl, hh, pq.now hr (.int _)⟩
  · exact False.elim pq
theorem or_pow : OpR X (binaryOp .Pow) (rD G (bop .pow)) := by
  intro pins s σ H x y v u Q I rx ry ⟨Wx, ρ, h, p, q, hr, rp, rq, pq⟩
  cases rp <;> cases rq <;> first | exact False.elim pq | skip
  simp only [bop] at pq
  split at pq
  · rename_i hh
    exact op_pow pins s σ H _ _ v u Q I rx ry ⟨_, _, rfl, rfl, hh, pq.now hr (.int _)⟩
  · exact False.elim pq
def opOf : Operator → Option Bop
  | .Add => some .add | .Sub => some .sub | .Mult => some .mul | .Mod => some .mod | .FloorDiv => some .fdiv | .Pow => some .pow | _ => none
theorem or_bop (hK : X.K = G.K) {op : Operator} {o : Bop} (e : opOf op = some o) : OpR X (binaryOp op) (rD G (bop o)) := by
  cases op <;> simp only [opOf, Option.some.injEq] at e <;> first | (subst e; first | exact or_add hK | exact or_sub | exact or_mul | exact or_mod | exact or_fdiv | exact or_pow) | cases e

/-! ### comparisons -/
def fC (o : Cop) : PV → PV → PH → Res PV := fun x y h => (opt (cop o x y h) h).bind fun t h' => .ok (.bl t) h'
theorem bl_rel {Wx : XK} {ρ : List Addr} {H : Hp} {h : PH} {t : Bool} {Q : VK} (pq : Post G Wx ρ H (relV G) (.ok (.bl t) h) Q) (hr : HR G ρ h H) : Q (.bl t) H := pq.now hr (.bl t)
theorem eqS_rel {K : PySem.W.Frag} {ρ : List Addr} {H : Hp} {p q : PV} {x y : V} {b : Bool} (rp : VR K ρ H p x) (rq : VR K ρ H q y) (e : eqS p q = some b) : scal x y = true ∧ decide (x = y) = b := by
  cases rp <;> cases rq <;> simp only [eqS, Option.some.injEq, reduceCtorEq] at e <;> subst e <;> refine ⟨rfl, ?_⟩ <;> simp <;> (try (rename_i a b; cases a <;> cases b <;> rfl))
mutual
theorem datT_rel {K : PySem.W.Frag} {ρ : List Addr} {H : Hp} : ∀ {p : PV} {x : V} {d : PyData}, VR K ρ H p x → datT p = some d → Dp K H x d
  | _, _, d, .non, e => by cases e; exact .non
  | _, _, d, .bl b, e => by cases e; exact .bl b
  | _, _, d, .int i, e => by cases e; exact .int i
  | _, _, d, .str z, e => by cases e; exact .str z
  | _, _, d, .tup s r, e => by
    unfold datT at e
    obtain ⟨ds, e1, rfl⟩ := Option.map_eq_some_iff.mp e
    exact .tup s (datTs_rel r e1)
  | _, _, d, .ref _, e => by unfold datT at e; cases e
theorem datTs_rel {K : PySem.W.Frag} {ρ : List Addr} {H : Hp} : ∀ {l : List PV} {xs : List V} {ds : List PyData}, VRs K ρ H l xs → datTs l = some ds → DpAll K H xs ds
  | _, _, ds, .nil, e => by unfold datTs at e; cases e; exact .nil
  | _, _, ds, .cons a r, e => by
    unfold datTs at e
    split at e
    · rename_i d ds' e1 e2
      cases e
      exact .cons (datT_rel a e1) (datTs_rel r e2)
    · cases e
end
theorem dat_rel {ρ : List Addr} {H : Hp} {h : PH} {p : PV} {x : V} {d : PyData} (hr : HR G ρ h H) (r : VR G.K ρ H p x) (e : dat h p = some d) : Dp G.K H x d := by
  cases r with
  | @ref n a ea =>
    unfold dat at e
    dsimp only at e
    split at e
    · rename_i l el
      obtain ⟨ds, e1, rfl⟩ := Option.map_eq_some_iff.mp e
      obtain ⟨vs, h1, h2⟩ := hr.at_ el ea
      exact .lst (.inl (.inl h1)) (datTs_rel h2 e1)
    · rename_i l el
      obtain ⟨ds, e1, rfl⟩ := Option.map_eq_some_iff.mp e
      obtain ⟨vs, h1, h2⟩ := hr.at_ el ea
      exact .lst (.inl h1) (datTs_rel h2 e1)
    · cases e
  | non => exact datT_rel (ρ := ρ) .non e
  | bl b => exact datT_rel (ρ := ρ) (.bl b) e
  | int i => exact datT_rel (ρ := ρ) (.int i) e
  | str z => exact datT_rel (ρ := ρ) (.str z) e
  | tup s r => exact datT_rel (.tup s r) e
theorem eqD_rel {ρ : List Addr} {H : Hp} {h : PH} {p q : PV} {x y : V} {b : Bool} (hr : HR G ρ h H) (rp : VR G.K ρ H p x) (rq : VR G.K ρ H q y) (e : eqD h p q = some b) :
    ∃ d e, Dp G.K H x d ∧ Dp G.K H y e ∧ SeqAt.shaped d = true ∧ SeqAt.shaped e = true ∧ PyData.eqv d e = b := by
  unfold eqD at e
  split at e
  · rename_i d1 d2 e1 e2
    split at e
    · rename_i hs
      cases e
      exact ⟨d1, d2, dat_rel hr rp e1, dat_rel hr rq e2, hs.1, hs.2, rfl⟩
    · cases e
  · cases e
theorem oc_eq (hK : X.K = G.K) (hu : X.A.units + 65 < cLine) : OpR X (compareOp .Eq) (rD G (fC .eq)) := by
  intro pins s σ H x y v u Q I rx ry ⟨Wx, ρ, h, p, q, hr, rp, rq, pq⟩
  obtain ⟨t, e, pq⟩ := Post.optBind pq
  have e' : eqX h p q = some t := by cases p <;> cases q <;> exact e
  unfold eqX at e'
  split at e'
  · rename_i b eb
    cases e'
    obtain ⟨e1, e2⟩ := eqS_rel rp rq eb
    exact op_eq pins s σ H _ _ v u Q I rx ry ⟨e1, by rw [e2]; exact bl_rel pq hr⟩
  · obtain ⟨d, d2, h1, h2, h3, h4, h5⟩ := eqD_rel hr rp rq e'
    exact op_eqD (Nat.lt_of_succ_lt hu) pins s σ H _ _ v u Q I rx ry ⟨d, d2, by rw [hK]; exact h1, by rw [hK]; exact h2, h3, h4, by rw [h5]; exact bl_rel pq hr⟩
theorem oc_ne (hK : X.K = G.K) (hu : X.A.units + 65 < cLine) : OpR X (compareOp .NotEq) (rD G (fC .ne)) := by
  intro pins s σ H x y v u Q I rx ry ⟨Wx, ρ, h, p, q, hr, rp, rq, pq⟩
  obtain ⟨t, e, pq⟩ := Post.optBind pq
  have e' : (eqX h p q).map (fun b => !b) = some t := by cases p <;> cases q <;> exact e
  obtain ⟨t', et, rfl⟩ := Option.map_eq_some_iff.mp e'
  unfold eqX at et
  split at et
  · rename_i b eb
    cases et
    obtain ⟨e1, e2⟩ := eqS_rel rp rq eb
    exact op_ne pins s σ H _ _ v u Q I rx ry ⟨e1, by rw [e2]; exact bl_rel pq hr⟩
  · obtain ⟨d, d2, h1, h2, h3, h4, h5⟩ := eqD_rel hr rp rq et
    exact op_neD (Nat.lt_of_succ_lt hu) pins s σ H _ _ v u Q I rx ry ⟨d, d2, by rw [hK]; exact h1, by rw [hK]; exact h2, h3, h4, by rw [h5]; exact bl_rel pq hr⟩
theorem oc_lt : OpR X (compareOp .Lt) (rD G (fC .lt)) := by
  intro pins s σ H x y v u Q I rx ry ⟨Wx, ρ, h, p, q, hr, rp, rq, pq⟩
  cases rp <;> cases rq <;> first | exact False.elim pq | skip
  exact op_lt pins s σ H _ _ v u Q I rx ry ⟨_, _, rfl, rfl, bl_rel pq hr⟩
theorem oc_le : OpR X (compareOp .LtE) (rD G (fC .le)) := by
  intro pins s σ H x y v u Q I rx ry ⟨Wx, ρ, h, p, q, hr, rp, rq, pq⟩
  cases rp <;> cases rq <;> first | exact False.elim pq | skip
  exact op_le pins s σ H _ _ v u Q I rx ry ⟨_, _, rfl, rfl, bl_rel pq hr⟩
theorem oc_gt : OpR X (compareOp .Gt) (rD G (fC .gt)) := by
  intro pins s σ H x y v u Q I rx ry ⟨Wx, ρ, h, p, q, hr, rp, rq, pq⟩
  cases rp <;> cases rq <;> first | exact False.elim pq | skip
  exact op_gt pins s σ H _ _ v u Q I rx ry ⟨_, _, rfl, rfl, bl_rel pq hr⟩
theorem oc_ge : OpR X (compareOp .GtE) (rD G (fC .ge)) := by
  intro pins s σ H x y v u Q I rx ry ⟨Wx, ρ, h, p, q, hr, rp, rq, pq⟩
  cases rp <;> cases rq <;> first | exact False.elim pq | skip
  exact op_ge pins s σ H _ _ v u Q I rx ry ⟨_, _, rfl, rfl, bl_rel pq hr⟩
/-- x is y, of plain values -/
theorem is_of {pins : List (Addr × Obj)} {s : Shared} {σ : L2.St} {H : Hp} {v u : Value} {Q : VK} {b : Bool} (I : Inv X pins σ H s) (hp : plainIs v u = true) (e : (v == u) = b) (q : Q (.bl b) H) : wpAny (model X.prog X.w) X.A (compareOp .Is v u) (EP X pins σ Q) X.xe s :=
  wpAny_is_plain hp ⟨.bl b, H, I, by rw [e]; rfl, q⟩
theorem isnot_of {pins : List (Addr × Obj)} {s : Shared} {σ : L2.St} {H : Hp} {v u : Value} {Q : VK} {b : Bool} (I : Inv X pins σ H s) (hp : plainIs v u = true) (e : (v == u) = b) (q : Q (.bl (!b)) H) : wpAny (model X.prog X.w) X.A (compareOp .IsNot v u) (EP X pins σ Q) X.xe s :=
  wpAny_isNot_plain hp ⟨.bl (!b), H, I, by rw [e]; rfl, q⟩
/-- the model's answer to «is» -/
theorem is_rel {K : PySem.W.Frag} {ρ : List Addr} {H : Hp} {h : PH} {p q : PV} {x y : V} {v u : Value} {b : Bool} (rp : VR K ρ H p x) (rq : VR K ρ H q y) (rx : L2.RelV x v) (ry : L2.RelV y u) (e : cop .is p q h = some b) : plainIs v u = true ∧ (v == u) = b := by
  cases rq with
  | non =>
    cases ry
    cases rp with
    | non => cases rx; cases e; exact ⟨rfl, rfl⟩
    | bl b => cases rx; cases e; exact ⟨rfl, rfl⟩
    | int i => obtain ⟨t, rfl⟩ := rx; cases e; exact ⟨rfl, rfl⟩
    | str i => obtain ⟨t, rfl⟩ := rx; cases e; exact ⟨rfl, rfl⟩
    | tup s r => cases rx; cases e; exact ⟨rfl, rfl⟩
    | ref e => cases rx; cases e; exact ⟨rfl, rfl⟩
  | bl c =>
    cases ry
    cases rp with
    | non => cases rx; cases e; exact ⟨rfl, rfl⟩
    | bl b => cases rx; cases e; refine ⟨rfl, ?_⟩; cases b <;> cases c <;> rfl
    | int i => obtain ⟨t, rfl⟩ := rx; cases e; exact ⟨rfl, rfl⟩
    | str i => obtain ⟨t, rfl⟩ := rx; cases e; exact ⟨rfl, rfl⟩
    | tup s r => cases rx; cases e; exact ⟨rfl, rfl⟩
    | ref e => cases rx; cases e; exact ⟨rfl, rfl⟩
  | _ => cases rp <;> cases e
theorem oc_is : OpR X (compareOp .Is) (rD G (fC .is)) := by
  intro pins s σ H x y v u Q I rx ry ⟨Wx, ρ, h, p, q, hr, rp, rq, pq⟩
  obtain ⟨t, e, pq⟩ := Post.optBind pq
  obtain ⟨e1, e2⟩ := is_rel rp rq rx ry e
  exact is_of I e1 e2 (bl_rel pq hr)
theorem cop_isnot {p q : PV} {h : PH} {b : Bool} (e : cop .isnot p q h = some b) : cop .is p q h = some (!b) := by
  cases q <;> cases p <;> cases e <;> rfl
theorem oc_isnot : OpR X (compareOp .IsNot) (rD G (fC .isnot)) := by
  intro pins s σ H x y v u Q I rx ry ⟨Wx, ρ, h, p, q, hr, rp, rq, pq⟩
  obtain ⟨t, e, pq⟩ := Post.optBind pq
  obtain ⟨e1, e2⟩ := is_rel rp rq rx ry (cop_isnot e)
  exact isnot_of I e1 e2 (by rw [Bool.not_not]; exact bl_rel pq hr)
section
variable {K : PySem.W.Frag} {ρ : List Addr} {H : Hp}
theorem flat_rel {p : PV} {x : V} (r : VR K ρ H p x) (e : flat p = true) : flatV x = true := by cases r <;> first | rfl | cases e
theorem eqF_rel {p q : PV} {x y : V} (r : VR K ρ H p x) (r2 : VR K ρ H q y) (e : flat p = true) (e2 : flat q = true) : eqV x y = eqF p q := by
  cases r <;> cases r2 <;> first | rfl | (simp [eqV, eqF]; done) | (cases e; done) | (cases e2; done)
theorem in_rel {q : PV} {y : V} (r2 : VR K ρ H q y) (e2 : flat q = true) : ∀ {l : List PV} {xs : List V}, VRs K ρ H l xs → l.all flat = true → xs.all flatV = true ∧ inV y xs = l.any fun z => eqF z q
  | _, _, .nil, _ => ⟨rfl, rfl⟩
  | p :: l, x :: xs, .cons a r, e => by
    rw [List.all_cons, Bool.and_eq_true] at e
    obtain ⟨h1, h2⟩ := in_rel r2 e2 r e.2
    refine ⟨by rw [List.all_cons, flat_rel a e.1, h1]; rfl, ?_⟩
    unfold inV at h2 ⊢
    rw [List.any_cons, List.any_cons, h2, eqF_rel a r2 e.1 e2]
end
theorem inF_rel {ρ : List Addr} {H : Hp} {h : PH} {p q : PV} {x y : V} {b : Bool} (hr : HR G ρ h H) (rp : VR G.K ρ H p x) (rq : VR G.K ρ H q y) (e : inF h p q = some b) :
    ∃ a vs, y = .ref a ∧ (SqL G.K H a vs ∨ SqT G.K H a vs) ∧ flatV x = true ∧ vs.all flatV = true ∧ inV x vs = b := by
  unfold inF at e
  split at e
  · rename_i hf
    split at e
    · rename_i l hl
      split at e
      · rename_i ha
        cases e
        obtain ⟨a, vs, rfl, rs, hs⟩ := seqOf_rel hr rq hl
        obtain ⟨h1, h2⟩ := in_rel rp hf rs ha
        exact ⟨a, vs, rfl, hs, flat_rel rp hf, h1, h2⟩
      · cases e
    · cases e
  · cases e
theorem inD_rel {ρ : List Addr} {H : Hp} {h : PH} {p q : PV} {x y : V} {b : Bool} (hr : HR G ρ h H) (rp : VR G.K ρ H p x) (rq : VR G.K ρ H q y) (e : inD h p q = some b) :
    ∃ d ds, Dp G.K H x d ∧ Dp G.K H y (.list ds) ∧ SeqAt.shaped d = true ∧ SeqAt.shaped (.list ds) = true ∧ (ds.any fun z => PyData.eqv z d) = b := by
  unfold inD at e
  split at e
  · rename_i d1 d2 e1 e2
    split at e
    · rename_i hs
      cases e
      exact ⟨d1, d2, dat_rel hr rp e1, dat_rel hr rq e2, hs.1, hs.2, rfl⟩
    · cases e
  · cases e
theorem keyV_rel {K : PySem.W.Frag} {ρ : List Addr} {H : Hp} {p : PV} {x : V} {k : Key} (r : VR K ρ H p x) (e : keyOf p = some k) : x = kV k := by
  cases r <;> cases e <;> rfl
theorem valV_none {K : PySem.W.Frag} {ρ : List Addr} {H : Hp} {k : Key} : ∀ {kvs : List (Key × PV)} {ws : List (Key × V)}, KVR (· = ·) K ρ H kvs ws → findK kvs k = none → valV ws k = none
  | [], _, .nil, _ => rfl
  | (k', p') :: kvs, (k2, v) :: ws, .cons a r, e => by
    obtain ⟨e1, e2⟩ := a
    cases (show k' = k2 from e1)
    unfold findK at e
    rw [List.find?_cons] at e
    by_cases hk : k' = k
    · subst hk
      simp at e
    · simp only [hk, decide_false] at e
      have := valV_none r e
      simp [valV, List.find?_cons, hk]
      simpa [valV] using this
theorem valV_some {K : PySem.W.Frag} {ρ : List Addr} {H : Hp} {k : Key} {p : PV} : ∀ {kvs : List (Key × PV)} {ws : List (Key × V)}, KVR (· = ·) K ρ H kvs ws → findK kvs k = some p → ∃ v, valV ws k = some v ∧ VR K ρ H p v
  | [], _, .nil, e => by cases e
  | (k', p') :: kvs, (k2, v) :: ws, .cons a r, e => by
    obtain ⟨e1, e2⟩ := a
    cases (show k' = k2 from e1)
    unfold findK at e
    rw [List.find?_cons] at e
    by_cases hk : k' = k
    · subst hk
      simp only [decide_true] at e
      cases e
      exact ⟨v, by simp [valV], e2⟩
    · simp only [hk, decide_false] at e
      obtain ⟨v', h1, h2⟩ := valV_some r e
      exact ⟨v', by simp [valV, List.find?_cons, hk]; simpa [valV] using h1, h2⟩
/-- what a dict says of a key -/
theorem dget_rel {ρ : List Addr} {H : Hp} {h : PH} {n : Nat} {a : Addr} {kvs : List (Key × PV)} {k : Key} {y : PV} {z : V} (hr : HR G ρ h H) (ea : ρ[n]? = some a) (en : h.get n = some (.dic kvs)) (ry : VR G.K ρ H y z) (ek : keyOf y = some k) :
    ∃ o, DGet H a z o ∧ o.isSome = (findK kvs k).isSome ∧ ∀ p, findK kvs k = some p → ∃ v, o = some v ∧ VR G.K ρ H p v := by
  obtain ⟨ws, h1, r⟩ := hr.at_ en ea
  rw [keyV_rel ry ek]
  cases ef : findK kvs k with
  | none => exact ⟨none, by rw [← valV_none r ef]; exact DGet.k h1, rfl, fun p e => by cases e⟩
  | some p =>
    obtain ⟨v, e1, rv⟩ := valV_some r ef
    exact ⟨some v, by rw [← e1]; exact DGet.k h1, rfl, fun p' e => by cases e; exact ⟨v, rfl, rv⟩⟩
theorem inK_rel {ρ : List Addr} {H : Hp} {h : PH} {p q : PV} {x y : V} {b : Bool} (hr : HR G ρ h H) (rp : VR G.K ρ H p x) (rq : VR G.K ρ H q y) (e : inK h p q = some b) : ∃ a o, y = .ref a ∧ DGet H a x o ∧ o.isSome = b := by
  unfold inK at e
  split at e
  · rename_i k n ek
    split at e
    · rename_i kvs en
      cases e
      obtain ⟨a, rfl, ea⟩ := rq.ref_inv
      obtain ⟨o, g, e2, _⟩ := dget_rel hr ea en rp ek
      exact ⟨a, o, rfl, g, e2⟩
    · cases e
  · cases e
theorem oc_in (hK : X.K = G.K) (hu : X.A.units + 65 < cLine) : OpR X (compareOp .In) (rD G (fC .isin)) := by
  intro pins s σ H x y v u Q I rx ry ⟨Wx, ρ, h, p, q, hr, rp, rq, pq⟩
  obtain ⟨t, e, pq⟩ := Post.optBind pq
  have e' : inX h p q = some t := by cases p <;> cases q <;> exact e
  unfold inX at e'
  split at e'
  · rename_i b eb
    cases e'
    obtain ⟨a, vs, rfl, hs, h1, h2, h3⟩ := inF_rel hr rp rq eb
    exact op_in_seq pins s σ H _ _ v u Q I rx ry ⟨a, vs, rfl, hK ▸ hs, h1, h2, by rw [h3]; exact bl_rel pq hr⟩
  · split at e'
    · rename_i b eb
      cases e'
      obtain ⟨d, ds, h1, h2, h3, h4, h5⟩ := inD_rel hr rp rq eb
      exact op_inD hu pins s σ H _ _ v u Q I rx ry ⟨d, ds, by rw [hK]; exact h1, by rw [hK]; exact h2, h3, h4, by rw [h5]; exact bl_rel pq hr⟩
    · obtain ⟨a, o, rfl, g, e2⟩ := inK_rel hr rp rq e'
      obtain rfl : u = Value.ref a := ry
      subst e2
      exact d_in (by omega) I g rx fun s3 I3 => ⟨.bl o.isSome, H, I3, rfl, bl_rel pq hr⟩
theorem oc_notin (hK : X.K = G.K) (hu : X.A.units + 65 < cLine) : OpR X (compareOp .NotIn) (rD G (fC .notin)) := by
  intro pins s σ H x y v u Q I rx ry ⟨Wx, ρ, h, p, q, hr, rp, rq, pq⟩
  obtain ⟨t0, e, pq⟩ := Post.optBind pq
  have e0 : (inX h p q).map (fun b => !b) = some t0 := by cases p <;> cases q <;> exact e
  obtain ⟨t, e', rfl⟩ := Option.map_eq_some_iff.mp e0
  unfold inX at e'
  split at e'
  · rename_i b eb
    cases e'
    obtain ⟨a, vs, rfl, hs, h1, h2, h3⟩ := inF_rel hr rp rq eb
    exact op_notIn_seq pins s σ H _ _ v u Q I rx ry ⟨a, vs, rfl, hK ▸ hs, h1, h2, by rw [h3]; exact bl_rel pq hr⟩
  · split at e'
    · rename_i b eb
      cases e'
      obtain ⟨d, ds, h1, h2, h3, h4, h5⟩ := inD_rel hr rp rq eb
      exact op_notInD hu pins s σ H _ _ v u Q I rx ry ⟨d, ds, by rw [hK]; exact h1, by rw [hK]; exact h2, h3, h4, by rw [h5]; exact bl_rel pq hr⟩
    · obtain ⟨a, o, rfl, g, e2⟩ := inK_rel hr rp rq e'
      obtain rfl : u = Value.ref a := ry
      subst e2
      exact d_notIn (by omega) I g rx fun s3 I3 => ⟨.bl (!o.isSome), H, I3, rfl, bl_rel pq hr⟩
def copOf : CmpOp → Option Cop
  | .Eq => some .eq | .NotEq => some .ne | .Lt => some .lt | .LtE => some .le | .Gt => some .gt | .GtE => some .ge | .Is => some .is | .IsNot => some .isnot | .In => some .isin | .NotIn => some .notin
theorem oc_cop (hK : X.K = G.K) (hu : X.A.units + 65 < cLine) {op : CmpOp} {o : Cop} (e : copOf op = some o) : OpR X (compareOp op) (rD G (fC o)) := by
  cases op <;> cases e
  · exact oc_eq hK hu
  · exact oc_ne hK hu
  · exact oc_lt
  · exact oc_le
  · exact oc_gt
  · exact oc_ge
  · exact oc_is
  · exact oc_isnot
  · exact oc_in hK hu
  · exact oc_notin hK hu
theorem pd_cmp {op : CmpOp} {f : PV → PV → PH → Res PV} (ho : OpR X (compareOp op) (rD G f)) (ha : PE X a (tD G W da)) (hb : PE X b (tD G W db)) (hm : behindInMarks op b = false) : PE X (.Compare a [op] [b] pos) (tD G W (d2 f da db)) :=
  PE.weak (pe_cmpR ho ha hb hm) fun _ _ _ h => to2 h

/-! ### truth -/
theorem tru_bind {α : Type} (r : Res α) (f : α → PH → Res PV) : tru (r.bind f) = r.bind fun a h => tru (f a h) := by cases r <;> rfl
theorem bind_bind {α β γ : Type} (r : Res α) (f : α → PH → Res β) (g : β → PH → Res γ) : (r.bind f).bind g = r.bind fun a h => (f a h).bind g := by cases r <;> rfl
theorem Post.mapX {α β γ δ : Type} {Wx : XK} {ρ : List Addr} {H : Hp} {rel : List Addr → Hp → α → β → Prop} {rel2 : List Addr → Hp → γ → δ → Prop} {r : Res α} {f : α → PH → Res γ} {Q : β → Hp → Prop} {Q2 : δ → Hp → Prop} (p : Post G Wx ρ H rel2 (r.bind f) Q2)
    (k : ∀ a h1 ρ1 H1 b, r = .ok a h1 → Le ρ ρ1 → Frm ρ H ρ1 H1 → HR G ρ1 h1 H1 → rel ρ1 H1 a b → Post G Wx ρ1 H1 rel2 (f a h1) Q2 → Q b H1) : Post G Wx ρ H rel r Q := p.bind k
/-- of a value that is a bool -/
theorem Post.ofTru {Wx : XK} {ρ : List Addr} {H : Hp} {r : Res PV} {Q : Bool → Hp → Prop} (bl : ∀ v h', r = .ok v h' → ∃ b, v = .bl b) (p : Post G Wx ρ H relB (tru r) Q) : Post G Wx ρ H (relV G) r (fun x H' => ∃ k, x = .bl k ∧ Q k H') :=
  Post.mapX (f := fun v h => Fx.opt (truth h v) h) p fun v h1 ρ1 H1 b e le k hr rv p1 => by
    obtain ⟨t, rfl⟩ := bl v h1 e
    have e2 : b = V.bl t := VR.bl_inv rv
    exact ⟨t, e2, Post.now (rel := relB) p1 hr rfl⟩
theorem truth_rel {ρ : List Addr} {H : Hp} {h : PH} {p : PV} {x : V} {t : Bool} (hr : HR G ρ h H) (r : VR G.K ρ H p x) (e : truth h p = some t) : TruV G.K x H t := by
  cases r with
  | non => cases e; rfl
  | bl b => cases e; rfl
  | int i => cases e; rfl
  | str z =>
    simp only [truth] at e
    split at e
    · rename_i hl
      cases e
      exact ⟨by rw [← LINE_eq]; exact hl, rfl⟩
    · cases e
  | tup s r =>
    cases e
    refine .inr (.inl ⟨_, s, ?_⟩)
    cases r <;> rfl
  | @ref n a ea =>
    have emp : ∀ {l : List PV} {vs : List V}, VRs G.K ρ H l vs → (!l.isEmpty) = !vs.isEmpty := fun r => by cases r <;> rfl
    simp only [truth] at e
    split at e
    · rename_i l el
      cases e
      obtain ⟨vs, h1, r⟩ := hr.at_ el ea
      exact .inl ⟨vs, .inl (.inl h1), emp r⟩
    · rename_i l el
      cases e
      obtain ⟨vs, h1, r⟩ := hr.at_ el ea
      exact .inl ⟨vs, .inl h1, emp r⟩
    · rename_i kvs el
      cases e
      obtain ⟨ws, h1, r⟩ := hr.at_ el ea
      refine .inr (.inr ⟨ws, h1, ?_⟩)
      cases r <;> rfl
    · cases e
/-- of any value with a truth -/
theorem Post.ofTruth {Wx : XK} {ρ : List Addr} {H : Hp} {r : Res PV} {Q : Bool → Hp → Prop} (p : Post G Wx ρ H relB (tru r) Q) : Post G Wx ρ H (relV G) r (fun x H' => ∃ k, TruV G.K x H' k ∧ Q k H') :=
  Post.mapX (f := fun v h => Fx.opt (truth h v) h) p fun v h1 ρ1 H1 b e le k hr rv p1 => by
    obtain ⟨t, et, p2⟩ := Post.opt p1
    exact ⟨t, truth_rel hr rv et, Post.now (rel := relB) p2 hr rfl⟩
abbrev dT (d : Dn) : Sl → PH → Res Bool := fun σ h => tru (d σ h)
theorem pd_truth {e : Expr} {d : Dn} (hK : X.K = G.K) (hp : PE X e (tD G W d)) (he : ∀ whole, isTrue e X.env whole = (do let v ← whole; standAt e.pos; holding [v] (truthy v))) : PT X e (tDT G W (dT d)) :=
  PT.weak (pt_truth hp he) fun σ H Q ⟨ρ, sp, h, sl, hr, p⟩ => ⟨ρ, sp, h, sl, hr, by rw [hK]; exact p.ofTruth⟩
theorem fC_bl {o : Cop} {x y v : PV} {h h' : PH} (e : fC o x y h = .ok v h') : ∃ b, v = .bl b := by
  unfold fC at e
  cases q : cop o x y h with
  | none => rw [q] at e; cases e
  | some t => rw [q] at e; cases e; exact ⟨t, rfl⟩
theorem d2_bl {f : PV → PV → PH → Res PV} (hf : ∀ x y v h h', f x y h = .ok v h' → ∃ b, v = .bl b) {σ : Sl} {h h' : PH} {v : PV} (e : d2 f da db σ h = .ok v h') : ∃ b, v = .bl b := by
  unfold d2 at e
  cases e1 : da σ h with
  | ok x h1 =>
    rw [e1, Res.bind_ok] at e
    cases e2 : db σ h1 with
    | ok y h2 => rw [e2, Res.bind_ok] at e; exact hf _ _ _ _ _ e
    | _ => rw [e2] at e; cases e
  | _ => rw [e1] at e; cases e
theorem pt_cmpD {op : CmpOp} {o : Cop} (ho : OpR X (compareOp op) (rD G (fC o))) (ha : PE X a (tD G W da)) (hb : PE X b (tD G W db)) (hm : behindInMarks op b = false) : PT X (.Compare a [op] [b] pos) (tDT G W (dT (d2 (fC o) da db))) :=
  PT.weak (pt_cmpR ho ha hb hm) fun σ H Q ⟨ρ, sp, h, sl, hr, p⟩ => to2 (W := W) ⟨ρ, sp, h, sl, hr, p.ofTru fun v h' e => d2_bl (fun _ _ _ _ _ => fC_bl) e⟩

/-- and, or, not, if -/
def dAnd (da db : Dn) : Dn := fun σ h => (da σ h).bind fun x h1 => (opt (truth h1 x) h1).bind fun t h2 => if t = true then db σ h2 else .ok x h2
def dOr (da db : Dn) : Dn := fun σ h => (da σ h).bind fun x h1 => (opt (truth h1 x) h1).bind fun t h2 => if t = true then .ok x h2 else db σ h2
def dNot (da : Dn) : Dn := fun σ h => (tru (da σ h)).bind fun b h1 => .ok (.bl (!b)) h1
def dIte (dc da db : Dn) : Dn := fun σ h => (tru (dc σ h)).bind fun t h1 => if t = true then da σ h1 else db σ h1
variable {rest : List Expr}
theorem pd_and (hK : X.K = G.K) (ha : PE X a (tD G W da)) (hb : PE X (.BoolOp .And (b :: rest) pos) (tD G W db)) : PE X (.BoolOp .And (a :: b :: rest) pos) (tD G W (dAnd da db)) :=
  PE.weak (pe_andT ha hb) fun σ H Q ⟨ρ, sp, h, sl, hr, p⟩ => ⟨ρ, sp, h, sl, hr, Post.bind p fun x h1 ρ1 H1 v e le k hr1 rx p1 => by
    obtain ⟨t, et, p2⟩ := Post.optBind p1
    refine ⟨t, by rw [hK]; exact truth_rel hr1 rx et, ?_⟩
    cases t with
    | true => exact ⟨ρ1, sp, h1, sl.mono le k, hr1, p2⟩
    | false => exact Post.now (rel := relV G) p2 hr1 rx⟩
theorem pd_or (hK : X.K = G.K) (ha : PE X a (tD G W da)) (hb : PE X (.BoolOp .Or (b :: rest) pos) (tD G W db)) : PE X (.BoolOp .Or (a :: b :: rest) pos) (tD G W (dOr da db)) :=
  PE.weak (pe_orT ha hb) fun σ H Q ⟨ρ, sp, h, sl, hr, p⟩ => ⟨ρ, sp, h, sl, hr, Post.bind p fun x h1 ρ1 H1 v e le k hr1 rx p1 => by
    obtain ⟨t, et, p2⟩ := Post.optBind p1
    refine ⟨t, by rw [hK]; exact truth_rel hr1 rx et, ?_⟩
    cases t with
    | true => exact Post.now (rel := relV G) p2 hr1 rx
    | false => exact ⟨ρ1, sp, h1, sl.mono le k, hr1, p2⟩⟩
/-- the tests -/
def tAndP (da db : Dn) : Sl → PH → Res Bool := fun σ h => (dT da σ h).bind fun t h1 => if t = true then dT db σ h1 else .ok false h1
def tOrP (da db : Dn) : Sl → PH → Res Bool := fun σ h => (dT da σ h).bind fun t h1 => if t = true then .ok true h1 else dT db σ h1
theorem dT_and (da db : Dn) : dT (dAnd da db) = tAndP da db := by
  funext σ h
  show ((da σ h).bind _).bind _ = ((da σ h).bind _).bind _
  rw [bind_bind, bind_bind]
  congr 1
  funext x h1
  cases e : truth h1 x with
  | none => rfl
  | some t => cases t with
    | true => rfl
    | false => show opt (truth h1 x) h1 = _; rw [e]; rfl
theorem dT_or (da db : Dn) : dT (dOr da db) = tOrP da db := by
  funext σ h
  show ((da σ h).bind _).bind _ = ((da σ h).bind _).bind _
  rw [bind_bind, bind_bind]
  congr 1
  funext x h1
  cases e : truth h1 x with
  | none => rfl
  | some t => cases t with
    | false => rfl
    | true => show opt (truth h1 x) h1 = _; rw [e]; rfl
theorem pwd_and (ha : PT X a (tDT G W (dT da))) (hb : PW X (.BoolOp .And (b :: rest) pos) (tDT G W (dT db))) : PW X (.BoolOp .And (a :: b :: rest) pos) (tDT G W (dT (dAnd da db))) :=
  PW.weak (pw_and ha hb) fun σ H Q ⟨ρ, sp, h, sl, hr, p⟩ => ⟨ρ, sp, h, sl, hr, by
    rw [dT_and] at p
    exact Post.bind p fun t h1 ρ1 H1 v e le k hr1 rx p1 => by
      cases (show t = v from rx)
      cases t with
      | true => exact ⟨ρ1, sp, h1, sl.mono le k, hr1, p1⟩
      | false => exact Post.now (rel := relB) p1 hr1 rfl⟩
theorem pwd_or (ha : PT X a (tDT G W (dT da))) (hb : PW X (.BoolOp .Or (b :: rest) pos) (tDT G W (dT db))) : PW X (.BoolOp .Or (a :: b :: rest) pos) (tDT G W (dT (dOr da db))) :=
  PW.weak (pw_or ha hb) fun σ H Q ⟨ρ, sp, h, sl, hr, p⟩ => ⟨ρ, sp, h, sl, hr, by
    rw [dT_or] at p
    exact Post.bind p fun t h1 ρ1 H1 v e le k hr1 rx p1 => by
      cases (show t = v from rx)
      cases t with
      | false => exact ⟨ρ1, sp, h1, sl.mono le k, hr1, p1⟩
      | true => exact Post.now (rel := relB) p1 hr1 rfl⟩
theorem pd_not (hK : X.K = G.K) (ha : PE X a (tD G W da)) : PE X (.UnaryOp .Not a pos) (tD G W (dNot da)) :=
  PE.weak (pe_notT ha) fun σ H Q ⟨ρ, sp, h, sl, hr, p⟩ => ⟨ρ, sp, h, sl, hr, by
    have p' : Post G (fun cls e H' => W cls e σ H') ρ H relB (tru (da sp h)) (fun b H' => Q (.bl (!b)) H') := Post.mapX (rel := relB) p fun t h1 ρ1 H1 v e le k hr1 rx p1 => by
      cases (show t = v from rx)
      exact bl_rel p1 hr1
    rw [hK]
    exact p'.ofTruth⟩
theorem ptd_not (ha : PT X a (tDT G W (dT da))) : PT X (.UnaryOp .Not a pos) (tDT G W (dT (dNot da))) :=
  PT.weak (pt_not ha) fun σ H Q ⟨ρ, sp, h, sl, hr, p⟩ => ⟨ρ, sp, h, sl, hr, by
    have e : dT (dNot da) sp h = (dT da sp h).bind fun b h1 => .ok (!b) h1 := by
      show ((tru (da sp h)).bind _).bind _ = _
      rw [bind_bind]
      rfl
    rw [e] at p
    exact Post.bind p fun t h1 ρ1 H1 v e le k hr1 rx p1 => by
      cases (show t = v from rx)
      exact Post.now (rel := relB) p1 hr1 rfl⟩
theorem pd_ite (hc : PT X c (tDT G W (dT dc))) (ha : PE X a (tD G W da)) (hb : PE X b (tD G W db)) : PE X (.IfExp c a b pos) (tD G W (dIte dc da db)) :=
  PE.weak (pe_ifExp hc ha hb) fun σ H Q ⟨ρ, sp, h, sl, hr, p⟩ => ⟨ρ, sp, h, sl, hr, Post.bind p fun t h1 ρ1 H1 v e le k hr1 rx p1 => by
    cases (show t = v from rx)
    cases t with
    | true => exact ⟨ρ1, sp, h1, sl.mono le k, hr1, p1⟩
    | false => exact ⟨ρ1, sp, h1, sl.mono le k, hr1, p1⟩⟩
def dCh (o p : Cop) (da db dc : Dn) : Dn := fun σ h => (da σ h).bind fun x h1 => (db σ h1).bind fun y h2 => (opt (cop o x y h2) h2).bind fun t h3 =>
      if t = true then (dc σ h3).bind fun z h4 => (opt (cop p y z h4) h4).bind fun t h5 => .ok (.bl t) h5 else .ok (.bl false) h3
theorem toCh {o p : Cop} {σ : L2.St} {H : Hp} {Q : VK} (h : tD G W (dCh o p da db dc) σ H Q) : tChain (rD G (fC o)) (rD G (fC p)) (tD G W da) (tD G W db) (tD G W dc) σ H Q := by
  obtain ⟨ρ, sp, h, sl, hr, pp⟩ := h
  refine ⟨ρ, sp, h, sl, hr, Post.bind pp fun x h1 ρ1 H1 v _ le k hr1 rx p1 => ⟨ρ1, sp, h1, sl.mono le k, hr1, Post.bind p1 fun y h2 ρ2 H2 u _ le2 k2 hr2 ry p2 => ?_⟩⟩
  refine ⟨fun _ _ _ => False, ρ2, h2, x, y, hr2, VR.mono le2 k2 rx, ry, ?_⟩
  obtain ⟨t, et, p3⟩ := Post.optBind p2
  show Post G _ ρ2 H2 (relV G) ((opt (cop o x y h2) h2).bind _) _
  rw [et]
  intro ρ3 H3 b le3 k3 hr3 rb
  have : b = V.bl t := VR.bl_inv rb
  refine ⟨t, this, ?_⟩
  cases t with
  | true =>
    refine ⟨ρ3, sp, h2, ((sl.mono le k.toKeep).mono le2 k2.toKeep).mono le3 k3.toKeep, hr3, Post.bind (Post.base p3 le3 k3) fun z h4 ρ4 H4 w _ le4 k4 hr4 rz p4 => ?_⟩
    exact ⟨_, ρ4, h4, y, z, hr4, VR.mono le4 k4.toKeep (VR.mono le3 k3.toKeep ry), rz, p4⟩
  | false => exact p3 ρ3 H3 _ le3 k3 hr3 (.bl false)
theorem pd_chain {op op' : CmpOp} {o p : Cop} (ho : OpR X (compareOp op) (rD G (fC o))) (ho' : OpR X (compareOp op') (rD G (fC p))) (ha : PE X a (tD G W da)) (hb : PE X b (tD G W db)) (hc : PE X c (tD G W dc)) (hm : lastMarks [op, op'] [b, c] = false) :
    PE X (.Compare a [op, op'] [b, c] pos) (tD G W (dCh o p da db dc)) := PE.weak (pe_chain ho ho' ha hb hc hm) fun _ _ _ h => toCh h
theorem dCh_bl {o p : Cop} {σ : Sl} {h h' : PH} {v : PV} (e : dCh o p da db dc σ h = .ok v h') : ∃ b, v = .bl b := by
  unfold dCh at e
  cases e1 : da σ h with
  | ok x h1 =>
    rw [e1, Res.bind_ok] at e
    cases e2 : db σ h1 with
    | ok y h2 =>
      rw [e2, Res.bind_ok] at e
      cases e3 : cop o x y h2 with
      | none => rw [e3] at e; cases e
      | some t =>
        rw [e3] at e
        cases t with
        | false => cases e; exact ⟨_, rfl⟩
        | true =>
          have e' : (dc σ h2).bind (fun z h4 => (opt (cop p y z h4) h4).bind fun t h5 => Res.ok (.bl t) h5) = .ok v h' := e
          cases e4 : dc σ h2 with
          | ok z h4 => rw [e4, Res.bind_ok] at e'; exact fC_bl e'
          | _ => rw [e4] at e'; cases e'
    | _ => rw [e2] at e; cases e
  | _ => rw [e1] at e; cases e
theorem ptd_chain {op op' : CmpOp} {o p : Cop} (ho : OpR X (compareOp op) (rD G (fC o))) (ho' : OpR X (compareOp op') (rD G (fC p))) (ha : PE X a (tD G W da)) (hb : PE X b (tD G W db)) (hc : PE X c (tD G W dc)) (hm : lastMarks [op, op'] [b, c] = false) :
    PT X (.Compare a [op, op'] [b, c] pos) (tDT G W (dT (dCh o p da db dc))) := PT.weak (pt_chain ho ho' ha hb hc hm) fun σ H Q ⟨ρ, sp, h, sl, hr, p⟩ => toCh (W := W) ⟨ρ, sp, h, sl, hr, p.ofTru fun v h' e => dCh_bl e⟩
end
end Fx

/-! Displays, subscripts, calls. -/
namespace Fx
open PySem PySem.Spec PyProof.Rows L2
abbrev Da := Sl → PH → Res (List PV)
section
variable {G : Glob} {X : Cx} {W : WX} {e o : Expr} {es : List Expr} {d dx : Dn} {ds : Da} {pos p1 p2 apos : Pos}

/-! ### names, constants -/
theorem pd_var {i : Nat} {x : Str} (hN : X.N[i]? = some x) (hv : Vis X.env.scope x) (hd : (x == ("__debug__" : Str)) = false) (hcd : (x == ("__classdict__" : Str)) = false) : PE X (.Name x pos) (tD G W fun σ h => Fx.opt (σ[i]?.join) h) :=
  PE.weak (pe_var hN hv hd hcd) fun σ H Q ⟨ρ, sp, h, sl, hr, p⟩ => by
    obtain ⟨a, ea, p1⟩ := Post.opt p
    obtain ⟨q, eq, e2⟩ := Option.join_eq_some_iff.mp ea |> fun z => (⟨_, z, rfl⟩ : ∃ q, sp[i]? = some q ∧ q = some a)
    subst e2
    obtain ⟨v, ev, rv⟩ := sl.2 i a eq
    exact ⟨v, ev, Post.now (rel := relV G) p1 hr rv⟩
theorem pd_cst {v : V} {c : PV} (hp : PE X e (tC v)) (r : ∀ ρ H, VR G.K ρ H c v) : PE X e (tD G W fun _ h => .ok c h) :=
  PE.weak hp fun σ H Q ⟨ρ, sp, h, sl, hr, p⟩ => Post.now (rel := relV G) p hr (r ρ H)

/-! ### arguments -/
def isStar : Expr → Bool
  | .Starred .. => true
  | _ => false
theorem starEach_cons (h : isStar e = false) (env : Env) : starEach (e :: es) env = (false, eval e env) :: starEach es env := by
  cases e <;> first | rfl | cases h
def plainA (es : List Expr) : Bool := es.all fun e => !isStar e
theorem starEach_plain (h : plainA es = true) (env : Env) : ∀ x ∈ starEach es env, x.1 = false := by
  induction es with
  | nil => intro x hx; exact absurd hx (by unfold starEach; simp)
  | cons e es ih =>
    unfold plainA at h
    rw [List.all_cons, Bool.and_eq_true] at h
    intro x hx
    rw [starEach_cons (by simpa using h.1)] at hx
    rcases List.mem_cons.mp hx with q | q
    · rw [q]
    · exact ih h.2 x q
theorem any_plain (h : plainA es = true) (env : Env) : (backTo pos (starEach es env)).any (·.1) = false := by
  rw [List.any_eq_false]
  intro x hx
  unfold backTo at hx
  obtain ⟨y, hy, rfl⟩ := List.mem_map.mp hx
  simp [starEach_plain h env y hy]
def dNil : Da := fun _ h => .ok [] h
def dCons (d : Dn) (ds : Da) : Da := fun σ h => (d σ h).bind fun x h1 => (ds σ h1).bind fun xs h2 => .ok (x :: xs) h2
def dStar (d : Dn) (ds : Da) : Da := fun σ h => (d σ h).bind fun x h1 => (Fx.opt (seqOf h1 x) h1).bind fun ys h2 => (ds σ h2).bind fun xs h3 => .ok (ys ++ xs) h3
theorem pd_nil : PA X [] (tDA G W dNil) := PA.weak pa_nil fun σ H Q ⟨ρ, sp, h, sl, hr, p⟩ => Post.now (rel := relVs G) p hr .nil
theorem pd_cons (hs : isStar e = false) (he : PE X e (tD G W d)) (hes : PA X es (tDA G W ds)) : PA X (e :: es) (tDA G W (dCons d ds)) :=
  PA.weak (pa_cons he hes (starEach_cons hs _)) fun σ H Q ⟨ρ, sp, h, sl, hr, p⟩ => ⟨ρ, sp, h, sl, hr, Post.bind p fun x h1 ρ1 H1 v _ le k hr1 rx p1 => ⟨ρ1, sp, h1, sl.mono le k, hr1, Post.bind p1 fun xs h2 ρ2 H2 vs _ le2 k2 hr2 rxs p2 =>
    Post.now (rel := relVs G) p2 hr2 (.cons (VR.mono le2 k2 rx) rxs)⟩⟩
theorem pd_star (hK : X.K = G.K) (he : PE X e (tD G W d)) (hes : PA X es (tDA G W ds)) : PA X (.Starred e pos :: es) (tDA G W (dStar d ds)) :=
  PA.weak (StX.pa_star he hes rfl) fun σ H Q ⟨ρ, sp, h, sl, hr, p⟩ => ⟨ρ, sp, h, sl, hr, Post.bind p fun x h1 ρ1 H1 v _ le k hr1 rx p1 => by
    obtain ⟨ys, ey, p2⟩ := Post.optBind p1
    obtain ⟨a, vs, rfl, rs, hs⟩ := seqOf_rel hr1 rx ey
    refine ⟨a, vs, rfl, ?_, ⟨ρ1, sp, h1, sl.mono le k, hr1, Post.bind p2 fun xs h2 ρ2 H2 ws _ le2 k2 hr2 rxs p3 => Post.now (rel := relVs G) p3 hr2 (VRs.append (VRs.mono le2 k2 rs) rxs)⟩⟩
    rw [hK]
    exact hs.symm⟩

/-! ### displays -/
def dTup (ds : Da) : Dn := fun σ h => (ds σ h).bind fun vs h1 => if vs.length ≤ LINE then .ok (.tup vs) h1 else .no
def dLst (ds : Da) : Dn := fun σ h => (ds σ h).bind fun vs h1 => if vs.length ≤ LINE then alloc (.lst vs) h1 else .no
theorem pd_tup {k : Nat} (h : PA X es (tDA G W ds)) : PE X (.Tuple es k pos) (tD G W (dTup ds)) :=
  PE.weak (pe_tup h) fun σ H Q ⟨ρ, sp, h, sl, hr, p⟩ => ⟨ρ, sp, h, sl, hr, Post.bind p fun xs h1 ρ1 H1 vs _ le k hr1 rx p1 => by
    have rxs : VRs G.K ρ1 H1 xs vs := rx
    split at p1
    · rename_i hl
      exact ⟨by rw [← LINE_eq, ← rxs.length]; exact hl, Post.newTup p1 hr1 rxs⟩
    · exact False.elim p1⟩
theorem pd_lst (h : PA X es (tDA G W ds)) : PE X (.List es pos) (tD G W (dLst ds)) :=
  PE.weak (pe_lst h) fun σ H Q ⟨ρ, sp, h, sl, hr, p⟩ => ⟨ρ, sp, h, sl, hr, Post.bind p fun xs h1 ρ1 H1 vs _ le k hr1 rx p1 => by
    have rxs : VRs G.K ρ1 H1 xs vs := rx
    split at p1
    · rename_i hl
      exact ⟨by rw [← LINE_eq, ← rxs.length]; exact hl, Post.newList p1 hr1 rxs⟩
    · exact False.elim p1⟩

/-! ### subscripts -/
theorem atI_rel {K : PySem.W.Frag} {ρ : List Addr} {H : Hp} {l : List PV} {vs : List V} {i : Int} {p : PV} (r : VRs K ρ H l vs) (e : atI l i = some p) : ∃ v, atI vs i = some v ∧ VR K ρ H p v := by
  unfold atI at e ⊢
  rw [← r.length]
  obtain ⟨j, h1, h2⟩ := Option.bind_eq_some_iff.mp e
  obtain ⟨v, h3, h4⟩ := r.get h2
  exact ⟨v, by rw [h1]; exact h3, h4⟩
theorem ix_any (hK : X.K = G.K) (hu : X.A.units + 1 < cLine) : IxR X (rD G fun x i h => Fx.opt (getIx h x i) h) := by
  intro value slice pins s σ H x y v u Q I rx ry ⟨Wx, ρ, h, p, q, hr, rp, rq, pq⟩ hs
  obtain ⟨w, ew, p2⟩ := Post.opt pq
  have dic : ∀ {n : Nat} {a : Addr} {kvs : List (Key × PV)} {k : Key}, p = .ref n → ρ[n]? = some a → h.get n = some (.dic kvs) → findK kvs k = some w → x = .ref a → y = kV k → wpAny (model X.prog X.w) X.A (subscriptTail value slice v u) (EP X pins σ Q) X.xe s := by
    intro n a kvs k ep ea en ef ex ey
    subst ex; subst ey
    obtain ⟨ws, h1, r⟩ := hr.at_ en ea
    obtain ⟨z, e1, rz⟩ := valV_some r ef
    obtain rfl : v = Value.ref a := rx
    have g : DGet H a (kV k) (some z) := by rw [← e1]; exact DGet.k h1
    exact tail_any (dict_typeIs I g) PySem.F.slot_dict_getitem.lookup (d_getItem hu I g ry fun w' s3 I3 rw' => ⟨z, H, I3, rw', Post.now (rel := relV G) p2 hr rz⟩) hs
  cases rq with
  | int i =>
    simp only [getIx] at ew
    split at ew
    · rename_i l hl
      obtain ⟨a, vs, rfl, rs, hq⟩ := seqOf_rel hr rp hl
      obtain ⟨z, ez, rz⟩ := atI_rel rs ew
      rcases hq with hq | hq
      · exact ix_list value slice pins s σ H _ _ v u Q I rx ry ⟨a, vs, i, z, rfl, rfl, hK ▸ hq, ez, Post.now (rel := relV G) p2 hr rz⟩ hs
      · exact ix_tup value slice pins s σ H _ _ v u Q I rx ry ⟨a, vs, i, z, rfl, rfl, hK ▸ hq, ez, Post.now (rel := relV G) p2 hr rz⟩ hs
    · split at ew
      · split at ew
        · rename_i kvs en
          obtain ⟨a, rfl, ea⟩ := rp.ref_inv
          exact dic rfl ea en ew rfl rfl
        · cases ew
      · cases ew
  | str z =>
    simp only [getIx] at ew
    split at ew
    · split at ew
      · rename_i kvs en
        obtain ⟨a, rfl, ea⟩ := rp.ref_inv
        exact dic rfl ea en ew rfl rfl
      · cases ew
    · cases ew
  | _ => cases ew
def isSlice : Expr → Bool
  | .Slice .. => true
  | _ => false
theorem plainIx {b : Expr} (h : isSlice b = false) : PlainIx b := fun o i => by
  cases b <;> first | rfl | cases h
theorem pd_idx {b : Expr} {db : Dn} (hK : X.K = G.K) (hu : X.A.units + 1 < cLine) (ha : PE X e (tD G W d)) (hb : PE X b (tD G W db)) (hs : isSlice b = false) : PE X (.Subscript e b pos) (tD G W (d2 (fun x i h => Fx.opt (getIx h x i) h) d db)) :=
  PE.weak (pe_ix (ix_any hK hu) ha hb (plainIx hs)) fun _ _ _ h => to2 h
abbrev Do := Sl → PH → Res (Option Int)
def dPart (d : Dn) : Do := fun σ h => (d σ h).bind fun x h1 => match x with
    | .int i => .ok (some i) h1
    | _ => .no
def dNoP : Do := fun _ h => .ok none h
theorem pd_none : L2.PO X none (tDO G W dNoP) := ⟨fun pins s σ H Q I ⟨ρ, sp, h, sl, hr, p⟩ => po_none.run pins s σ H Q I (Post.now (rel := relOI) p hr rfl)⟩
theorem pd_some (he : PE X e (tD G W d)) : L2.PO X (some e) (tDO G W (dPart d)) := ⟨fun pins s σ H Q I ⟨ρ, sp, h, sl, hr, p⟩ => (po_some he).run pins s σ H Q I ⟨ρ, sp, h, sl, hr, Post.bind p fun x h1 ρ1 H1 v _ le k hr1 rx p1 => by
  cases x with
  | int i => exact ⟨i, VR.int_inv rx, Post.now (rel := relOI) p1 hr1 rfl⟩
  | _ => exact False.elim p1⟩⟩
def dSlc (d : Dn) (dl du : Do) : Dn := fun σ h => (d σ h).bind fun x h1 => (dl σ h1).bind fun l h2 => (du σ h2).bind fun u h3 => slice x l u h3
theorem cut_rel {K : PySem.W.Frag} {ρ : List Addr} {H : Hp} {l : List PV} {vs : List V} (r : VRs K ρ H l vs) (lo hi : Option Int) : VRs K ρ H (cutP l lo hi) (cutV vs lo hi) := by
  unfold cutP cutV
  rw [← r.length]
  exact VRs.take _ (VRs.drop _ r)
theorem pd_slc {lo hi : Option Expr} {dl du : Do} (hK : X.K = G.K) (ha : PE X e (tD G W d)) (hl : L2.PO X lo (tDO G W dl)) (hh : L2.PO X hi (tDO G W du)) : PE X (.Subscript e (.Slice lo hi none p2) pos) (tD G W (dSlc d dl du)) :=
  PE.weak (pe_slice (sl_list.or sl_tupA) ha hl hh) fun σ H Q ⟨ρ, sp, h, sl, hr, p⟩ => ⟨ρ, sp, h, sl, hr, Post.bind p fun x h1 ρ1 H1 v _ le k hr1 rx p1 => ⟨ρ1, sp, h1, sl.mono le k, hr1, Post.bind p1 fun l h2 ρ2 H2 l' _ le2 k2 hr2 rl p2 =>
    ⟨ρ2, sp, h2, (sl.mono le k.toKeep).mono le2 k2.toKeep, hr2, Post.bind p2 fun u h3 ρ3 H3 u' _ le3 k3 hr3 ru p3 => by
      cases (show l = l' from rl)
      cases (show u = u' from ru)
      have rx3 : VR G.K ρ3 H3 x v := VR.mono le3 k3.toKeep (VR.mono le2 k2.toKeep rx)
      cases rx3 with
      | @tup l0 a vs s r =>
        refine .inr ⟨a, vs, rfl, hK ▸ s, fun ⟨e1, e2⟩ => ?_, fun _ => ?_⟩
        · have : cutP l0 l u = l0 := by
            unfold cutP
            rw [r.length, e1, e2, ← r.length]
            simp
          have p4 : Post G (fun cls e H' => W cls e σ H') ρ3 H3 (relV G) (.ok (.tup (cutP l0 l u)) h3) Q := p3
          rw [this] at p4
          exact Post.now (rel := relV G) p4 hr3 (.tup s r)
        · exact Post.newTup p3 hr3 (cut_rel r l u)
      | @ref n a ea =>
        simp only [slice] at p3
        split at p3
        · rename_i l0 el
          obtain ⟨vs, h1, r⟩ := hr3.at_ el ea
          exact .inl ⟨a, vs, rfl, .inl (.inl h1), Post.newList p3 hr3 (cut_rel r l u)⟩
        · rename_i l0 el
          obtain ⟨vs, h1, r⟩ := hr3.at_ el ea
          exact .inl ⟨a, vs, rfl, .inl h1, Post.newList p3 hr3 (cut_rel r l u)⟩
        · exact False.elim p3
      | _ => exact False.elim p3⟩⟩⟩

/-! ### fields -/
def isCall0 : Expr → Bool
  | .Call (.Name ..) [] [] _ => true
  | _ => false
theorem base_eq (h : isCall0 o = false) (f : Str) (env : Env) (w : Sem Value) : attributeBase o f env w = w := by
  unfold attributeBase
  split
  · simp [isCall0] at h
  · rfl
theorem lookup_rel {K : PySem.W.Frag} {ρ : List Addr} {H : Hp} {C : Addr} {f : Nat} {name : Str} {p : PV} (nd : G.nms.Nodup) (hn : G.nms[f]? = some name) : ∀ {fs : List (Nat × PV)} {ws : List (Str × V)}, KVR (fun f name => G.nms[f]? = some name ∧ NoAttr K C name) K ρ H fs ws →
    fs.lookup f = some p → ∃ v, ws.lookup name = some v ∧ VR K ρ H p v ∧ NoAttr K C name
  | [], _, .nil, e => by cases e
  | (g, p') :: fs, (n2, v) :: ws, .cons a r, e => by
    obtain ⟨⟨e1, e0⟩, e2⟩ := a
    rw [List.lookup_cons] at e
    by_cases hk : f = g
    · subst hk
      have e3 : G.nms[f]? = some n2 := e1
      rw [hn] at e3
      cases e3
      simp only [beq_self_eq_true] at e
      cases e
      exact ⟨v, by simp [List.lookup_cons], e2, e0⟩
    · have hb : (f == g) = false := beq_eq_false_iff_ne.mpr hk
      rw [hb] at e
      obtain ⟨v', h1, h2⟩ := lookup_rel nd hn r e
      refine ⟨v', ?_, h2⟩
      have hne : name ≠ n2 := fun z => hk (by
        subst z
        have e3 : G.nms[g]? = some name := e1
        obtain ⟨l1, q1⟩ := List.getElem?_eq_some_iff.mp hn
        obtain ⟨l2, q2⟩ := List.getElem?_eq_some_iff.mp e3
        exact (List.getElem_inj nd).mp (q1.trans q2.symm))
      rw [List.lookup_cons, beq_eq_false_iff_ne.mpr hne]
      exact h1
theorem lookup_name {K : PySem.W.Frag} {ρ : List Addr} {H : Hp} {C : Addr} {f : Nat} {p : PV} : ∀ {fs : List (Nat × PV)} {ws : List (Str × V)}, KVR (fun f name => G.nms[f]? = some name ∧ NoAttr K C name) K ρ H fs ws → fs.lookup f = some p → ∃ name, G.nms[f]? = some name
  | [], _, .nil, e => by cases e
  | (g, p') :: fs, (n2, v) :: ws, .cons a r, e => by
    rw [List.lookup_cons] at e
    by_cases hk : f = g
    · subst hk; exact ⟨_, a.1.1⟩
    · rw [beq_eq_false_iff_ne.mpr hk] at e
      exact lookup_name r e
def dFld (d : Dn) (f : Nat) : Dn := fun σ h => (d σ h).bind fun x h1 => Fx.opt (getFld x f h1) h1
theorem pd_fld {f : Nat} {name : Str} (hK : X.K = G.K) (hn : G.nms[f]? = some name) (ho : PE X o (tD G W d)) (hb : isCall0 o = false) : PE X (.Attribute o name pos) (tD G W (dFld d f)) :=
  PE.weak (pe_fld ho (base_eq hb _ _ _)) fun σ H Q ⟨ρ, sp, h, sl, hr, p⟩ => ⟨ρ, sp, h, sl, hr, Post.bind p fun x h1 ρ1 H1 v _ le k hr1 rx p1 => by
    obtain ⟨w, ew, p2⟩ := Post.opt p1
    unfold getFld at ew
    split at ew
    · rename_i n
      split at ew
      · rename_i c fs en
        obtain ⟨a, rfl, ea⟩ := VR.ref_inv rx
        obtain ⟨dx, ws, h2, hc, r⟩ := hr1.at_ en ea
        obtain ⟨z, e1, rz, na⟩ := lookup_rel G.nd hn r ew
        exact ⟨a, G.cm c, dx, ws, z, rfl, h2, by rw [hK]; exact hc, by rw [hK]; exact na, e1, Post.now (rel := relV G) p2 hr1 rz⟩
      · cases ew
    · cases ew⟩

/-! ### calls -/
def spOf (G : Glob) (R : Rn) (f : Nat) : Sp := fun vs H Q E => ∃ ρ args h, HR G ρ h H ∧ VRs G.K ρ H args vs ∧ Post G E ρ H (relV G) (R f args h) Q
abbrev FnC (G : Glob) (X : Cx) (j : Nat) (R : Rn) (f : Nat) : Prop := FnOk X.prog X.w X.K X.mg X.base (L2.CX X.prog X.w) j (G.fa f) (G.fd f) (G.ps f) (spOf G R f)
/-- the values of the parameters that are not given -/
def Dfl (G : Glob) (K : PySem.W.Frag) (f : Nat) (dfs : List PV) : Prop := ∃ (dvs : List V) (dus : List Value), L2.Binds K (G.fd f) (G.ps f) dus ∧ Vals dvs dus ∧ ∀ ρ H, VRs G.K ρ H dfs dvs
def dCall (R : Rn) (f : Nat) (ds : Da) (dfs : List PV) : Dn := fun σ h => (ds σ h).bind fun vs h1 => R f (vs ++ dfs) h1
theorem pd_call {j f : Nat} {R : Rn} {x : Str} {dfs : List PV} (tk : Takes X W) (F : FnC G X j R f) (hr : Room j X.A) (hg : Gl X x) (hm : X.mg x = some (.ref (G.fa f))) (hk : PySem.W.keepIn X.K (.ref (G.fa f)) = true) (hd : Dfl G X.K f dfs)
    (hs : isStar e = false) (hp : plainA es = true) (hdb : (x == ("__debug__" : Str)) = false) (ha : PA X (e :: es) (tDA G W ds)) : PE X (.Call (.Name x p1) (e :: es) [] pos) (tD G W (dCall R f ds dfs)) := by
  obtain ⟨dvs, dus, hb, hv, hr'⟩ := hd
  exact PE.weak (pe_callSD (E := WE W) F hr hg hm hk hb hv (fun σ => passAt tk σ) ha hdb (starEach_cons hs _) (any_plain hp _)) fun σ H Q ⟨ρ, sp, h, sl, hr, p⟩ => ⟨ρ, sp, h, sl, hr, Post.bind p fun xs h1 ρ1 H1 vs _ le k hr1 rx p1 =>
    ⟨ρ1, _, h1, hr1, VRs.append rx (hr' ρ1 H1), p1⟩⟩
theorem pd_call0 {j f : Nat} {R : Rn} {x : Str} {dfs : List PV} (tk : Takes X W) (F : FnC G X j R f) (hr : Room j X.A) (hg : Gl X x) (hm : X.mg x = some (.ref (G.fa f))) (hk : PySem.W.keepIn X.K (.ref (G.fa f)) = true) (hd : Dfl G X.K f dfs)
    (hdb : (x == ("__debug__" : Str)) = false) : PE X (.Call (.Name x p1) [] [] pos) (tD G W (dCall R f dNil dfs)) := by
  obtain ⟨dvs, dus, hb, hv, hr'⟩ := hd
  refine ⟨fun pins s σ H Q I ⟨ρ, sp, h, sl, hr2, p⟩ => ?_⟩
  refine wpAny_Call_Name_kw (ld_glob I hg hm ?_ hdb)
  exact PySem.W.callWith_K0 I.kIn hk (run_fnSD (us := []) (vs := []) (E := WE W) F hr hb hv (passAt tk σ) I .nil ⟨ρ, _, h, hr2, hr' ρ H, p⟩)
/-- methods: the class's own -/
def MtOk (G : Glob) (K : PySem.W.Frag) : Prop := ∀ c m f, G.P.mt c m = some f → ∃ name, G.mns[m]? = some name ∧ Meth K (G.cm c) name (G.fa f) ∧ L2.Binds K (G.fd f) (G.ps f) []
theorem noField {K : PySem.W.Frag} {ρ : List Addr} {H : Hp} {C g : Addr} {m : Str} (k : Meth K C m g) : ∀ {fs : List (Nat × PV)} {ws : List (Str × V)}, KVR (fun f name => G.nms[f]? = some name ∧ NoAttr K C name) K ρ H fs ws → ws.lookup m = none
  | [], _, .nil => rfl
  | (f, p') :: fs, (n2, v) :: ws, .cons a r => by
    have hne : m ≠ n2 := fun z => by
      subst z
      have h1 := a.1.2
      unfold NoAttr at h1
      rw [k.at_] at h1
      cases h1
    rw [List.lookup_cons, beq_eq_false_iff_ne.mpr hne]
    exact noField k r
theorem meth_ht (hb : isCall0 o = false) (hp : plainA es = true) (hl : es.length < 30) (line : (apos.endLine == pos.line) = true) (name : Str) (env : Env) : eval (.Call (.Attribute o name apos) es [] pos) env = (do
      let ov ← eval o env
      standAt apos.atName
      let (f, first) ← holding [ov] (getMethod ov name (do return (← importBound o env).getD true))
      callWith pos f first (backTo pos (starEach es env)) (backToKw pos (keywordEach [] env))) := by
  have hf : methodCallForm (es.length + ([] : List Keyword).length) (backTo pos (starEach es env)) (backToKw pos (keywordEach [] env)) = true := by
    have h1 : (backTo pos (starEach es env)).all (!·.1) = true := by
      rw [List.all_eq_true]
      intro x hx
      unfold backTo at hx
      obtain ⟨y, hy, rfl⟩ := List.mem_map.mp hx
      simp [starEach_plain hp env y hy]
    unfold methodCallForm
    rw [h1]
    have h2 : (backToKw pos (keywordEach [] env)) = [] := rfl
    rw [h2]
    simp [hl]
  rw [arm_eval_Call, base_eq hb]
  unfold methodCall methodCallPos calleeOf
  rw [hf]
  simp only [Bool.not_true, Bool.false_or, line, if_true]
  rfl
end
end Fx

/-! Built-in functions, methods of lists, makers, comprehensions. -/
namespace Fx
open PySem PySem.Spec PyProof.Rows L2
section
variable {G : Glob} {X : Cx} {W : WX} {e o : Expr} {es : List Expr} {d dx : Dn} {ds : Da} {pos p1 p2 apos : Pos}

/-! ### built-in functions -/
def dBlt (b : Blt) (ds : Da) : Dn := fun σ h => (ds σ h).bind fun vs h1 => Fx.blt b vs h1
theorem toCB {f : List PV → PH → Res PV} {σ : L2.St} {H : Hp} {Q : VK} (h : tD G W (fun σ h => (ds σ h).bind fun vs h1 => f vs h1) σ H Q) : tCB (rDC G f) (tDA G W ds) σ H Q := by
  obtain ⟨ρ, sp, h, sl, hr, p⟩ := h
  exact ⟨ρ, sp, h, sl, hr, Post.bind p fun x h1 ρ1 H1 v _ le k hr1 rx p1 => ⟨_, ρ1, h1, x, hr1, rx, p1⟩⟩
theorem VRs.one_inv {K : PySem.W.Frag} {ρ : List Addr} {H : Hp} {p : PV} {vs : List V} (h : VRs K ρ H [p] vs) : ∃ v, vs = [v] ∧ VR K ρ H p v := by
  obtain ⟨v, r, rfl, h1, h2⟩ := h.cons_inv
  exact ⟨v, by rw [h2.nil_inv], h1⟩
theorem VRs.two_inv {K : PySem.W.Frag} {ρ : List Addr} {H : Hp} {p q : PV} {vs : List V} (h : VRs K ρ H [p, q] vs) : ∃ v w, vs = [v, w] ∧ VR K ρ H p v ∧ VR K ρ H q w := by
  obtain ⟨v, r, rfl, h1, h2⟩ := h.cons_inv
  obtain ⟨w, rfl, h3⟩ := h2.one_inv
  exact ⟨v, w, rfl, h1, h3⟩
theorem cr_len (hK : X.K = G.K) : CallR X (.builtin "len") (rDC G (Fx.blt .len)) := by
  intro pins s σ H xs us Q I rs ⟨Wx, ρ, h, ps, hr, rp, pq⟩
  match ps, rp, pq with
  | [], _, pq => exact False.elim pq
  | p :: _ :: _, _, pq => exact False.elim (by cases p <;> exact pq)
  | [p], rp, pq =>
    obtain ⟨v, rfl, rv⟩ := rp.one_inv
    cases rv with
    | str z =>
      have pq' : Post G Wx ρ H (relV G) (if z.length ≤ LINE then .ok (.int z.length) h else .no) Q := pq
      split at pq'
      · rename_i hl
        exact call_len pins s σ H _ us Q I rs ⟨_, _, rfl, ⟨by rw [← LINE_eq]; exact hl, rfl⟩, Post.now (rel := relV G) pq' hr (.int _)⟩
      · exact False.elim pq'
    | tup sq r =>
      have := Post.now (rel := relV G) (show Post G Wx ρ H (relV G) (.ok (.int _) h) Q from pq) hr (.int _)
      rw [r.length] at this
      exact call_len_seq pins s σ H _ us Q I rs ⟨_, _, rfl, .inr (hK ▸ sq), this⟩
    | @ref n a ea =>
      have pq' : Post G Wx ρ H (relV G) (match seqOf h (.ref n) with | some l => .ok (.int l.length) h | none => .no) Q := pq
      split at pq'
      · rename_i l hl
        obtain ⟨a', vs, e', r, sq⟩ := seqOf_rel hr (.ref ea) hl
        have := Post.now (rel := relV G) pq' hr (.int _)
        rw [r.length] at this
        cases e'
        exact call_len_seq pins s σ H _ us Q I rs ⟨_, _, rfl, hK ▸ sq, this⟩
      · exact False.elim pq'
    | _ => exact False.elim pq
theorem cr_int : CallR X (.type "int") (rDC G (Fx.blt .int)) := by
  intro pins s σ H xs us Q I rs ⟨Wx, ρ, h, ps, hr, rp, pq⟩
  match ps, rp, pq with
  | [], _, pq => exact False.elim pq
  | p :: _ :: _, _, pq => exact False.elim (by cases p <;> exact pq)
  | [p], rp, pq =>
    obtain ⟨v, rfl, rv⟩ := rp.one_inv
    cases rv with
    | int i => exact call_int1 pins s σ H _ us Q I rs (.inl ⟨i, rfl, Post.now (rel := relV G) pq hr (.int _)⟩)
    | bl b => exact call_int1 pins s σ H _ us Q I rs (.inr ⟨b, rfl, Post.now (rel := relV G) pq hr (.int _)⟩)
    | _ => exact False.elim pq
theorem cr_bool : CallR X (.type "bool") (rDC G (Fx.blt .bool)) := by
  intro pins s σ H xs us Q I rs ⟨Wx, ρ, h, ps, hr, rp, pq⟩
  match ps, rp, pq with
  | [], _, pq => exact False.elim pq
  | p :: _ :: _, _, pq => exact False.elim (by cases p <;> exact pq)
  | [p], rp, pq =>
    obtain ⟨v, rfl, rv⟩ := rp.one_inv
    cases rv with
    | int i => exact call_bool1 pins s σ H _ us Q I rs (.inl ⟨i, rfl, Post.now (rel := relV G) pq hr (.bl _)⟩)
    | bl b => exact call_bool1 pins s σ H _ us Q I rs (.inr ⟨b, rfl, Post.now (rel := relV G) pq hr (.bl _)⟩)
    | _ => exact False.elim pq
theorem cr_tuple (hK : X.K = G.K) : CallR X (.type "tuple") (rDC G (Fx.blt .tuple)) := by
  intro pins s σ H xs us Q I rs ⟨Wx, ρ, h, ps, hr, rp, pq⟩
  match ps, rp, pq with
  | [], _, pq => exact False.elim pq
  | p :: _ :: _, _, pq => exact False.elim (by cases p <;> exact pq)
  | [p], rp, pq =>
    obtain ⟨v, rfl, rv⟩ := rp.one_inv
    have pq' : Post G Wx ρ H (relV G) (match seqOf h p with | some l => .ok (.tup l) h | none => .no) Q := pq
    split at pq'
    · rename_i l hl
      obtain ⟨a, vs, rfl, r, sq⟩ := seqOf_rel hr rv hl
      refine call_tuple_of pins s σ H _ us Q I rs ⟨a, vs, rfl, ?_⟩
      rcases sq with sq | sq
      · exact .inl ⟨hK ▸ sq, Post.newTup pq' hr r⟩
      · exact .inr ⟨hK ▸ sq, Post.now (rel := relV G) pq' hr (.tup sq r)⟩
    · exact False.elim pq'
theorem cr_list (hK : X.K = G.K) : CallR X (.type "list") (rDC G (Fx.blt .list)) := by
  intro pins s σ H xs us Q I rs ⟨Wx, ρ, h, ps, hr, rp, pq⟩
  match ps, rp, pq with
  | [], _, pq => exact False.elim pq
  | p :: _ :: _, _, pq => exact False.elim (by cases p <;> exact pq)
  | [p], rp, pq =>
    obtain ⟨v, rfl, rv⟩ := rp.one_inv
    have pq' : Post G Wx ρ H (relV G) (match seqOf h p with | some l => alloc (.lst l) h | none => .no) Q := pq
    split at pq'
    · rename_i l hl
      obtain ⟨a, vs, rfl, r, sq⟩ := seqOf_rel hr rv hl
      exact call_list_of pins s σ H _ us Q I rs ⟨a, vs, rfl, hK ▸ sq, Post.newList pq' hr r⟩
    · exact False.elim pq'
theorem cr_min (hc : X.calm = true) : CallR X (.builtin "min") (rDC G (Fx.blt .min2)) := by
  intro pins s σ H xs us Q I rs ⟨Wx, ρ, h, ps, hr, rp, pq⟩
  rcases ps with _ | ⟨p, _ | ⟨q, _ | ⟨w, ws⟩⟩⟩
  · exact False.elim pq
  · exact False.elim (by cases p <;> exact pq)
  rotate_left
  · exact False.elim (by cases p <;> cases q <;> exact pq)
  cases p <;> cases q <;> first | exact False.elim pq | skip
  rename_i i j
  obtain ⟨v, w, rfl, r1, r2⟩ := rp.two_inv
  cases r1.int_inv
  cases r2.int_inv
  exact call_min2 hc pins s σ H _ us Q I rs ⟨i, j, rfl, Post.now (rel := relV G) pq hr (.int _)⟩
theorem cr_max (hc : X.calm = true) : CallR X (.builtin "max") (rDC G (Fx.blt .max2)) := by
  intro pins s σ H xs us Q I rs ⟨Wx, ρ, h, ps, hr, rp, pq⟩
  rcases ps with _ | ⟨p, _ | ⟨q, _ | ⟨w, ws⟩⟩⟩
  · exact False.elim pq
  · exact False.elim (by cases p <;> exact pq)
  rotate_left
  · exact False.elim (by cases p <;> cases q <;> exact pq)
  cases p <;> cases q <;> first | exact False.elim pq | skip
  rename_i i j
  obtain ⟨v, w, rfl, r1, r2⟩ := rp.two_inv
  cases r1.int_inv
  cases r2.int_inv
  exact call_max2 hc pins s σ H _ us Q I rs ⟨i, j, rfl, Post.now (rel := relV G) pq hr (.int _)⟩
theorem insI_perm (i : Int) : ∀ l : List Int, (insI i l).Perm (i :: l)
  | [] => List.Perm.refl _
  | j :: r => by
    unfold insI
    split
    · exact List.Perm.refl _
    · exact (List.Perm.cons j (insI_perm i r)).trans (List.Perm.swap i j r)
theorem sortI_perm : ∀ l : List Int, (sortI l).Perm l
  | [] => List.Perm.refl _
  | i :: r => (insI_perm i (sortI r)).trans (List.Perm.cons i (sortI_perm r))
theorem insI_le (i : Int) : ∀ l : List Int, l.Pairwise (· ≤ ·) → (insI i l).Pairwise (· ≤ ·)
  | [], _ => List.pairwise_singleton _ _
  | j :: r, h => by
    obtain ⟨h1, h2⟩ := List.pairwise_cons.mp h
    unfold insI
    split
    · rename_i hij
      exact List.pairwise_cons.mpr ⟨fun y hy => by
        rcases List.mem_cons.mp hy with e | hy
        · rw [e]; exact hij
        · exact Int.le_trans hij (h1 y hy), h⟩
    · rename_i hij
      refine List.pairwise_cons.mpr ⟨fun y hy => ?_, insI_le i r h2⟩
      rcases List.mem_cons.mp ((insI_perm i r).mem_iff.mp hy) with e | hy
      · rw [e]; omega
      · exact h1 y hy
theorem sortI_le : ∀ l : List Int, (sortI l).Pairwise (· ≤ ·)
  | [] => .nil
  | i :: r => insI_le i _ (sortI_le r)
theorem sort_unique {l ns : List Int} (p : ns.Perm l) (s : ns.Pairwise (· ≤ ·)) : ns = sortI l :=
  List.Perm.eq_of_pairwise (fun a b _ _ h1 h2 => Int.le_antisymm h1 h2) s (sortI_le l) (p.trans (sortI_perm l).symm)
theorem intsOf_map : ∀ {l : List PV} {ns : List Int}, intsOf l = some ns → l = ns.map PV.int
  | [], ns, e => by cases e; rfl
  | .int i :: r, ns, e => by
    obtain ⟨ms, e1, rfl⟩ := Option.map_eq_some_iff.mp (show (intsOf r).map (i :: ·) = some ns from e)
    rw [intsOf_map e1]; rfl
  | .non :: _, _, e => by cases e
  | .bl _ :: _, _, e => by cases e
  | .str _ :: _, _, e => by cases e
  | .tup _ :: _, _, e => by cases e
  | .ref _ :: _, _, e => by cases e
theorem cr_sortD (hK : X.K = G.K) : CallR X (.builtin "sorted") (rDC G (Fx.blt .sorted)) := by
  intro pins s σ H xs us Q I rs ⟨Wx, ρ, h, ps, hr, rp, pq⟩
  unfold Fx.blt at pq
  split at pq <;> first | exact False.elim pq | (rename_i e _; cases e; done) | (rename_i e; cases e; done) | skip
  split at pq
  · rename_i l el
    split at pq
    · rename_i ns en
      split at pq
      · rename_i hl
        obtain ⟨v, rfl, rv⟩ := rp.one_inv
        obtain ⟨a, rfl, ea⟩ := rv.ref_inv
        obtain ⟨vs, h1, r⟩ := hr.at_ el ea
        rw [intsOf_map en] at r
        have ev := r.ints
        subst ev
        refine cr_sorted pins s σ H _ us Q I rs ⟨a, ns, rfl, .inl (.inl h1), hl, fun ns' p pm ps n => ?_⟩
        have e := sort_unique pm ps
        subst e
        exact Post.newList pq hr (VRs.of_ints _) p n
      · exact False.elim pq
    · exact False.elim pq
  · exact False.elim pq
theorem boot_sorted : bootBuiltins "sorted" = some (.builtin "sorted") := by first | rfl | decide +kernel
def bltName : Blt → Str
  | .len => "len" | .int => "int" | .tuple => "tuple" | .list => "list" | .min2 => "min" | .max2 => "max" | .bool => "bool" | .sorted => "sorted"
theorem pd_blt {b : Blt} (hK : X.K = G.K) (hc : X.calm = true) (hg : Gl X (bltName b)) (hm : X.mg (bltName b) = none) (hs : isStar e = false) (hp : plainA es = true) (ha : PA X (e :: es) (tDA G W ds)) : PE X (.Call (.Name (bltName b) p1) (e :: es) [] pos) (tD G W (dBlt b ds)) := by
  cases b with
  | len => exact PE.weak (pe_callB (cr_len hK) hg hm boot_len ha (by decide) (by decide) (starEach_cons hs _) (any_plain hp _)) fun _ _ _ h => toCB h
  | int => exact PE.weak (pe_callTy cr_int hg hm boot_int ha (by decide) (by decide) (starEach_cons hs _) (any_plain hp _)) fun _ _ _ h => toCB h
  | tuple => exact PE.weak (pe_callTy (cr_tuple hK) hg hm boot_tuple ha (by decide) (by decide) (starEach_cons hs _) (any_plain hp _)) fun _ _ _ h => toCB h
  | list => exact PE.weak (pe_callTy (cr_list hK) hg hm boot_list ha (by decide) (by decide) (starEach_cons hs _) (any_plain hp _)) fun _ _ _ h => toCB h
  | min2 => exact PE.weak (pe_callB (cr_min hc) hg hm boot_min ha (by decide) (by decide) (starEach_cons hs _) (any_plain hp _)) fun _ _ _ h => toCB h
  | max2 => exact PE.weak (pe_callB (cr_max hc) hg hm boot_max ha (by decide) (by decide) (starEach_cons hs _) (any_plain hp _)) fun _ _ _ h => toCB h
  | sorted => exact PE.weak (pe_callB (cr_sortD hK) hg hm boot_sorted ha (by decide) (by decide) (starEach_cons hs _) (any_plain hp _)) fun _ _ _ h => toCB h
  | bool => exact PE.weak (pe_callTy cr_bool hg hm boot_bool ha (by decide) (by decide) (starEach_cons hs _) (any_plain hp _)) fun _ _ _ h => toCB h

/-! ### isinstance -/
def tyName : Ty → String
  | .int => "int" | .bool => "bool" | .str => "str" | .tuple => "tuple" | .list => "list"
def kinds : List String := ["NoneType", "bool", "int", "str", "tuple", "list", "dict"]
theorem kit_all : ∀ a ∈ kinds, ∀ t : Ty, kitB a (tyName t) = some (a == tyName t || (a == "bool" && tyName t == "int")) := by
  intro a ha t
  revert a
  cases t <;> decide +kernel
theorem isT_rel {ρ : List Addr} {H : Hp} {h : PH} {p : PV} {x : V} {t : Ty} {b : Bool} (hr : HR G ρ h H) (r : VR G.K ρ H p x) (e : isT h t p = some b) : ∃ a ∈ kinds, TyX G.K H x (.type a) ∧ (a == tyName t || (a == "bool" && tyName t == "int")) = b := by
  cases r with
  | non => cases e; exact ⟨"NoneType", by simp [kinds], .base .non, by cases t <;> decide⟩
  | bl c => cases e; exact ⟨"bool", by simp [kinds], .base (.bl c), by cases t <;> decide⟩
  | int c => cases e; exact ⟨"int", by simp [kinds], .base (.int c), by cases t <;> decide⟩
  | str c => cases e; exact ⟨"str", by simp [kinds], .base (.str c), by cases t <;> decide⟩
  | tup s r =>
    cases e
    refine ⟨"tuple", by simp [kinds], ?_, by cases t <;> decide⟩
    rcases s with (s | ⟨o, s⟩) | ⟨o, its, n, h1, h2, _⟩
    · exact .base (.tup s)
    · exact .fTuple s
    · exact .kTuple h1 h2
  | @ref n a ea =>
    simp only [isT] at e
    split at e
    · rename_i l el
      cases e
      obtain ⟨vs, h1, _⟩ := hr.at_ el ea
      exact ⟨"list", by simp [kinds], .base (.lst h1), by cases t <;> decide⟩
    · rename_i l el
      cases e
      obtain ⟨vs, h1, _⟩ := hr.at_ el ea
      exact ⟨"dict", by simp [kinds], .base (.dK h1), by cases t <;> decide⟩
    · cases e
theorem boot_ty (t : Ty) : bootBuiltins (Str.ofString (tyName t)) = some (.type (tyName t)) := by
  cases t
  · exact boot_int
  · exact boot_bool
  · exact boot_str
  · exact boot_tuple
  · exact boot_list
def dIsi (d : Dn) (t : Ty) : Dn := fun σ h => (d σ h).bind fun x h1 => (Fx.opt (isT h1 t x) h1).bind fun b h2 => .ok (.bl b) h2
theorem pd_isi {t : Ty} (hK : X.K = G.K) (hg : Gl X "isinstance") (hm : X.mg "isinstance" = none) (hg2 : Gl X (Str.ofString (tyName t))) (hm2 : X.mg (Str.ofString (tyName t)) = none) (hs : isStar e = false) (he : PE X e (tD G W d)) :
    PE X (.Call (.Name "isinstance" p1) [e, .Name (Str.ofString (tyName t)) p2] [] pos) (tD G W (dIsi d t)) := by
  have ha : PA X [e, .Name (Str.ofString (tyName t)) p2] (tCons (tD G W d) (tCons (tC (.ty (tyName t))) tNil)) :=
    pa_cons he (pa_cons (pe_bltn (v := .ty (tyName t)) hg2 hm2 (boot_ty t) rfl (by cases t <;> decide) (by cases t <;> decide)) pa_nil rfl) (starEach_cons hs _)
  refine PE.weak (pe_callB call_isi hg hm boot_isinstance ha (by decide) (by decide) (starEach_cons hs _) rfl) fun σ H Q ⟨ρ, sp, h, sl, hr, p⟩ => ⟨ρ, sp, h, sl, hr, Post.bind p fun x h1 ρ1 H1 v _ le k hr1 rx p1 => ?_⟩
  obtain ⟨b, eb, p2⟩ := Post.optBind p1
  obtain ⟨a, ha, tx, e2⟩ := isT_rel hr1 rx eb
  refine ⟨v, .ty (tyName t), .type a, .type (tyName t), b, rfl, .ty _, hK ▸ tx, kit_ty (by rw [kit_all a ha t, e2]), bl_rel p2 hr1⟩

/-! ### methods of lists -/
theorem indexP_at {x : PV} : ∀ {l : List PV} {j : Nat}, indexP x l = some j → ∃ z, l[j]? = some z ∧ eqF z x = true ∧ ∀ m z', m < j → l[m]? = some z' → eqF z' x = false
  | [], j, e => by cases e
  | y :: r, j, e => by
    unfold indexP at e
    by_cases hy : eqF y x = true
    · rw [if_pos hy] at e
      cases e
      exact ⟨y, rfl, hy, fun m _ h => by omega⟩
    · rw [if_neg hy] at e
      obtain ⟨i, ei, rfl⟩ := Option.map_eq_some_iff.mp e
      obtain ⟨z, h1, h2, h3⟩ := indexP_at ei
      refine ⟨z, by simpa using h1, h2, fun m z' hm ez => ?_⟩
      cases m with
      | zero => simp at ez; subst ez; simpa using hy
      | succ m => exact h3 m z' (by omega) (by simpa using ez)
theorem index_rel {K : PySem.W.Frag} {ρ : List Addr} {H : Hp} {l : List PV} {vs : List V} {x : PV} {y : V} {j : Nat} (r : VRs K ρ H l vs) (rx : VR K ρ H x y) (f : flat x = true) (fl : l.all flat = true) (e : indexP x l = some j) :
    ∃ z, vs[j]? = some z ∧ eqV z y = true ∧ ∀ m z', m < j → vs[m]? = some z' → eqV z' y = false := by
  obtain ⟨z, h1, h2, h3⟩ := indexP_at e
  have fa : ∀ {m : Nat} {z : PV}, l[m]? = some z → flat z = true := fun h => List.all_eq_true.mp fl _ (List.mem_of_getElem? h)
  obtain ⟨v, e1, rv⟩ := r.get h1
  refine ⟨v, e1, by rw [eqF_rel rv rx (fa h1) f]; exact h2, fun m z' hm ez => ?_⟩
  cases hq : l[m]? with
  | none =>
    have := r.none hq
    rw [this] at ez; cases ez
  | some q =>
    obtain ⟨v2, e2, rv2⟩ := r.get hq
    rw [ez] at e2
    cases e2
    rw [eqF_rel rv2 rx (fa hq) f]
    exact h3 m q hm hq
def rDM (G : Glob) (f : PV → List PV → PH → Res PV) : V → List V → Hp → VK → Prop := fun x xs H Q => ∃ Wx ρ h p ps, HR G ρ h H ∧ VR G.K ρ H p x ∧ VRs G.K ρ H ps xs ∧ Post G Wx ρ H (relV G) (f p ps h) Q
theorem lst_wr {ρ : List Addr} {H : Hp} {h : PH} {n : Nat} {a : Addr} {l l' : List PV} {vs vs' : List V} {Wx : XK} {Q : VK} (hr : HR G ρ h H) (en : h.get n = some (.lst l)) (ea : ρ[n]? = some a) (h1 : H a = some (.lst vs)) (r : VRs G.K ρ H l' vs')
    (p : Post G Wx ρ H (relV G) (.ok .non (h.set n (.lst l'))) Q) : Q .non (upd H a (.lst vs')) := by
  have sf : Soft (H a) := by rw [h1]; trivial
  exact p ρ _ _ (Le.refl _) (Frm.write (List.mem_of_getElem? ea) sf) (hr.set en ea sf ⟨vs', upd_same, r.mono (Le.refl _) (Keep.upd sf)⟩) .non
theorem mr_append : MtR X "list.append" (rDM G (lmeth .append)) := by
  intro pins s σ H x xs v us Q I rx rs ⟨Wx, ρ, h, p, ps, hr, rp, rps, pq⟩
  unfold lmeth at pq
  split at pq <;> first | exact False.elim pq | (rename_i e; cases e; done) | skip
  rename_i a z e
  split at pq
  · rename_i l el
    split at pq
    · rename_i hl
      obtain ⟨ad, rfl, ea⟩ := rp.ref_inv
      obtain ⟨y, rfl, ry⟩ := rps.one_inv
      obtain ⟨vs, h1, r⟩ := hr.at_ el ea
      exact mt_append pins s σ H _ _ v us Q I rx rs ⟨ad, vs, y, rfl, rfl, h1, by rw [← LINE_eq, ← r.length]; exact hl, lst_wr hr el ea h1 (r.append (.cons ry .nil)) pq⟩
    · exact False.elim pq
  · exact False.elim pq
theorem mr_extend : MtR X "list.extend" (rDM G (lmeth .extend)) := by
  intro pins s σ H x xs v us Q I rx rs ⟨Wx, ρ, h, p, ps, hr, rp, rps, pq⟩
  unfold lmeth at pq
  split at pq <;> first | exact False.elim pq | (rename_i e; cases e; done) | skip
  rename_i a b e
  split at pq
  · rename_i l r el er
    split at pq
    · rename_i hl
      obtain ⟨ad, rfl, ea⟩ := rp.ref_inv
      obtain ⟨y, rfl, ry⟩ := rps.one_inv
      obtain ⟨bd, rfl, eb⟩ := ry.ref_inv
      obtain ⟨vs, h1, r1⟩ := hr.at_ el ea
      obtain ⟨ws, h2, r2⟩ := hr.at_ er eb
      exact mt_extend pins s σ H _ _ v us Q I rx rs ⟨ad, bd, vs, ws, rfl, rfl, h1, h2, by rw [← LINE_eq, ← r1.length, ← r2.length]; exact hl.2, lst_wr hr el ea h1 (r1.append r2) pq⟩
    · exact False.elim pq
  · exact False.elim pq
theorem mr_reverse : MtR X "list.reverse" (rDM G (lmeth .reverse)) := by
  intro pins s σ H x xs v us Q I rx rs ⟨Wx, ρ, h, p, ps, hr, rp, rps, pq⟩
  unfold lmeth at pq
  split at pq <;> first | exact False.elim pq | (rename_i e; cases e; done) | skip
  rename_i a e
  split at pq
  · rename_i l el
    obtain ⟨ad, rfl, ea⟩ := rp.ref_inv
    cases rps.nil_inv
    obtain ⟨vs, h1, r⟩ := hr.at_ el ea
    exact mt_reverse pins s σ H _ _ v us Q I rx rs ⟨ad, vs, rfl, rfl, h1, lst_wr hr el ea h1 r.reverse pq⟩
  · exact False.elim pq
theorem mr_index (hK : X.K = G.K) : MtR X "list.index" (rDM G (lmeth .index)) := by
  intro pins s σ H x xs v us Q I rx rs ⟨Wx, ρ, h, p, ps, hr, rp, rps, pq⟩
  unfold lmeth at pq
  split at pq <;> first | exact False.elim pq | (rename_i e; cases e; done) | skip
  rename_i a z e
  split at pq
  · rename_i hf
    split at pq
    · rename_i l hl
      split at pq
      · rename_i hfl
        split at pq
        · rename_i j ej
          obtain ⟨ad, rfl, ea⟩ := rp.ref_inv
          obtain ⟨y, rfl, ry⟩ := rps.one_inv
          obtain ⟨vs, r, sl⟩ := seqL_rel hr ea hl
          obtain ⟨w, h1, h2, h3⟩ := index_rel r ry hf hfl ej
          exact L2.mt_index pins s σ H _ _ v us Q I rx rs ⟨ad, vs, y, j, w, rfl, rfl, hK ▸ sl, flat_rel ry hf, (in_rel ry hf r hfl).1, h1, h2, h3, Post.now (rel := relV G) pq hr (.int _)⟩
        · exact False.elim pq
      · exact False.elim pq
    · exact False.elim pq
  · exact False.elim pq
theorem VRs.dropLast {K : PySem.W.Frag} {ρ : List Addr} {H : Hp} {l : List PV} {vs : List V} (r : VRs K ρ H l vs) : VRs K ρ H l.dropLast vs.dropLast := by
  rw [List.dropLast_eq_take, List.dropLast_eq_take, r.length]
  exact r.take _
theorem VRs.erase {K : PySem.W.Frag} {ρ : List Addr} {H : Hp} : ∀ {l : List PV} {vs : List V} (i : Nat), VRs K ρ H l vs → VRs K ρ H (l.eraseIdx i) (vs.eraseIdx i)
  | _, _, _, .nil => .nil
  | _, _, 0, .cons _ t => t
  | _, _, i + 1, .cons h t => .cons h (VRs.erase i t)
theorem mr_pop : MtR X "list.pop" (rDM G (lmeth .pop)) := by
  intro pins s σ H x xs v us Q I rx rs ⟨Wx, ρ, h, p, ps, hr, rp, rps, pq⟩
  unfold lmeth at pq
  split at pq <;> first | exact False.elim pq | (rename_i e; cases e; done) | skip
  rename_i a e
  split at pq
  · rename_i l el
    split at pq
    · rename_i y ey
      obtain ⟨ad, rfl, ea⟩ := rp.ref_inv
      cases rps.nil_inv
      obtain ⟨vs, h1, r⟩ := hr.at_ el ea
      obtain ⟨w, ew, rw'⟩ := r.get ey
      rw [r.length] at ew
      have sf : Soft (H ad) := by rw [h1]; trivial
      refine mt_pop pins s σ H _ _ v us Q I rx rs ⟨ad, vs, w, rfl, rfl, h1, ew, ?_⟩
      exact pq ρ _ _ (Le.refl _) (Frm.write (List.mem_of_getElem? ea) sf) (hr.set el ea sf ⟨_, upd_same, r.dropLast.mono (Le.refl _) (Keep.upd sf)⟩) (VR.mono (Le.refl _) (Keep.upd sf) rw')
    · exact False.elim pq
  · exact False.elim pq
theorem mr_insert : MtR X "list.insert" (rDM G (lmeth .insert)) := by
  intro pins s σ H x xs v us Q I rx rs ⟨Wx, ρ, h, p, ps, hr, rp, rps, pq⟩
  unfold lmeth at pq
  split at pq <;> first | exact False.elim pq | (rename_i e; cases e; done) | skip
  rename_i a i y e
  split at pq
  · rename_i l el
    split at pq
    · rename_i hh
      obtain ⟨ad, rfl, ea⟩ := rp.ref_inv
      obtain ⟨iv, w, rfl, ri, rw'⟩ := rps.two_inv
      cases ri.int_inv
      obtain ⟨vs, h1, r⟩ := hr.at_ el ea
      refine mt_insert pins s σ H _ _ v us Q I rx rs ⟨ad, vs, i, w, rfl, rfl, h1, by rw [← LINE_eq, ← r.length]; exact hh.1, hh.2.1, by have := hh.2.2; omega, ?_⟩
      have rr : VRs G.K ρ H (l.take i.toNat ++ y :: l.drop i.toNat) (vs.take i.toNat ++ [w] ++ vs.drop i.toNat) := by
        rw [List.append_assoc]
        exact (r.take _).append (.cons rw' (r.drop _))
      exact lst_wr hr el ea h1 rr pq
    · exact False.elim pq
  · exact False.elim pq
theorem remP_at {d : PyData} : ∀ {l r : List PV} {ds : List PyData}, datTs l = some ds → remP d l = some r → ∃ j z, ds[j]? = some z ∧ PyData.eqv z d = true ∧ (∀ m z', m < j → ds[m]? = some z' → PyData.eqv z' d = false) ∧ r = l.eraseIdx j ∧ j < l.length
  | [], r, ds, _, e => by cases e
  | x :: l, r, ds, e1, e2 => by
    unfold datTs at e1
    split at e1
    · rename_i dx ds' ex el
      cases e1
      unfold remP at e2
      rw [ex] at e2
      dsimp only at e2
      split at e2
      · rename_i hx
        cases e2
        exact ⟨0, dx, rfl, hx, fun m z' h => by omega, rfl, Nat.succ_pos _⟩
      · rename_i hx
        obtain ⟨r', e3, rfl⟩ := Option.map_eq_some_iff.mp e2
        obtain ⟨j, z, h1, h2, h3, h4, h5⟩ := remP_at el e3
        refine ⟨j + 1, z, h1, h2, fun m z' hm ez => ?_, by rw [h4]; rfl, Nat.succ_lt_succ h5⟩
        cases m with
        | zero => cases ez; simpa using hx
        | succ m => exact h3 m z' (by omega) ez
    · cases e1
theorem mr_remove (hK : X.K = G.K) (hu : X.A.units + 65 < cLine) : MtR X "list.remove" (rDM G (lmeth .remove)) := by
  intro pins s σ H x xs v us Q I rx rs ⟨Wx, ρ, h, p, ps, hr, rp, rps, pq⟩
  unfold lmeth at pq
  split at pq <;> first | exact False.elim pq | (rename_i e; cases e; done) | skip
  rename_i a y0 e
  split at pq
  · rename_i l d el ed
    split at pq
    · rename_i ds eds
      split at pq
      · rename_i hs
        split at pq
        · rename_i r er
          obtain ⟨ad, rfl, ea⟩ := rp.ref_inv
          obtain ⟨y, rfl, ry⟩ := rps.one_inv
          obtain ⟨uy, rfl, ru⟩ := vals1 rs
          obtain rfl : v = Value.ref ad := rx
          obtain ⟨vs, h1, r1⟩ := hr.at_ el ea
          obtain ⟨j, z, z1, z2, z3, z4, z5⟩ := remP_at eds er
          have hd : Dp X.K H y d := by rw [hK]; exact datT_rel ry ed
          have ha : DpAll X.K H vs ds := by rw [hK]; exact datTs_rel r1 eds
          obtain ⟨bs, rb⟩ := Dp.reads I d y uy hd ru
          obtain ⟨hz, its, n, rv, hl, e0⟩ := I.lstM h1
          obtain ⟨as, h4⟩ := Dp.readsAll I ds _ its ha rv
          have hxs : PyData.canLayAll0 ds = true := SeqAt.canLay_of_shaped hs.2
          have hn : its.length = ds.length := SeqAt.ReadsAll.length ds its as h4
          have hmap : its.map (SeqAt.readOf s.heap) = ds := SeqAt.readsAll_map ds its as hxs h4
          have hroom : X.A.units + 1 + min (PyData.depthAll ds) d.depth < cLine := room_in_shaped hs.1 hu
          obtain ⟨hjd, _⟩ := List.getElem?_eq_some_iff.mp z1
          have hj : j < its.toArray.size := by rw [List.size_toArray]; omega
          have rd : ∀ (m : Nat) (hm : m < its.toArray.size) (z' : PyData), ds[m]? = some z' → SeqAt.readOf s.heap its.toArray[m] = z' := by
            intro m hm z' hz'
            have hml : m < its.length := by simpa using hm
            rw [← hmap, List.getElem?_map, List.getElem?_eq_getElem hml] at hz'
            simpa using hz'
          refine call_meets PySem.F.slot_list_remove ⟨_, e0, rfl⟩ PySem.F.entry_list_remove (PySem.F.args_list_remove_2 _ _)
            (SeqAt.list_removeAt ad its.toArray n _ _ uy (fun u => PyData.eqv (SeqAt.readOf s.heap u) d) j hj ?hit (fun m hm hmj => ?hno) (by rw [List.size_toArray, ← hl]; exact hz)) ⟨e0, SeqAt.items_eqAt (vs := its.toArray) (show ReadsAll s.heap its.toArray.toList ds as from h4) rb hxs (SeqAt.canLay_of_shaped hs.1) hroom, ?_⟩
          case hit =>
            show PyData.eqv (SeqAt.readOf s.heap its.toArray[j]) d = true
            rw [rd j hj z z1]
            exact z2
          case hno =>
            have hmd : m < ds.length := by omega
            have hz' : ds[m]? = some ds[m] := List.getElem?_eq_getElem hmd
            show PyData.eqv (SeqAt.readOf s.heap its.toArray[m]) d = false
            rw [rd m hm _ hz']
            exact z3 m _ hmj hz'
          have rr : VRs G.K ρ H r (vs.eraseIdx j) := by rw [z4]; exact r1.erase j
          refine ⟨.non, _, I.lset (its' := its.eraseIdx j) h1 e0 ?_ (rv.eraseIdx j) ?_, rfl, lst_wr hr el ea h1 rr pq⟩
          · show its.toArray.eraseIdxIfInBounds j = (its.eraseIdx j).toArray
            rw [List.eraseIdxIfInBounds_toArray]
          · have := List.length_eraseIdx_le vs j
            omega
        · exact False.elim pq
      · exact False.elim pq
    · exact False.elim pq
  · exact False.elim pq
end
end Fx

/-! Methods of lists by name; what is walked; comprehensions. -/
namespace Fx
open PySem PySem.Spec PyProof.Rows L2
section
variable {G : Glob} {X : Cx} {W : WX} {e o : Expr} {es : List Expr} {d dx : Dn} {ds : Da} {pos p1 p2 apos : Pos}
def dLm (m : Lm) (d : Dn) (ds : Da) : Dn := fun σ h => (d σ h).bind fun x h1 => (Fx.opt (lstAt h1 x) h1).bind fun _ h2 => (ds σ h2).bind fun vs h3 => lmeth m x vs h3
theorem lstAt_rel {ρ : List Addr} {H : Hp} {h : PH} {p : PV} {x : V} {u : Unit} (hr : HR G ρ h H) (r : VR G.K ρ H p x) (e : lstAt h p = some u) : tyV G.K "list" x H := by
  unfold lstAt at e
  split at e
  · obtain ⟨ad, rfl, ea⟩ := r.ref_inv
    split at e
    · rename_i l el
      obtain ⟨vs, h1, _⟩ := hr.at_ el ea
      exact .inl ⟨rfl, vs, .inl (.inl h1)⟩
    · rename_i l el
      obtain ⟨vs, h1, _⟩ := hr.at_ el ea
      exact .inl ⟨rfl, vs, .inl h1⟩
    · cases e
  · cases e
theorem few_ok (hs : isStar e = false) (hp : plainA es = true) (hl : es.length < 29) (env : Env) : ((backTo pos (starEach (e :: es) env)).all (fun x => !x.1) && (backToKw pos (keywordEach [] env)).all (fun x => x.1.isSome)
      && decide ((e :: es).length + ([] : List Keyword).length + (if ([] : List Keyword).isEmpty then 0 else 1) < 30)) = true := by
  have h1 : (backTo pos (starEach (e :: es) env)).all (fun x => !x.1) = true := by
    rw [List.all_eq_true]
    intro x hx
    unfold backTo at hx
    obtain ⟨y, hy, rfl⟩ := List.mem_map.mp hx
    simp [starEach_plain (es := e :: es) (by unfold plainA; rw [List.all_cons, hs]; exact hp) env y hy]
  rw [h1]
  have h2 : (backToKw pos (keywordEach [] env)) = [] := rfl
  rw [h2]
  simp
  omega
theorem pd_lm {m : Lm} {name id : _} (hK : X.K = G.K) (slot : Slot "list" name id) (hty : typeOf (.builtin id) = pure (.type "method_descriptor")) (hm : MtR X id (rDM G (lmeth m))) (ho : PE X o (tD G W d)) (ha : PA X (e :: es) (tDA G W ds))
    (hb : isCall0 o = false) (hs : isStar e = false) (hp : plainA es = true) (hl : es.length < 29) (line : (apos.endLine == pos.line) = true) : PE X (.Call (.Attribute o name apos) (e :: es) [] pos) (tD G W (dLm m d ds)) :=
  PE.weak (pe_bm PySem.F.plainAttrs_list slot hty hm ho ha (base_eq hb _ _ _) (few_ok hs hp hl _) line (starEach_cons hs _) (any_plain hp _)) fun σ H Q ⟨ρ, sp, h, sl, hr, p⟩ => ⟨ρ, sp, h, sl, hr, Post.bind p fun x h1 ρ1 H1 v _ le k hr1 rx p1 => by
    obtain ⟨u, eu, p2⟩ := Post.optBind p1
    exact ⟨by rw [hK]; exact lstAt_rel hr1 rx eu, ⟨ρ1, sp, h1, sl.mono le k, hr1, Post.bind p2 fun xs h2 ρ2 H2 vs _ le2 k2 hr2 rxs p3 => ⟨_, ρ2, h2, x, xs, hr2, VR.mono le2 k2.toKeep rx, rxs, p3⟩⟩⟩⟩
theorem pd_lm0 {m : Lm} {name id : _} (hK : X.K = G.K) (slot : Slot "list" name id) (hty : typeOf (.builtin id) = pure (.type "method_descriptor")) (hm : MtR X id (rDM G (lmeth m))) (ho : PE X o (tD G W d))
    (hb : isCall0 o = false) (line : (apos.endLine == pos.line) = true) : PE X (.Call (.Attribute o name apos) [] [] pos) (tD G W (dLm m d dNil)) :=
  PE.weak (pe_bm0 PySem.F.plainAttrs_list slot hty hm ho (base_eq hb _ _ _) line) fun σ H Q ⟨ρ, sp, h, sl, hr, p⟩ => ⟨ρ, sp, h, sl, hr, Post.bind p fun x h1 ρ1 H1 v _ le k hr1 rx p1 => by
    obtain ⟨u, eu, p2⟩ := Post.optBind p1
    exact ⟨by rw [hK]; exact lstAt_rel hr1 rx eu, ⟨_, ρ1, h1, x, [], hr1, rx, .nil, p2⟩⟩⟩
/-- a constant tuple of the module -/
def TupK (K : PySem.W.Frag) (a : Addr) : Prop := ∃ o, K.lookup a = some o ∧ o.cls = .type "tuple" ∧ o.dict = none
theorem eqF_dec {K : PySem.W.Frag} {ρ : List Addr} {H : Hp} {p q : PV} {x y : V} (r : VR K ρ H p x) (r2 : VR K ρ H q y) (e : flat p = true) (e2 : flat q = true) : decide (x = y) = eqV x y := by
  cases r <;> cases r2 <;> first | exact dec_int | exact dec_str | rfl | (simp [eqV]; done) | (cases e; done) | (cases e2; done)
theorem mr_tidx (hK : X.K = G.K) : MtR X "tuple.index" (fun x xs H Q => ∃ a vs y, x = .ref a ∧ xs = [y] ∧ SqT G.K H a vs ∧ ∃ (ρ : List Addr) (l : List PV) (q : PV) (j : Nat), VRs G.K ρ H l vs ∧ VR G.K ρ H q y ∧ flat q = true ∧ l.all flat = true ∧ indexP q l = some j ∧ Q (.int j) H) := by
  intro pins s σ H x xs v us Q I rx rs ⟨a, vs, y, ex, exs, sq, ρ, l, q, j, rl, rq, fq, fl, ej, hq⟩
  subst ex; subst exs
  obtain rfl : v = Value.ref a := rx
  obtain ⟨u, rfl, ru⟩ := vals1 rs
  obtain ⟨its, rv, ht, hz⟩ := I.tuple (hK ▸ sq)
  obtain ⟨z, h1, h2, h3⟩ := index_rel rl rq fq fl ej
  obtain ⟨hf, _⟩ := in_rel rq fq rl fl
  have hlen := rv.length
  have fz : ∀ {m : Nat} {w : V}, vs[m]? = some w → flatV w = true := fun h => List.all_eq_true.mp hf _ (List.mem_of_getElem? h)
  have dec : ∀ {m : Nat} {w : V}, vs[m]? = some w → decide (w = y) = eqV w y := fun {m w} h => by
    cases hl : l[m]? with
    | none => rw [rl.none hl] at h; cases h
    | some p =>
      obtain ⟨w', e1, rw'⟩ := rl.get hl
      rw [h] at e1; cases e1
      exact eqF_dec rw' rq (List.all_eq_true.mp fl _ (List.mem_of_getElem? hl)) fq
  have he : SeqAt.ItemsEq X.A.in1 s its vs u y := by
    refine ⟨hlen.symm, fun i g1 g2 => ?_⟩
    have e1 : vs[i]? = some vs[i] := List.getElem?_eq_getElem g2
    obtain ⟨w, ew, rw'⟩ := rv.get e1
    rw [List.getElem?_eq_getElem g1] at ew
    cases ew
    rw [dec e1, ← eqU_of rw' (fz e1)]
    exact mem_eqAt ru (flat_rel rq fq) rv hf _ (List.getElem_mem g1)
  obtain ⟨hj, ej2⟩ := List.getElem?_eq_some_iff.mp h1
  have hyz : z = y := by
    have := dec h1
    rw [h2] at this
    exact of_decide_eq_true this
  have hmem : y ∈ vs := by rw [← hyz, ← ej2]; exact List.getElem_mem hj
  have hidx : vs.idxOf y = j := by
    rcases Nat.lt_trichotomy (vs.idxOf y) j with hlt | heq | hgt
    · have hi := List.idxOf_lt_length_iff.mpr hmem
      have e1 : vs[vs.idxOf y]? = some y := by rw [List.getElem?_eq_getElem hi]; simp
      have := h3 _ _ hlt e1
      rw [← dec e1] at this
      simp at this
    · exact heq
    · have := SeqAt.lt_idxOf_ne hgt hj
      rw [ej2] at this
      exact absurd hyz this
  refine SeqAt.call_tuple_index ht he hmem ⟨.int j, H, I.tok _, ⟨s.toks, by rw [hidx]⟩, hq⟩
def dTidx (l : List PV) (d : Dn) : Dn := fun σ h => (d σ h).bind fun x h1 => if flat x ∧ l.all flat then match indexP x l with
      | some j => .ok (.int j) h1
      | none => .no
      else .no
theorem pd_tidx {x : Str} {a : Addr} {l : List PV} {u : Value} (hK : X.K = G.K) (hg : Gl X x) (hm : X.mg x = some (.ref a)) (ht : TupK G.K a) (hv : ∀ ρ H, VR G.K ρ H (.tup l) (.ref a)) (hd : (x == ("__debug__" : Str)) = false) (he : PE X e (tD G W d)) (hs : isStar e = false)
    (line : (apos.endLine == pos.line) = true) : PE X (.Call (.Attribute (.Name x p1) "index" apos) [e] [] pos) (tD G W (dTidx l d)) :=
  PE.weak (pe_bm PySem.F.plainAttrs_tuple PySem.F.slot_tuple_index PySem.F.type_tuple_index (mr_tidx hK) (pe_glob (v := .ref a) hg hm rfl hd) (pd_cons hs he pd_nil) (base_eq rfl _ _ _) (few_ok hs rfl (by simp) _) line (starEach_cons hs _) rfl) fun σ H Q ⟨ρ, sp, h, sl, hr, p⟩ => by
    refine ⟨.inr (.inl ⟨rfl, hK ▸ ht⟩), ⟨ρ, sp, h, sl, hr, ?_⟩⟩
    have e : dCons d dNil sp h = (d sp h).bind fun x h1 => .ok [x] h1 := rfl
    rw [e]
    cases hq : d sp h with
    | no =>
      have p' : Post G (fun cls e H' => W cls e σ H') ρ H (relV G) ((d sp h).bind _) Q := p
      rw [hq] at p'
      exact p'
    | exc c fs h' =>
      have p' : Post G (fun cls e H' => W cls e σ H') ρ H (relV G) ((d sp h).bind _) Q := p
      rw [hq] at p'
      exact p'
    | ok q h1 =>
      have p' : Post G (fun cls e H' => W cls e σ H') ρ H (relV G) ((d sp h).bind _) Q := p
      rw [hq, Res.bind_ok] at p'
      intro ρ1 H1 b le k hr1 rb
      obtain ⟨v, rfl, rv⟩ := VRs.one_inv rb
      split at p'
      · rename_i hf
        split at p'
        · rename_i j ej
          obtain ⟨a', vs, e1, s1, r1⟩ := (hv ρ1 H1).tup_inv
          cases e1
          exact ⟨a, vs, v, rfl, rfl, s1, ρ1, l, q, j, r1, rv, hf.1, hf.2, ej, p' ρ1 H1 _ le k hr1 (.int _)⟩
        · exact False.elim p'
      · exact False.elim p'

/-! ### what is walked -/
/-- s walked is J, from the heap H on -/
def ItR (G : Glob) (ρ : List Addr) (H : Hp) (s : Src) (J : L2.It) : Prop := ∀ ρ' H' h' i, Le ρ ρ' → Frm ρ H ρ' H' → HR G ρ' h' H' →
  (nxt s i h' = some none → J.stop i H') ∧ ∀ p, nxt s i h' = some (some p) → J.go i H' ∧ ∀ x H'', J.yld i H' x H'' → Frm ρ' H' ρ' H'' ∧ HR G ρ' h' H'' ∧ VR G.K ρ' H'' p x
def tDI (G : Glob) (W : WX) (d : Sl → PH → Res Src) : TI := fun σ H R => ∃ ρ sp h, SlR G ρ H sp σ ∧ HR G ρ h H ∧ Post G (fun cls e H' => W cls e σ H') ρ H (ItR G) (d sp h) R
theorem itr_tup {ρ : List Addr} {H : Hp} {l : List PV} {a : Addr} {vs : List V} (s : SqT G.K H a vs) (r : VRs G.K ρ H l vs) : ItR G ρ H (.vals l) (Itt G.K a) := fun ρ' H' h' i le k hr => by
  have s' := SqT.keep s k.toKeep
  have r' := VRs.mono le k.toKeep r
  refine ⟨fun e => ⟨vs, s', ?_⟩, fun p e => ?_⟩
  · have e' : l[i]? = none := Option.some.inj e
    rw [← r.length]
    exact List.getElem?_eq_none_iff.mp e'
  · have e' : l[i]? = some p := Option.some.inj e
    obtain ⟨v, h1, h2⟩ := r'.get e'
    refine ⟨⟨vs, v, s', h1⟩, fun x H'' ⟨eH, hx⟩ => ?_⟩
    subst eH
    have := hx vs s'
    rw [h1] at this
    cases this
    exact ⟨Frm.refl _ _, hr, h2⟩
theorem itr_lst {ρ : List Addr} {H : Hp} {n : Nat} {a : Addr} (ea : ρ[n]? = some a) : ItR G ρ H (.live n) (Itl G.K a) := fun ρ' H' h' i le k hr => by
  refine ⟨fun e => ?_, fun p e => ?_⟩
  · obtain ⟨l, el, e2⟩ := Option.map_eq_some_iff.mp e
    obtain ⟨vs, r, s⟩ := seqL_rel hr (le _ _ ea) el
    exact ⟨vs, s, by rw [← r.length]; exact List.getElem?_eq_none_iff.mp e2⟩
  · obtain ⟨l, el, e2⟩ := Option.map_eq_some_iff.mp e
    obtain ⟨vs, r, s⟩ := seqL_rel hr (le _ _ ea) el
    obtain ⟨v, h1, h2⟩ := r.get e2
    refine ⟨⟨vs, v, s, h1⟩, fun x H'' ⟨eH, hx⟩ => ?_⟩
    subst eH
    have := hx vs s
    rw [h1] at this
    cases this
    exact ⟨Frm.refl _ _, hr, h2⟩
theorem itr_enum {ρ : List Addr} {H : Hp} {n : Nat} {a : Addr} (ea : ρ[n]? = some a) : ItR G ρ H (.lenum n) (Ite G.K a) := fun ρ' H' h' i le k hr => by
  refine ⟨fun e => ?_, fun p e => ?_⟩
  · obtain ⟨l, el, e2⟩ := Option.map_eq_some_iff.mp e
    obtain ⟨vs, r, s⟩ := seqL_rel hr (le _ _ ea) el
    refine ⟨vs, s, by rw [← r.length]; exact List.getElem?_eq_none_iff.mp (by simpa using e2)⟩
  · obtain ⟨l, el, e2⟩ := Option.map_eq_some_iff.mp e
    obtain ⟨q, e3, rfl⟩ := Option.map_eq_some_iff.mp e2
    obtain ⟨vs, r, s⟩ := seqL_rel hr (le _ _ ea) el
    obtain ⟨v, h1, h2⟩ := r.get e3
    refine ⟨⟨vs, v, s, h1⟩, fun x H'' ⟨T, y, ex, n, eH, hx⟩ => ?_⟩
    subst ex; subst eH
    have := hx vs s
    rw [h1] at this
    cases this
    exact ⟨Frm.lay n, hr.other n, .tup (.inl (.inl upd_same)) (.cons (.int _) (.cons (VR.mono (Le.refl _) (Keep.new n) h2) .nil))⟩
theorem itr_str {ρ : List Addr} {H : Hp} {x : Str} : ItR G ρ H (.vals (x.cps.toList.map fun c => .str ⟨#[c]⟩)) (Its x) := fun ρ' H' h' i le k hr => by
  refine ⟨fun e => ?_, fun p e => ?_⟩
  · have e' : (x.cps.toList.map fun c => PV.str ⟨#[c]⟩)[i]? = none := Option.some.inj e
    have := List.getElem?_eq_none_iff.mp e'
    simpa [Its] using this
  · have e' : (x.cps.toList.map fun c => PV.str ⟨#[c]⟩)[i]? = some p := Option.some.inj e
    rw [List.getElem?_map] at e'
    obtain ⟨c, ec, rfl⟩ := Option.map_eq_some_iff.mp e'
    obtain ⟨hl, _⟩ := List.getElem?_eq_some_iff.mp ec
    refine ⟨by simpa [Its] using hl, fun y H'' ⟨eH, c', hc, ey⟩ => ?_⟩
    subst eH; subst ey
    have : c = c' := by
      have h2 : x.cps.toList[i]? = some c' := by rw [Array.getElem?_toList]; exact hc
      rw [h2] at ec; exact (Option.some.inj ec).symm
    subst this
    exact ⟨Frm.refl _ _, hr, .str _⟩
theorem itr_rng {ρ : List Addr} {H : Hp} {i j : Int} : ItR G ρ H (.vals (rngV i j)) (Itr i (j - i).toNat) := fun ρ' H' h' m le k hr => by
  refine ⟨fun e => ?_, fun p e => ?_⟩
  · have e' : (rngV i j)[m]? = none := Option.some.inj e
    have := List.getElem?_eq_none_iff.mp e'
    simpa [rngV, Itr] using this
  · have e' : (rngV i j)[m]? = some p := Option.some.inj e
    unfold rngV at e'
    rw [List.getElem?_map] at e'
    obtain ⟨c, ec, rfl⟩ := Option.map_eq_some_iff.mp e'
    obtain ⟨hl, hc⟩ := List.getElem?_eq_some_iff.mp ec
    rw [List.getElem_range] at hc
    subst hc
    refine ⟨by simpa [Itr] using hl, fun y H'' ⟨eH, ey⟩ => ?_⟩
    subst eH; subst ey
    exact ⟨Frm.refl _ _, hr, .int _⟩
variable {tg : Expr}
def dSeq (d : Dn) : Sl → PH → Res Src := fun σ h => (d σ h).bind fun x h1 => Fx.opt (srcOf h1 x) h1
theorem pdi_seq (hK : X.K = G.K) (he : PE X e (tD G W d)) : PI X tg e (tDI G W (dSeq d)) := by
  refine ⟨fun pins s σ H R I ⟨ρ, sp, h, sl, hr, p⟩ => ?_⟩
  refine thn (he.run pins s σ H _ I ⟨ρ, sp, h, sl, hr, Post.bind p fun x h1 ρ1 H1 v _ le k hr1 rx p1 => (⟨ρ1, h1, x, hr1, rx, p1⟩ : ∃ ρ1 h1 x, HR G ρ1 h1 H1 ∧ VR G.K ρ1 H1 x v ∧ Post G _ ρ1 H1 (ItR G) (Fx.opt (srcOf h1 x) h1) R)⟩) fun u s1 ⟨v, H1, I1, ru, ρ1, h1, x, hr1, rx, p1⟩ => ?_
  obtain ⟨S, eS, p2⟩ := Post.opt p1
  cases rx with
  | tup sq r =>
    cases eS
    cases ru
    obtain ⟨its, rv, ht, hz⟩ := I1.tuple (hK ▸ sq)
    exact wpAny_pyIter_tuple ht (pi_one (tk := s1.toks) I1 _ (turn_tuple _ _) ⟨_, Heap.get?_push_size _ rfl, rfl, rfl⟩ (by rw [hK]; exact Post.now (rel := ItR G) p2 hr1 (itr_tup sq r)))
  | str z =>
    cases eS
    obtain ⟨t, rfl⟩ := ru
    have q := Post.now (rel := ItR G) p2 hr1 itr_str
    cases ha : z.cps.all (· < 128)
    · exact wpAny_pyIter_wide ha (pi_one (tk := s1.toks) I1 _ (turn_str _ z t "str_iterator" (.inr rfl)) ⟨_, Heap.get?_push_size _ rfl, rfl, rfl⟩ q)
    · exact wpAny_pyIter_ascii ha (pi_one (tk := s1.toks) I1 _ (turn_str _ z t "str_ascii_iterator" (.inl rfl)) ⟨_, Heap.get?_push_size _ rfl, rfl, rfl⟩ q)
  | @ref n a ea =>
    have fin : ∀ vs, SqL G.K H1 a vs → S = .live n → wpAny (model X.prog X.w) X.A (pyIter u) (PIE X pins σ tg R) X.xe s1 := fun vs sq eq => by
      subst eq
      cases ru
      obtain ⟨its, rv, ht, hz⟩ := I1.list (hK ▸ sq)
      exact wpAny_pyIter_list ht.isList (pi_one (tk := s1.toks) I1 _ (turn_list _ _) ⟨_, Heap.get?_push_size _ rfl, rfl, rfl⟩ (by rw [hK]; exact Post.now (rel := ItR G) p2 hr1 (itr_lst ea)))
    simp only [srcOf] at eS
    split at eS
    · rename_i l el
      obtain ⟨vs, q, _⟩ := hr1.at_ el ea
      exact fin vs (.inl (.inl q)) (Option.some.inj eS).symm
    · rename_i l el
      obtain ⟨vs, q, _⟩ := hr1.at_ el ea
      exact fin vs (.inl q) (Option.some.inj eS).symm
    · cases eS
  | _ => cases eS
def dEnum (d : Dn) : Sl → PH → Res Src := fun σ h => (d σ h).bind fun x h1 => Fx.opt (enumOf h1 x) h1
theorem pdi_enum {elts : List Expr} {kk : Nat} (hK : X.K = G.K) (hg : Gl X "enumerate") (hm : X.mg "enumerate" = none) (hs : isStar e = false) (he : PE X e (tD G W d)) : PI X (.Tuple elts kk p2) (.Call (.Name "enumerate" p1) [e] [] pos) (tDI G W (dEnum d)) := by
  have z := pi_enum (p := p1) (pos := pos) (tpos := p2) (elts := elts) (kk := kk) hg hm (pd_cons hs he pd_nil) (by rw [starEach_cons hs]; rfl)
  refine ⟨fun pins s σ H R I ⟨ρ, sp, h, sl, hr, p⟩ => z.run pins s σ H R I ⟨ρ, sp, h, sl, hr, ?_⟩⟩
  have p' : Post G (fun cls e H' => W cls e σ H') ρ H (ItR G) ((d sp h).bind fun x h1 => Fx.opt (enumOf h1 x) h1) R := p
  show Post G _ ρ H (relVs G) ((d sp h).bind fun x h1 => .ok [x] h1) _
  cases hq : d sp h with
  | no => rw [hq] at p'; exact p'
  | exc c fs h' => rw [hq] at p'; exact p'
  | ok q h1 =>
    rw [hq, Res.bind_ok] at p'
    intro ρ1 H1 b le k hr1 rb
    obtain ⟨v, rfl, rv⟩ := VRs.one_inv rb
    obtain ⟨S, eS, p2⟩ := Post.opt p'
    unfold enumOf at eS
    split at eS
    · rename_i n
      obtain ⟨a, rfl, ea⟩ := rv.ref_inv
      split at eS
      · rename_i l el
        cases eS
        obtain ⟨vs, q, _⟩ := hr1.at_ el ea
        exact ⟨a, vs, rfl, .inl (.inl q), by rw [hK]; exact p2 ρ1 H1 _ le k hr1 (itr_enum ea)⟩
      · rename_i l el
        cases eS
        obtain ⟨vs, q, _⟩ := hr1.at_ el ea
        exact ⟨a, vs, rfl, .inl q, by rw [hK]; exact p2 ρ1 H1 _ le k hr1 (itr_enum ea)⟩
      · cases eS
    · cases eS
def dRng1 (d : Dn) : Sl → PH → Res Src := fun σ h => (d σ h).bind fun y h2 => match y with
    | .int j => if inR j = true then .ok (.vals (rngV 0 j)) h2 else .no
    | _ => .no
def dRng2 (d d' : Dn) : Sl → PH → Res Src := fun σ h => (d σ h).bind fun x h1 => (d' σ h1).bind fun y h2 => match x, y with
    | .int i, .int j => if inR i = true ∧ inR j = true then .ok (.vals (rngV i j)) h2 else .no
    | _, _ => .no
theorem inR_iff {i : Int} : inR i = true ↔ -(2 ^ 62) ≤ i ∧ i < 2 ^ 62 := by simp [inR]
theorem pdi_rng1 (hg : Gl X "range") (hm : X.mg "range" = none) (hs : isStar e = false) (he : PE X e (tD G W d)) : PI X tg (.Call (.Name "range" p1) [e] [] pos) (tDI G W (dRng1 d)) := by
  have z := pi_range1 (tg := tg) (p := p1) (pos := pos) hg hm (pa_cons he pa_nil (starEach_cons hs _)) (by rw [starEach_cons hs]; rfl)
  refine ⟨fun pins s σ H R I ⟨ρ, sp, h, sl, hr, p⟩ => z.run pins s σ H R I ⟨ρ, sp, h, sl, hr, Post.bind p fun x h1 ρ1 H1 v _ le k hr1 rx p1 => ?_⟩⟩
  cases x with
  | int j =>
    cases VR.int_inv rx
    have p2 : Post G (fun cls e H' => W cls e σ H') ρ1 H1 (ItR G) (if inR j = true then .ok (.vals (rngV 0 j)) h1 else .no) R := p1
    split at p2
    · rename_i hj
      have q := inR_iff.mp hj
      refine ⟨j, rfl, q.1, q.2, ?_⟩
      have := Post.now (rel := ItR G) p2 hr1 (itr_rng (i := 0) (j := j))
      rwa [Int.sub_zero] at this
    · exact False.elim p2
  | _ => exact False.elim p1
theorem pdi_rng2 {e2 : Expr} {d' : Dn} (hg : Gl X "range") (hm : X.mg "range" = none) (hs : isStar e = false) (hs2 : isStar e2 = false) (he : PE X e (tD G W d)) (he2 : PE X e2 (tD G W d')) : PI X tg (.Call (.Name "range" p1) [e, e2] [] pos) (tDI G W (dRng2 d d')) := by
  have z := pi_range2 (tg := tg) (p := p1) (pos := pos) hg hm (pa_cons he (pa_cons he2 pa_nil (starEach_cons hs2 _)) (starEach_cons hs _)) (by rw [starEach_cons hs, starEach_cons hs2]; rfl) (by rw [starEach_cons hs2]; rfl)
  refine ⟨fun pins s σ H R I ⟨ρ, sp, h, sl, hr, p⟩ => z.run pins s σ H R I ⟨ρ, sp, h, sl, hr, Post.bind p fun x h1 ρ1 H1 v _ le k hr1 rx p1 => ⟨ρ1, sp, h1, sl.mono le k.toKeep, hr1, Post.bind p1 fun y h2 ρ2 H2 w _ le2 k2 hr2 ry p2 => ?_⟩⟩⟩
  cases x with
  | int i =>
    cases y with
    | int j =>
      cases VR.int_inv rx
      cases VR.int_inv ry
      have p3 : Post G (fun cls e H' => W cls e σ H') ρ2 H2 (ItR G) (if inR i = true ∧ inR j = true then .ok (.vals (rngV i j)) h2 else .no) R := p2
      split at p3
      · rename_i hj
        exact ⟨i, j, rfl, ⟨(inR_iff.mp hj.1).1, (inR_iff.mp hj.1).2, (inR_iff.mp hj.2).1, (inR_iff.mp hj.2).2⟩, Post.now (rel := ItR G) p3 hr2 itr_rng⟩
      · exact False.elim p3
    | _ => exact False.elim p2
  | _ => exact False.elim (by cases y <;> exact p2)
end
end Fx

/-! Targets, comprehensions, methods, makers. -/
namespace Fx
open PySem PySem.Spec PyProof.Rows L2
section
variable {G : Glob} {X : Cx} {W : WX} {e o : Expr} {es : List Expr} {d dx : Dn} {ds : Da} {pos p1 p2 apos : Pos}
def WF : WX := fun _ _ _ _ => False
theorem takesF {X : Cx} : Takes X WF := takes_none5
/-! ### targets -/
def gNames : List Nat → TGs
  | [] => gNil
  | i :: is => gCons (gName i) (gNames is)
def gT (K : PySem.W.Frag) : Tg → TG
  | .name i => gName i
  | .names is => gTup K is.length (gNames is)
def tgSlots : Tg → List Nat
  | .name i => [i]
  | .names is => is
theorem wipe_set {own : List Nat} : ∀ {σ : L2.St} {i : Nat} {v : Option V}, i ∈ own → wipe (σ.set i v) own = wipe σ own := by
  induction own with
  | nil => intro σ i v h; cases h
  | cons o own ih =>
    intro σ i v h
    show (wipe (σ.set i v) own).set o none = (wipe σ own).set o none
    by_cases hm : i ∈ own
    · rw [ih hm]
    · have ho : i = o := by
        rcases List.mem_cons.mp h with h | h
        · exact h
        · exact absurd h hm
      subst ho
      have key : ∀ (l : List Nat), i ∉ l → wipe (σ.set i v) l = (wipe σ l).set i v := by
        intro l
        induction l with
        | nil => intro _; rfl
        | cons q l il =>
          intro hq
          show (wipe (σ.set i v) l).set q none = ((wipe σ l).set q none).set i v
          have hne : i ≠ q := fun z => hq (by rw [z]; exact List.mem_cons_self)
          rw [il fun z => hq (List.mem_cons_of_mem _ z), List.set_comm _ _ hne]
      rw [key own hm, List.set_set]
theorem names_ok {ρ : List Addr} {H : Hp} {own : List Nat} : ∀ {is : List Nat} {l : List PV} {sp sp' : Sl} {vs : List V} {σ : L2.St}, setAll is l sp = some sp' → SlR G ρ H sp σ → VRs G.K ρ H l vs → (∀ i ∈ is, i ∈ own) →
    vs.length = is.length ∧ ∃ σ', SlR G ρ H sp' σ' ∧ wipe σ' own = wipe σ own ∧ ∀ Q, Q σ' H → gNames is vs σ H Q
  | [], [], sp, sp', vs, σ, e, sl, r, _ => by
    cases e
    cases r.nil_inv
    exact ⟨rfl, σ, sl, rfl, fun Q q => ⟨rfl, q⟩⟩
  | i :: is, p :: l, sp, sp', vs, σ, e, sl, r, ho => by
    obtain ⟨v, vs, rfl, rv, r⟩ := r.cons_inv
    obtain ⟨hl, σ', h1, h2, h3⟩ := names_ok (is := is) (own := own) (show setAll is l (sp.set i (some p)) = some sp' from e) (sl.set i rv) r fun j hj => ho j (List.mem_cons_of_mem _ hj)
    exact ⟨by simp [hl], σ', h1, by rw [h2, wipe_set (ho i List.mem_cons_self)], fun Q q => ⟨v, vs, rfl, h3 Q q⟩⟩
  | [], _ :: _, _, _, _, _, e, _, _, _ => by cases e
  | _ :: _, [], _, _, _, _, e, _, _, _ => by cases e
theorem gT_ok {ρ : List Addr} {H : Hp} {tg : Tg} {p : PV} {sp sp' : Sl} {v : V} {σ : L2.St} {own : List Nat} (e : bindT tg p sp = some sp') (sl : SlR G ρ H sp σ) (r : VR G.K ρ H p v) (ho : ∀ i ∈ tgSlots tg, i ∈ own) :
    ∃ σ', SlR G ρ H sp' σ' ∧ wipe σ' own = wipe σ own ∧ ∀ Q, Q σ' H → gT G.K tg v σ H Q := by
  cases tg with
  | name i =>
    cases e
    exact ⟨_, sl.set i r, wipe_set (ho i (List.mem_singleton.mpr rfl)), fun Q q => q⟩
  | names is =>
    cases r with
    | tup s rs =>
      obtain ⟨hl, σ', h1, h2, h3⟩ := names_ok (own := own) e sl rs ho
      exact ⟨σ', h1, h2, fun Q q => ⟨_, _, rfl, s, hl, h3 Q q⟩⟩
    | _ => cases e
theorem wipe_rel {ρ : List Addr} {H : Hp} {sp : Sl} {σ : L2.St} (sl : SlR G ρ H sp σ) : ∀ own : List Nat, SlR G ρ H (wipeP sp own) (wipe σ own)
  | [] => sl
  | v :: vs => (wipe_rel sl vs).wipe v

/-! ### [elt for tg in it if cnd] -/
theorem Post.unquiet {α β : Type} {Wx : XK} {ρ : List Addr} {H : Hp} {rel : List Addr → Hp → α → β → Prop} {r : Res α} {Q : β → Hp → Prop} (p : Post G Wx ρ H rel r.quiet Q) (Wy : XK) : Post G Wy ρ H rel r Q := by
  cases r with
  | ok a h => exact p
  | exc c fs h => exact False.elim p
  | no => exact False.elim p
theorem Post.bindAt {α β γ δ : Type} {Wx : XK} {ρ ρ0 : List Addr} {H H0 : Hp} {rel : List Addr → Hp → α → β → Prop} {rel2 : List Addr → Hp → γ → δ → Prop} {r : Res α} {f : α → PH → Res γ} {Q : β → Hp → Prop} {Q2 : δ → Hp → Prop} (p : Post G Wx ρ0 H0 rel2 (r.bind f) Q2)
    (le0 : Le ρ0 ρ) (k0 : Frm ρ0 H0 ρ H) (k : ∀ a h1 ρ1 H1 b, r = .ok a h1 → Le ρ ρ1 → Frm ρ H ρ1 H1 → HR G ρ1 h1 H1 → rel ρ1 H1 a b → Post G Wx ρ0 H0 rel2 (f a h1) Q2 → Q b H1) : Post G Wx ρ H rel r Q := by
  cases r with
  | ok a h1 => exact fun ρ1 H1 b le kp hr rl => k a h1 ρ1 H1 b rfl le kp hr rl p
  | exc c fs h' => exact fun ρ' H' cls d l2 k2 => p ρ' H' cls d (le0.trans l2) (k0.trans k2)
  | no => exact p
theorem Frm.writeD {ρ0 ρ : List Addr} {H0 H : Hp} {D : Addr} {o : HO} (k : Frm ρ0 H0 ρ H) (n : H0 D = none) (sf : Soft (H D)) : Frm ρ0 H0 ρ (upd H D o) :=
  ⟨k.toKeep.trans (.upd sf), k.new, fun a h1 h2 h3 => by rw [upd_ne fun z => h2 (by rw [z]; exact n)]; exact k.same a h1 h2 h3, fun a ps e => by
    obtain ⟨ps', e', t⟩ := k.tab a ps e
    exact ⟨ps', (upd_ne fun z => by subst z; rw [n] at e; cases e).trans e', t⟩⟩
/-- a list that is tracked from now on -/
theorem HR.adopt {ρ : List Addr} {H : Hp} {h : PH} {D : Addr} {o : PO} (hr : HR G ρ h H) (hD : D ∉ ρ) (hn : H D ≠ none) (hor : OR G (ρ ++ [D]) H o D) : HR G (ρ ++ [D]) (h.new o) H := by
  refine ⟨by rw [List.length_append, hr.len]; rfl, ?_, fun i o' e => ?_, fun a ha => ?_, fun q hq => ?_⟩
  · rw [List.nodup_append]
    exact ⟨hr.nd, by simp, fun a ha b hb => by simp at hb; subst hb; exact fun z => hD (z ▸ ha)⟩
  · by_cases hi : i = h.n
    · subst hi
      rw [PH.get_new_same] at e
      cases e
      exact ⟨D, by rw [← hr.len]; simp, hor⟩
    · rw [PH.get_new_ne hi] at e
      obtain ⟨a, h1, h2⟩ := hr.obj i o' e
      exact ⟨a, Le.app _ _ _ _ h1, h2.carry (Le.app _ _) (Keep.refl _) rfl⟩
  · rcases List.mem_append.mp ha with hb | hb
    · exact hr.full a hb
    · rw [List.mem_singleton.mp hb]; exact hn
  · obtain ⟨h1, ps, e, t⟩ := hr.tab q hq
    exact ⟨fun z => (List.mem_append.mp z).elim h1 fun z => by rw [List.mem_singleton.mp z] at e; exact hor.notTab ps e, ps, e, t⟩
abbrev slots (own : List (Str × Nat)) : List Nat := own.map (·.2)
abbrev Dt := Sl → PH → Res Bool
def dYes : Dt := fun _ h => .ok true h
def dLc (own : List Nat) (tg : Tg) (di : Sl → PH → Res Src) (dt : Dt) (de : Dn) : Dn := fun σ h => (di σ h).bind fun s h1 => (loopC (cBody own tg dt de σ) s (fuelOf s h1) 0 [] h1).bind fun vs h6 => alloc (.lst vs) h6
/-- the loop's invariant: the list stands at D, the rest of the loop gives what is wanted -/
def LcW (G : Glob) (Wx : XK) (ρ0 : List Addr) (H0 : Hp) (D : Addr) (body : PV → PH → Res (Option PV)) (s : Src) (Q : VK) (i m : Nat) (H : Hp) : Prop :=
  ∃ ρ h acc avs, Le ρ0 ρ ∧ Frm ρ0 H0 ρ H ∧ HR G ρ h H ∧ D ∉ ρ ∧ H D = some (.lst avs) ∧ VRs G.K ρ H acc avs ∧ Post G Wx ρ0 H0 (relV G) ((loopC body s m i acc h).bind fun vs h6 => alloc (.lst vs) h6) Q
theorem lcw_stop {Wx : XK} {ρ0 ρ : List Addr} {H0 H : Hp} {D : Addr} {h : PH} {acc : List PV} {avs : List V} {Q : VK} (n0 : H0 D = none) (le : Le ρ0 ρ) (k : Frm ρ0 H0 ρ H) (hr : HR G ρ h H) (hD : D ∉ ρ) (eD : H D = some (.lst avs)) (r : VRs G.K ρ H acc avs)
    (p : Post G Wx ρ0 H0 (relV G) (alloc (.lst acc) h) Q) : Q (.ref D) H :=
  p (ρ ++ [D]) H (.ref D) (le.trans (Le.app _ _)) ⟨k.toKeep, fun a ha => (List.mem_append.mp ha).elim (k.new a) fun z => .inr (by rw [List.mem_singleton.mp z]; exact n0), k.same, k.tab⟩
    (hr.adopt hD (by rw [eD]; exact fun z => nomatch z) ⟨avs, eD, r.mono (Le.app _ _) (Keep.refl _)⟩) (.ref (new_ref hr))
theorem toLc {tg : Tg} {own : List (Str × Nat)} {di : Sl → PH → Res Src} {dt : Dt} {de : Dn} (ho : ∀ i ∈ tgSlots tg, i ∈ slots own) : ∀ σ H Q, tD G W (dLc (slots own) tg di dt de) σ H Q → tLc (tDI G W di) (gT G.K tg) (tDT G WF dt) (tD G WF de) (slots own) σ H Q := by
  intro σ H Q ⟨ρ, sp, h, sl, hr, p⟩
  refine ⟨ρ, sp, h, sl, hr, Post.bind p fun s h1 ρ1 H1 J _ le k hr1 itr p1 => fun D n => ?_⟩
  have sl1 : SlR G ρ1 H1 sp σ := sl.mono le k.toKeep
  have itr' : ItR G ρ1 H1 s J := itr
  refine ⟨LcW G (fun cls e H' => W cls e σ H') ρ1 H1 D (cBody (slots own) tg dt de sp) s Q, ⟨_, ρ1, h1, [], [], Le.refl _, Frm.lay n, hr1.other n, hr1.fresh n, upd_same, .nil, p1⟩, fun i m H2 ⟨ρ2, h2, acc, avs, le2, k2, hr2, hD, eD, racc, p2⟩ => ?_⟩
  have it2 := itr' ρ2 H2 h2 i le2 k2 hr2
  have stop : nxt s i h2 = some none → (loopC (cBody (slots own) tg dt de sp) s m i acc h2 = .ok acc h2) → J.stop i H2 ∧ Q (V.ref D) H2 := fun e1 e2 => by
    rw [e2] at p2
    exact ⟨it2.1 e1, lcw_stop n le2 k2 hr2 hD eD racc p2⟩
  cases m with
  | zero =>
    cases e1 : nxt s i h2 with
    | none => unfold loopC at p2; rw [e1] at p2; exact False.elim p2
    | some q =>
      cases q with
      | none => exact .inl (stop e1 (by unfold loopC; rw [e1]))
      | some x => unfold loopC at p2; rw [e1] at p2; exact False.elim p2
  | succ m =>
    cases e1 : nxt s i h2 with
    | none => unfold loopC at p2; rw [e1] at p2; exact False.elim p2
    | some q =>
      cases q with
      | none => exact .inl (stop e1 (by unfold loopC; rw [e1]))
      | some x =>
        obtain ⟨go, yl⟩ := it2.2 x e1
        refine .inr ⟨go, fun H' => LcW G (fun cls e H' => W cls e σ H') ρ1 H1 D (cBody (slots own) tg dt de sp) s Q (i + 1) m H', fun H' w => ⟨m, Nat.lt_succ_self m, w⟩, fun v H3 hy => ?_⟩
        obtain ⟨k3, hr3, rv⟩ := yl v H3 hy
        have eD3 : H3 D = some (.lst avs) := (k3.same D hD (by rw [eD]; exact fun z => nomatch z) (fun ps => by rw [eD]; exact fun z => nomatch z)).trans eD
        have racc3 := VRs.mono (Le.refl _) k3.toKeep racc
        have k13 := k2.trans k3
        unfold loopC at p2
        rw [e1] at p2
        have p3 : Post G (fun cls e H' => W cls e σ H') ρ1 H1 (relV G) ((cBody (slots own) tg dt de sp x h2).bind fun r h3 => (match r with
            | none => loopC (cBody (slots own) tg dt de sp) s m (i + 1) acc h3
            | some v => if acc.length < LINE then loopC (cBody (slots own) tg dt de sp) s m (i + 1) (acc ++ [v]) h3 else .no).bind fun vs h6 => alloc (.lst vs) h6) Q := by
          rw [← bind_bind]
          exact p2
        unfold cBody at p3
        rw [bind_bind] at p3
        obtain ⟨sp', eb, p4⟩ := Post.optBind p3
        rw [bind_bind] at p4
        obtain ⟨σ', sl', hw, hgt⟩ := gT_ok (own := slots own) eb (wipe_rel ((sl1.mono le2 k2.toKeep).mono (Le.refl _) k3.toKeep) _) rv ho
        have ww : wipe σ' (slots own) = wipe σ (slots own) := by
          rw [hw]
          have : ∀ (l : List Nat), (∀ i ∈ l, i ∈ slots own) → wipe (wipe σ l) (slots own) = wipe σ (slots own) := by
            intro l
            induction l with
            | nil => intro _; rfl
            | cons q l ih =>
              intro hl
              show wipe ((wipe σ l).set q none) _ = _
              rw [wipe_set (hl q List.mem_cons_self), ih fun i hi => hl i (List.mem_cons_of_mem _ hi)]
          exact this _ fun i hi => hi
        refine hgt _ ⟨ww, ?_⟩
        refine ⟨ρ2, sp', h2, sl', hr3, Post.unquiet (Wx := fun cls e H' => W cls e σ H') (Post.bindAt p4 le2 k13 fun b h4 ρ4 H4 b' eb4 le4 k4 hr4 rb p5 => ?_) _⟩
        have rb' : b = b' := rb
        subst rb'
        have hD4 : D ∉ ρ4 := fun hm => by
          rcases k4.new D hm with z | z
          · exact hD z
          · rw [eD3] at z; cases z
        have eD4 : H4 D = some (.lst avs) := (k4.same D hD (by rw [eD3]; exact fun z => nomatch z) (fun ps => by rw [eD3]; exact fun z => nomatch z)).trans eD3
        have k14 := k13.trans k4
        have racc4 := VRs.mono le4 k4.toKeep racc3
        cases b with
        | false => exact ⟨ρ4, h4, acc, avs, le2.trans le4, k14, hr4, hD4, eD4, racc4, p5⟩
        | true =>
          have p6 : Post G (fun cls e H' => W cls e σ H') ρ1 H1 (relV G) (((de sp' h4).quiet.bind fun v h5 => .ok (some v) h5).bind fun r h3 => (match r with
            | none => loopC (cBody (slots own) tg dt de sp) s m (i + 1) acc h3
            | some v => if acc.length < LINE then loopC (cBody (slots own) tg dt de sp) s m (i + 1) (acc ++ [v]) h3 else .no).bind fun vs h6 => alloc (.lst vs) h6) Q := p5
          rw [bind_bind] at p6
          refine ⟨ρ4, sp', h4, sl'.mono le4 k4.toKeep, hr4, Post.unquiet (Wx := fun cls e H' => W cls e σ H') (Post.bindAt p6 (le2.trans le4) k14 fun y h5 ρ5 H5 y' _ le5 k5 hr5 ry p7 => ?_) _⟩
          have hD5 : D ∉ ρ5 := fun hm => by
            rcases k5.new D hm with z | z
            · exact hD4 z
            · rw [eD4] at z; cases z
          have eD5 : H5 D = some (.lst avs) := (k5.same D hD4 (by rw [eD4]; exact fun z => nomatch z) (fun ps => by rw [eD4]; exact fun z => nomatch z)).trans eD4
          have racc5 := VRs.mono le5 k5.toKeep racc4
          have p8 : Post G (fun cls e H' => W cls e σ H') ρ1 H1 (relV G) ((if acc.length < LINE then loopC (cBody (slots own) tg dt de sp) s m (i + 1) (acc ++ [y]) h5 else .no).bind fun vs h6 => alloc (.lst vs) h6) Q := p7
          split at p8
          · rename_i hlen
            refine ⟨avs, eD5, by rw [← LINE_eq, ← racc.length]; exact hlen, ?_⟩
            have sf : Soft (H5 D) := by rw [eD5]; trivial
            have kp : Keep H5 (upd H5 D (.lst (avs ++ [y']))) := .upd sf
            exact ⟨ρ5, h5, acc ++ [y], avs ++ [y'], (le2.trans le4).trans le5, (k14.trans k5).writeD n sf, hr5.keep kp (fun a ha => upd_ne fun z => hD5 (z ▸ ha)) fun q hq => by
            obtain ⟨_, ps, e, tt⟩ := hr5.tab q hq
            exact ⟨ps, (upd_ne fun z => by rw [z, eD5] at e; cases e).trans e, tt⟩, hD5, upd_same, (VRs.append racc5 (.cons ry .nil)).mono (Le.refl _) kp, p8⟩
          · exact False.elim p8

theorem pd_lc {tg : Tg} {tge iter elt : Expr} {ifs : List Expr} {scope : Scope} {own : List (Str × Nat)} {di : Sl → PH → Res Src} {dt : Dt} {de : Dn} (hK : X.K = G.K) (hc : X.calm = true) (nd : X.N.Nodup) (hi : PI X tge iter (tDI G W di)) (ok : BlkOk X.N X.env.scope scope own)
    (hg : ∀ (s : Shared) (H : Hp) (C : Addr) (cl : List (Str × Addr)) (fp : List Addr), PG (X.blk s H scope (compEnvC scope cl C X.env) fp) tge (gT G.K tg))
    (ht : ∀ (s : Shared) (H : Hp) (C : Addr) (cl : List (Str × Addr)) (fp : List Addr), PTs (X.blk s H scope (compEnvC scope cl C X.env) fp) ifs (tDT G WF dt))
    (he : ∀ (s : Shared) (H : Hp) (C : Addr) (cl : List (Str × Addr)) (fp : List Addr), PE (X.blk s H scope (compEnvC scope cl C X.env) fp) elt (tD G WF de))
    (ho : ∀ i ∈ tgSlots tg, i ∈ slots own) (hs : ∀ x, foldedSetIterable iter X.env x = pure x) :
    PE X (.ListComp elt [⟨tge, iter, ifs, 0⟩] scope pos) (tD G W (dLc (slots own) tg di dt de)) :=
  PE.weak (pe_lc hc nd hi ok hg ht he hs) (toLc ho)

/-! ### methods -/
def dMeth (P : Pg) (R : Rn) (d : Dn) (m : Nat) (ds : Da) : Dn := fun σ h => (d σ h).bind fun x h1 => (Fx.opt (mfind P x m h1) h1).bind fun f h2 => (ds σ h2).bind fun vs h3 => R f (x :: vs) h3
theorem meth_in {ρ : List Addr} {H : Hp} {h : PH} {p : PV} {v : V} {m f : Nat} {name : Str} (hK : X.K = G.K) (hn : G.mns[m]? = some name) (mt : MtOk G G.K) (hr : HR G ρ h H) (r : VR G.K ρ H p v) (e : mfind G.P p m h = some f) :
    ∃ a C dx fs, v = .ref a ∧ H a = some (.ins C dx fs) ∧ Cls X.K C ∧ Meth X.K C name (G.fa f) ∧ fs.lookup name = none ∧ L2.Binds X.K (G.fd f) (G.ps f) [] := by
  unfold mfind at e
  split at e
  · rename_i n
    split at e
    · rename_i c fs en
      obtain ⟨a, rfl, ea⟩ := r.ref_inv
      obtain ⟨dx, ws, h2, hc, rr⟩ := hr.at_ en ea
      obtain ⟨nm, e1, me, bi⟩ := mt c m f e
      rw [hn] at e1
      cases e1
      exact ⟨a, G.cm c, dx, ws, rfl, h2, hK ▸ hc, hK ▸ me, noField me rr, hK ▸ bi⟩
    · cases e
  · cases e
theorem pd_meth {j m : Nat} {R : Rn} {name : Str} (hK : X.K = G.K) (hn : G.mns[m]? = some name) (mt : MtOk G G.K) (tk : Takes X W) (F : ∀ f, FnC G X j R f) (hr : Room j X.A) (ho : PE X o (tD G W d)) (ha : PA X (e :: es) (tDA G W ds))
    (hb : isCall0 o = false) (hs : isStar e = false) (hp : plainA es = true) (hl : es.length < 29) (line : (apos.endLine == pos.line) = true) : PE X (.Call (.Attribute o name apos) (e :: es) [] pos) (tD G W (dMeth G.P R d m ds)) := by
  refine ⟨fun pins s σ H Q I ⟨ρ, sp, h, sl, hr2, p⟩ => methcall_of ho I ⟨ρ, sp, h, sl, hr2, Post.bind p fun x h1 ρ1 H1 v _ le k hr1 rx p1 => ?_⟩ (meth_ht hb (by unfold plainA; rw [List.all_cons, hs]; exact hp) (by simp; omega) line name _)⟩
  obtain ⟨f, ef, p2⟩ := Post.optBind p1
  obtain ⟨a, C, dx, fs, rfl, h2, hc, me, nf, bi⟩ := meth_in hK hn mt hr1 rx ef
  refine ⟨a, C, dx, fs, G.fa f, rfl, h2, hc, me, nf, fun s1 I1 => ?_⟩
  refine PySem.W.callWith_K (first := [.ref a]) (h₀ := X.base) I1.ok.mod.kin me.kp (thn (ha.run pos pins s1 σ H1 _ I1 ⟨ρ1, sp, h1, sl.mono le k.toKeep, hr1, Post.bind p2 fun xs h3 ρ3 H3 vs _ le3 k3 hr3 rxs p3 =>
    (⟨ρ3, _, h3, hr3, .cons (VR.mono le3 k3.toKeep rx) rxs, p3⟩ : spOf G R f (V.ref a :: vs) H3 Q (WE W σ))⟩) fun us s2 ⟨vs, H3, I3, r, q⟩ => ⟨I3.kIn, ?_⟩) (starEach_cons hs _) (any_plain hp _)
  exact run_fnSD (us := .ref a :: us) (vs := .ref a :: vs) (dvs := []) (E := WE W) (F f) hr bi .nil (passAt tk σ) I3 (.cons rfl r) (by rw [List.append_nil]; exact q)
theorem pd_meth0 {j m : Nat} {R : Rn} {name : Str} (hK : X.K = G.K) (hn : G.mns[m]? = some name) (mt : MtOk G G.K) (tk : Takes X W) (F : ∀ f, FnC G X j R f) (hr : Room j X.A) (ho : PE X o (tD G W d))
    (hb : isCall0 o = false) (line : (apos.endLine == pos.line) = true) : PE X (.Call (.Attribute o name apos) [] [] pos) (tD G W (dMeth G.P R d m dNil)) := by
  refine ⟨fun pins s σ H Q I ⟨ρ, sp, h, sl, hr2, p⟩ => methcall_of ho I ⟨ρ, sp, h, sl, hr2, Post.bind p fun x h1 ρ1 H1 v _ le k hr1 rx p1 => ?_⟩ (meth_ht hb rfl (by simp) line name _)⟩
  obtain ⟨f, ef, p2⟩ := Post.optBind p1
  obtain ⟨a, C, dx, fs, rfl, h2, hc, me, nf, bi⟩ := meth_in hK hn mt hr1 rx ef
  refine ⟨a, C, dx, fs, G.fa f, rfl, h2, hc, me, nf, fun s1 I1 => ?_⟩
  exact PySem.W.callWith_K0 (first := [.ref a]) I1.kIn me.kp (run_fnSD (us := [.ref a]) (vs := [.ref a]) (dvs := []) (E := WE W) (F f) hr bi .nil (passAt tk σ) I1 (.cons rfl .nil) ⟨ρ1, _, h1, hr1, .cons rx .nil, p2⟩)

/-! ### makers -/
def dMk (P : Pg) (R : Rn) (c : Nat) (ds : Da) (dfs : List PV) : Dn := fun σ h => (ds σ h).bind fun vs h1 => mkObj P R c (vs ++ dfs) h1
/-- the class c is made by f -/
structure MkOk (G : Glob) (K : PySem.W.Frag) (c f : Nat) (dfs : List PV) : Prop where
  ini : G.P.ini c = some f
  makes : Mk K (G.cm c) (G.fa f)
  cls : Cls K (G.cm c)
  dfl : Dfl G K f dfs
theorem made_at {j c f : Nat} {R : Rn} {dfs : List PV} {pins : List (Addr × Obj)} {σ : L2.St} {H : Hp} {s : Shared} {Q : VK} {us : List Value} {vs : List V} {ρ : List Addr} {h : PH} {ps : List PV} (hK : X.K = G.K) (tk : Takes X W) (M : MkOk G G.K c f dfs) (F : FnC G X j R f) (hr : Room (j + 1) X.A)
    (I : Inv X pins σ H s) (r : Vals vs us) (hh : HR G ρ h H) (rs : VRs G.K ρ H ps vs) (p : Post G (WE W σ) ρ H (relV G) (mkObj G.P R c (ps ++ dfs) h) Q) : wpAny (model X.prog X.w) X.A (call (.ref (G.cm c)) us) (EP X pins σ Q) X.xe s := by
  obtain ⟨dvs, dus, hb, hv, hd⟩ := M.dfl
  have mk := M.makes
  rw [← hK] at mk hb
  have J : Inv X pins σ _ _ := Inv.made (C := G.cm c) I
  generalize hx : s.heap.objs.size + 1 = x at J
  generalize hdx : s.heap.objs.size = q at J
  have n1 : H x = none := I.hok.fresh (by omega)
  have n2 : H q = none := I.hok.fresh (by omega)
  have ne : q ≠ x := by omega
  have n1' : upd H q (HO.own x) x = none := by rw [upd_ne fun z => ne z.symm]; exact n1
  unfold mkObj at p
  rw [M.ini] at p
  have hq1 := hh.other (o := HO.own x) n2
  have hq2 : HR G (ρ ++ [x]) (h.new (.ins c [])) (upd (upd H q (HO.own x)) x (.ins (G.cm c) q [])) := hq1.new n1' ⟨q, [], upd_same, M.cls, .nil⟩
  have le : Le ρ (ρ ++ [x]) := Le.app _ _
  have k : Frm ρ H (ρ ++ [x]) (upd (upd H q (HO.own x)) x (.ins (G.cm c) q [])) := (Frm.lay n2).trans (Frm.alloc n1')
  have rall : VRs G.K (ρ ++ [x]) (upd (upd H q (HO.own x)) x (.ins (G.cm c) q [])) (.ref h.n :: (ps ++ dfs)) (V.ref x :: (vs ++ dvs)) := .cons (.ref (new_ref hh)) ((rs.mono le k.toKeep).append (hd _ _))
  have want : spOf G R f (V.ref x :: (vs ++ dvs)) (upd (upd H q (HO.own x)) x (.ins (G.cm c) q [])) (fun v H2 => v = .non ∧ Q (.ref x) H2) (WE W σ) :=
    ⟨ρ ++ [x], _, _, hq2, rall, Post.bindAt (ρ0 := ρ) (H0 := H) p le k fun a h1 ρ1 H1 b _ le1 k1 hr1 rb p1 => by
      cases a with
      | non => exact ⟨VR.non_inv rb, p1 ρ1 H1 _ (le.trans le1) (k.trans k1) hr1 (.ref (le1 _ _ (new_ref hh)))⟩
      | _ => exact False.elim p1⟩
  have r2 : Vals (V.ref x :: (vs ++ dvs)) (Value.ref x :: (us ++ dus)) := .cons rfl (r.append hv)
  have hl : (Value.ref x :: us ++ dus).length = (G.ps f).length := by
    rw [← F.len _ _ _ _ want]
    exact r2.length.symm
  subst hdx
  subst hx
  refine wpAny_call (make_map I.kIn mk.makes mk.init (beq_iff_eq.mp mk.fn) ?_)
  refine codeAny_mono (F.run _ X.stack _ _ _ _ _ _ _ (hr.make _ us []) (J.env0.make _ us []) (hb _ (Value.ref (s.heap.objs.size + 1) :: us) J.kIn hl) r2 want) fun res s' back => ?_
  match res, back with
  | .error ex, back => exact passAt tk σ pins _ _ ex s' J back
  | .ok (.ret u), back =>
    obtain ⟨v, H', J', rv, ev, qq⟩ := J.after back
    subst ev
    exact ⟨rv, V.ref (s.heap.objs.size + 1), H', J', rfl, qq⟩
theorem pd_mk {j c f : Nat} {R : Rn} {x : Str} {dfs : List PV} (hK : X.K = G.K) (tk : Takes X W) (M : MkOk G G.K c f dfs) (F : FnC G X j R f) (hr : Room (j + 1) X.A) (hg : Gl X x) (hm : X.mg x = some (.ref (G.cm c)))
    (hs : isStar e = false) (hp : plainA es = true) (hdb : (x == ("__debug__" : Str)) = false) (ha : PA X (e :: es) (tDA G W ds)) : PE X (.Call (.Name x p1) (e :: es) [] pos) (tD G W (dMk G.P R c ds dfs)) := by
  refine ⟨fun pins s σ H Q I ⟨ρ, sp, h, sl, hr2, p⟩ => ?_⟩
  refine wpAny_Call_Name_kw (ld_glob I hg hm ?_ hdb)
  have mk := M.makes
  rw [← hK] at mk
  refine PySem.W.callWith_K (h₀ := X.base) I.ok.mod.kin mk.kp (thn (ha.run pos pins s σ H _ I ⟨ρ, sp, h, sl, hr2, Post.bind p fun xs h1 ρ1 H1 vs _ le k hr1 rx p1 =>
    (⟨ρ1, h1, xs, hr1, rx, p1⟩ : ∃ ρ1 h1 ps, HR G ρ1 h1 H1 ∧ VRs G.K ρ1 H1 ps vs ∧ Post G (WE W σ) ρ1 H1 (relV G) (mkObj G.P R c (ps ++ dfs) h1) Q)⟩) fun us s1 ⟨vs, H1, I1, r, ρ1, h1, ps, hr1, rx, p1⟩ => ⟨I1.kIn, ?_⟩) (starEach_cons hs _) (any_plain hp _)
  exact made_at hK tk M F hr I1 r hr1 rx p1
theorem pd_mk0 {j c f : Nat} {R : Rn} {x : Str} {dfs : List PV} (hK : X.K = G.K) (tk : Takes X W) (M : MkOk G G.K c f dfs) (F : FnC G X j R f) (hr : Room (j + 1) X.A) (hg : Gl X x) (hm : X.mg x = some (.ref (G.cm c)))
    (hdb : (x == ("__debug__" : Str)) = false) : PE X (.Call (.Name x p1) [] [] pos) (tD G W (dMk G.P R c dNil dfs)) := by
  refine ⟨fun pins s σ H Q I ⟨ρ, sp, h, sl, hr2, p⟩ => ?_⟩
  refine wpAny_Call_Name_kw (ld_glob I hg hm ?_ hdb)
  have mk := M.makes
  rw [← hK] at mk
  exact PySem.W.callWith_K0 I.kIn mk.kp (made_at (us := []) (vs := []) (ps := []) hK tk M F hr I .nil hr2 .nil p)
end
end Fx

/-! The trace of an all(..). -/
namespace Fx
open PySem L2
/-- behind each item the heap, each item's answer -/
structure Trace (body : PV → PH → Res PV) (s : Src) (i : Nat) (h : PH) (r : Bool) (h' : PH) (n : Nat) (b : Nat → Bool) (hs : Nat → PH) : Prop where
  start : hs i = h
  le : i ≤ n
  item : ∀ j, i ≤ j → j < n → ∃ x, nxt s j (hs j) = some (some x) ∧ body x (hs j) = .ok (.bl (b j)) (hs (j + 1)) ∧ (j + 1 < n → b j = true)
  fin : h' = hs n
  res : (r = true ∧ (∀ j, i ≤ j → j < n → b j = true) ∧ nxt s n (hs n) = some none) ∨ (r = false ∧ i < n ∧ b (n - 1) = false)
theorem loopA_trace {body : PV → PH → Res PV} {s : Src} : ∀ (f i : Nat) (h : PH) (r : Bool) (h' : PH), loopA body s f i h = .ok r h' → ∃ n b hs, Trace body s i h r h' n b hs
  | 0, i, h, r, h', e => by
    unfold loopA at e
    split at e
    · rename_i q
      cases e
      exact ⟨i, fun _ => true, fun _ => h, rfl, Nat.le_refl _, fun j h1 h2 => by omega, rfl, .inl ⟨rfl, fun _ _ _ => rfl, q⟩⟩
    · cases e
  | f + 1, i, h, r, h', e => by
    unfold loopA at e
    split at e
    · rename_i q
      cases e
      exact ⟨i, fun _ => true, fun _ => h, rfl, Nat.le_refl _, fun j h1 h2 => by omega, rfl, .inl ⟨rfl, fun _ _ _ => rfl, q⟩⟩
    · rename_i x q
      cases eb : body x h with
      | no => rw [eb] at e; cases e
      | exc c fs h1 => rw [eb] at e; cases e
      | ok v h1 =>
        rw [eb] at e
        have e2 : (match (generalizing := false) v with
          | .bl true => loopA body s f (i + 1) h1
          | .bl false => .ok false h1
          | _ => .no) = Res.ok r h' := e
        split at e2
        · obtain ⟨n, b, hs, T⟩ := loopA_trace f (i + 1) h1 r h' e2
          have hle := T.le
          refine ⟨n, fun j => if j = i then true else b j, fun j => if j ≤ i then h else hs j, if_pos (Nat.le_refl _), by omega, fun j h2 h3 => ?_, ?_, ?_⟩
          · by_cases hj : j = i
            · subst hj
              refine ⟨x, ?_, ?_, fun _ => if_pos rfl⟩
              · show nxt s j (if j ≤ j then h else hs j) = _
                rw [if_pos (Nat.le_refl _)]; exact q
              · show body x (if j ≤ j then h else hs j) = .ok (.bl (if j = j then true else b j)) (if j + 1 ≤ j then h else hs (j + 1))
                rw [if_pos (Nat.le_refl _), if_pos rfl, if_neg (by omega), T.start]; exact eb
            · obtain ⟨y, a1, a2, a3⟩ := T.item j (by omega) h3
              refine ⟨y, ?_, ?_, fun z => ?_⟩
              · show nxt s j (if j ≤ i then h else hs j) = _
                rw [if_neg (by omega)]; exact a1
              · show body y (if j ≤ i then h else hs j) = .ok (.bl (if j = i then true else b j)) (if j + 1 ≤ i then h else hs (j + 1))
                rw [if_neg (by omega), if_neg hj, if_neg (by omega)]; exact a2
              · show (if j = i then true else b j) = true
                rw [if_neg hj]; exact a3 z
          · show h' = if n ≤ i then h else hs n
            rw [if_neg (by omega)]; exact T.fin
          · show (r = true ∧ (∀ j, i ≤ j → j < n → (if j = i then true else b j) = true) ∧ nxt s n (if n ≤ i then h else hs n) = some none) ∨ (r = false ∧ i < n ∧ (if n - 1 = i then true else b (n - 1)) = false)
            rw [if_neg (by omega)]
            rcases T.res with ⟨h1, h2, h3⟩ | ⟨h1, h2, h3⟩
            · refine .inl ⟨h1, fun j h4 h5 => ?_, h3⟩
              by_cases hj : j = i
              · rw [if_pos hj]
              · rw [if_neg hj]; exact h2 j (by omega) h5
            · exact .inr ⟨h1, by omega, by rw [if_neg (by omega)]; exact h3⟩
        · cases e2
          refine ⟨i + 1, fun _ => false, fun j => if j ≤ i then h else h', if_pos (Nat.le_refl _), by omega, fun j h2 h3 => ?_, ?_, .inr ⟨rfl, by omega, rfl⟩⟩
          · have hj : j = i := by omega
            subst hj
            refine ⟨x, ?_, ?_, fun z => by omega⟩
            · show nxt s j (if j ≤ j then h else h') = _
              rw [if_pos (Nat.le_refl _)]; exact q
            · show body x (if j ≤ j then h else h') = .ok (.bl false) (if j + 1 ≤ j then h else h')
              rw [if_pos (Nat.le_refl _), if_neg (by omega)]; exact eb
          · show h' = if i + 1 ≤ i then h else h'
            rw [if_neg (by omega)]
        · cases e2
    · cases e
end Fx

/-! all(..) of a generator expression whose element may do anything. -/
namespace Fx
open PySem PySem.Spec PyProof.Rows L2
section
variable {M : Model}
theorem setGen_size (s : Shared) (g : Nat) (x : GenState) : (s.setGen g x).gens.size = s.gens.size := by simp [Shared.setGen]
/-- a run makes generators, it takes none away -/
theorem runs_gens {Γ : PySem.Ctx} {p : Pos} {t : Sem Fin} {fs : List Frame} {s s' : Shared} {e : End} (r : Runs M Γ p t fs s e s') : s.gens.size ≤ s'.gens.size := by
  induction r with
  | newGen _ ih => exact Nat.le_trans (by simp) ih
  | resumeFresh _ _ _ _ a b => rw [setGen_size] at a b; exact Nat.le_trans a b
  | resumeSuspended _ _ _ _ a b => rw [setGen_size] at a b; exact Nat.le_trans a b
  | resumeThrowFresh _ _ a => rw [setGen_size] at a; exact a
  | segGen _ _ a b => rw [setGen_size] at b; exact Nat.le_trans a b
  | segSuspGen _ _ _ _ a b => rw [setGen_size] at b; exact Nat.le_trans a b
  | call _ _ a b => exact Nat.le_trans a b
  | segRet _ _ a b => exact Nat.le_trans a b
  | callSusp _ a => exact a
  | segSuspOut _ _ a => exact a
  | done => exact Nat.le_refl _
  | raise => exact Nat.le_refl _
  | yield => exact Nat.le_refl _
  | _ => assumption
theorem wakes_gens {Γ : PySem.Ctx} {p : Pos} {g : Nat} {r : Resume} {s s' : Shared} {res : GenResult} (h : Wakes M Γ p g r s res s') : s.gens.size ≤ s'.gens.size := by
  unfold Wakes at h
  split at h
  · exact h.elim
  · split at h
    · obtain ⟨e, s1, h1, _, _, rfl⟩ := h
      have := runs_gens h1
      rw [setGen_size] at this ⊢
      exact this
    · rw [h.2]; exact Nat.le_refl _
    · rw [h.2, setGen_size]; exact Nat.le_refl _
  · obtain ⟨e, s1, h1, _, _, rfl⟩ := h
    have := runs_gens h1
    rw [setGen_size] at this ⊢
    exact this
  · rw [h.2]; exact Nat.le_refl _
  · rw [h.2]; exact Nat.le_refl _
theorem wp_gens {α : Type} {Γ : PySem.Ctx} (n : Nat) (m : Sem α) : ∀ {Q : α → Pos → Shared → Prop} {E : Value → Pos → Shared → Prop} {p : Pos} {s : Shared}, n ≤ s.gens.size → Sem.wp M Γ m Q E p s →
    Sem.wp M Γ m (fun a p' s' => Q a p' s' ∧ n ≤ s'.gens.size) (fun x p' s' => E x p' s' ∧ n ≤ s'.gens.size) p s := by
  induction m with
  | pure a => intro Q E p s hn h; exact ⟨h, hn⟩
  | raise x => intro Q E p s hn h; exact ⟨h, hn⟩
  | unsupported what => intro Q E p s hn h; exact h.elim
  | finish x => intro Q E p s hn h; exact h.elim
  | register a k => intro Q E p s hn h; exact h.elim
  | yield v g l k => intro Q E p s hn h; exact h.elim
  | fork c k => intro Q E p s hn h; exact h.elim
  | await a f d l k => intro Q E p s hn h; exact h.elim
  | load a part k ih => intro Q E p s hn h; obtain ⟨o, ho, h⟩ := h; exact ⟨o, ho, ih o hn h⟩
  | update a part f k ih => intro Q E p s hn h; exact ⟨h.1, ih () hn h.2⟩
  | choose src n k ih => intro Q E p s hn h; exact ⟨h.1, ih _ hn h.2⟩
  | call c h g l k ih =>
    intro Q E p s hn hw
    obtain ⟨r, s₁, hret, hw⟩ := hw
    exact ⟨r, s₁, hret, ih r (Nat.le_trans hn (runs_gens hret)) hw⟩
  | genState g k ih => intro Q E p s hn h; obtain ⟨st, hg, h⟩ := h; exact ⟨st, hg, ih _ hn h⟩
  | resume g r l k ih => intro Q E p s hn h; obtain ⟨res, s₁, hwk, h⟩ := h; exact ⟨res, s₁, hwk, ih res (Nat.le_trans hn (wakes_gens hwk)) h⟩
  | newGen c k ih => intro Q E p s hn h; exact ih _ (by simp; omega) h
  | _ => rename_i ih; intro Q E p s hn h; exact ih _ hn h
theorem wpAny_gens {α : Type} {A : Around} {m : Sem α} {Q : α → Shared → Prop} {E : Value → Shared → Prop} {s : Shared} (h : wpAny M A m Q E s) :
    wpAny M A m (fun a s' => Q a s' ∧ s.gens.size ≤ s'.gens.size) (fun x s' => E x s' ∧ s.gens.size ≤ s'.gens.size) s := fun Γ p hΓ => wp_gens s.gens.size m (Nat.le_refl _) (h Γ p hΓ)
end

section
variable {prog : Program} {w : World} {A : Around} {n : Nat} {b : Nat → Bool} {S : Nat → Shared → Prop} {Z : Shared → Prop} {I : Addr} {elt iter : Expr} {x : Str} {px : Pos} {scope : Scope} {pos : Pos} {cenv : Env}
/-- what the generator promises behind each item -/
def gPro (n : Nat) (b : Nat → Bool) (S : Nat → Shared → Prop) : Protocol := fun m _ v s kap => ∃ i, i + 1 + m = n ∧ v = .bool (b i) ∧ S (i + 1) s ∧ ∀ s2, b i = true → S (i + 1) s2 → kap (.send .none) s2
abbrev gEnd (Z : Shared → Prop) : GenEnd := fun k _ r s1 => r = .ok .next ∧ (k = 0 ∧ Z s1)
abbrev gExp (elt iter : Expr) (x : Str) (px : Pos) (scope : Scope) (pos : Pos) : Expr := .GeneratorExp elt [⟨.Name x px, iter, [], 0⟩] scope pos
/-- the generator's turns: S i is the state in which i items have been taken -/
structure Turns (prog : Program) (w : World) (A1 : Around) (n : Nat) (b : Nat → Bool) (S : Nat → Shared → Prop) (Z : Shared → Prop) (I : Addr) (elt : Expr) (x : Str) (px : Pos) (cenv : Env) : Prop where
  item : ∀ i s, i < n → (∀ j, j < i → b j = true) → S i s → wpAny (model prog w) A1 (pyNext (.ref I)) (fun r s1 => ∃ v, r = some v ∧ wpAny (model prog w) A1 (letOwnedTupleGo (.Name x px) (.ref I) v) (fun _ s1 => wpAny (model prog w) A1 (assign (.Name x px) cenv v) (fun _ s2 => wpAny (model prog w) A1 (eval elt cenv) (fun y s3 => y = .bool (b i) ∧ S (i + 1) s3) (fun _ _ => False) s2) (fun _ _ => False) s1) (fun _ _ => False) s1) (fun _ _ => False) s
  last : (∀ j, j < n → b j = true) → ∀ s, S n s → wpAny (model prog w) A1 (pyNext (.ref I)) (fun r s1 => r = none ∧ Z s1) (fun _ _ => False) s
theorem gen_loop (hco : cenv.scope.isCoroutine = false) (T : Turns prog w (A.over (.compLoop (gExp elt iter x px scope pos) 0 (.ref I) .none cenv) []) n b S Z I elt x px cenv) : ∀ (k i : Nat) (s0 s : Shared), n - i = k → i ≤ n → (∀ j, j < i → b j = true) → S i s →
    Seg (model prog w) A (gEnd Z) (gPro n b S) (n - i) s0 (.compLoop (gExp elt iter x px scope pos) 0 (.ref I) .none cenv) ((model prog w).den (.compLoop (gExp elt iter x px scope pos) 0 (.ref I) .none cenv)) [] s := by
  intro k
  induction k with
  | zero =>
    intro i s0 s hk hi hb hs
    have e : i = n := by omega
    subst e
    show Seg _ A _ _ _ s0 _ ((compTurn (gExp elt iter x px scope pos) 0 (.ref I) .none cenv).onRaise (leaving cenv)) [] s
    rw [compTurn_gen, Sem.onRaise_eq_wrap]
    refine seg_bind_wrap (wpAny_standAt (seg_bind_wrap (wpAny_mono (T.last hb s hs) (fun r s1 h => ?_) fun _ _ z => z.elim)))
    obtain ⟨rfl, h1⟩ := h
    exact seg_end (.ok .next) ⟨rfl, by omega, h1⟩
  | succ k ih =>
    intro i s0 s hk hi hb hs
    have hlt : i < n := by omega
    have en : n - i = (n - (i + 1)) + 1 := by omega
    rw [en]
    show Seg _ A _ _ _ s0 _ ((compTurn (gExp elt iter x px scope pos) 0 (.ref I) .none cenv).onRaise (leaving cenv)) [] s
    rw [compTurn_gen, Sem.onRaise_eq_wrap]
    refine seg_bind_wrap (wpAny_standAt (seg_bind_wrap (wpAny_mono (T.item i s hlt hb hs) (fun r s1 h => ?_) fun _ _ z => z.elim)))
    obtain ⟨v, rfl, h⟩ := h
    refine seg_bind_wrap (wpAny_mono h (fun _ s1 h => seg_bind_wrap (wpAny_mono h (fun _ s2 h => ?_) fun _ _ z => z.elim)) fun _ _ z => z.elim)
    refine seg_bind_wrap (wpAny_of_eq (a := true) (by rfl) ?_)
    have hy : ∀ v, yieldOut cenv v = yieldValue v := fun v => by simp only [yieldOut, hco, Bool.false_eq_true, if_false]
    simp only [if_true, hy]
    rw [Sem.bind_eq_wrap', Sem.bind_eq_wrap', Sem.wrap_wrap, Sem.wrap_wrap]
    refine seg_wrap (wpAny_mono h (fun y s3 h3 => ?_) fun _ _ z => z.elim)
    refine seg_at (seg_yield rfl rfl rfl ⟨i, by omega, h3.1, h3.2, fun s4 hbi h4 => seg_again rfl (ih (i + 1) s4 s4 (by omega) hlt (fun m hm => (Nat.lt_succ_iff_lt_or_eq.mp hm).elim (hb m) fun q => q ▸ hbi) h4)⟩)
theorem gen_start (hco : cenv.scope.isCoroutine = false) (T : Turns prog w (A.over (.compLoop (gExp elt iter x px scope pos) 0 (.ref I) .none cenv) []) n b S Z I elt x px cenv)
    (self : ∀ s, S 0 s → wpAny (model prog w) (A.over (.compStart (gExp elt iter x px scope pos) 0 (.ref I) .none cenv) []) (pyIter (.ref I)) (fun v s1 => v = .ref I ∧ S 0 s1) (fun _ _ => False) s) (s0 s : Shared) (hs : S 0 s) :
    Seg (model prog w) A (gEnd Z) (gPro n b S) n s0 (.compStart (gExp elt iter x px scope pos) 0 (.ref I) .none cenv) ((model prog w).den (.compStart (gExp elt iter x px scope pos) 0 (.ref I) .none cenv)) [] s := by
  have loop : ∀ s, S 0 s → Seg (model prog w) A (gEnd Z) (gPro n b S) n s0 (.compLoop (gExp elt iter x px scope pos) 0 (.ref I) .none cenv) ((model prog w).den (.compLoop (gExp elt iter x px scope pos) 0 (.ref I) .none cenv)) [] s := fun s h => gen_loop hco T n 0 s0 s (Nat.sub_zero _) (Nat.zero_le _) (fun _ z => absurd z (Nat.not_lt_zero _)) h
  show Seg _ A _ _ _ s0 _ ((compStart (gExp elt iter x px scope pos) 0 (.ref I) .none cenv).onRaise (leaving cenv)) [] s
  unfold compStart
  rw [Sem.onRaise_eq_wrap]
  show Seg _ A _ _ _ s0 _ ((ask >>= _).wrap _ _ _ _) [] s
  refine seg_bind_wrap (wpAny_askSetting ?_)
  split
  · exact seg_again rfl (loop s hs)
  · have fin : ∀ {K : Value → Sem Fin} {H : Value → Sem Fin} {gd lv}, (∀ s1, S 0 s1 → Seg (model prog w) A (gEnd Z) (gPro n b S) n s0 (.compStart (gExp elt iter x px scope pos) 0 (.ref I) .none cenv) ((K (.ref I)).wrap .pure H gd lv) [] s1) →
        wpAny (model prog w) (A.over (.compStart (gExp elt iter x px scope pos) 0 (.ref I) .none cenv) []) (pyIter (.ref I)) (fun v s1 => Seg (model prog w) A (gEnd Z) (gPro n b S) n s0 (.compStart (gExp elt iter x px scope pos) 0 (.ref I) .none cenv) ((K v).wrap .pure H gd lv) [] s1) (fun _ _ => False) s := fun k =>
      wpAny_mono (self s hs) (fun v s1 h => by obtain ⟨rfl, h1⟩ := h; exact k s1 h1) fun _ _ z => z
    first
      | exact seg_bind_wrap (wpAny_rule (seg_bind_wrap (wpAny_standAt (seg_bind_wrap (wpAny_mono (self s hs) (fun v s1 h => by obtain ⟨rfl, h1⟩ := h; exact seg_again rfl (loop s1 h1)) fun _ _ z => z.elim)))))
      | (refine seg_bind_wrap (wpAny_rule ?_); show Seg _ A _ _ _ s0 _ ((standAt iter.pos >>= _).wrap _ _ _ _) [] s; exact seg_bind_wrap (wpAny_standAt (seg_bind_wrap (wpAny_mono (self s hs) (fun v s1 h => by obtain ⟨rfl, h1⟩ := h; exact seg_again rfl (loop s1 h1)) fun _ _ z => z.elim))))
/-- what the states of a generator keep -/
structure SOk (S : Nat → Shared → Prop) (Z : Shared → Prop) (a : Addr) (g : Nat) : Prop where
  gen : ∀ i s, S i s → s.heap.IsGen a g ∧ s.heap.NoLimit ∧ g < s.gens.size
  set : ∀ i s gs, gs.bare = true → S i s → S i (s.setGen g gs)
  fin : ∀ s gs h', gs.bare = true → Z s → (∀ c o, s.heap.get? c = some o → h'.get? c = some o) → Z { s.setGen g gs with heap := h' }
def GA (prog : Program) (w : World) (A : Around) (n : Nat) (b : Nat → Bool) (S : Nat → Shared → Prop) (Z : Shared → Prop) (g i : Nat) (s : Shared) : Prop :=
  S i s ∧ ∃ gs, s.gens[g]? = some gs ∧ ∀ s2, S i s2 → gs.Goes (model prog w) A.in1 (gEnd Z) (gPro n b S) (n - i) (.send .none) s2
theorem all_loop {a : Addr} {g : Nat} {R : Result → Shared → Prop} (hh : A.handled = none) (hd : A.depth < recursionLimit) (K : SOk S Z a g) (hF : ∀ i s, i < n → (∀ j, j < i → b j = true) → b i = false → S (i + 1) s → R (.ok (.ret (.bool false))) s)
    (hT : (∀ j, j < n → b j = true) → ∀ s, Z s → R (.ok (.ret (.bool true))) s) : ∀ (k i : Nat) (s : Shared), n - i = k → i ≤ n → (∀ j, j < i → b j = true) → GA prog w A.in1 n b S Z g i s →
    codeAny (model prog w) A (.builtin "all.loop" ⟨[.ref a], []⟩) R s := by
  have hh1 : A.in1.handled = none := hh
  have hd1 : A.in1.depth < recursionLimit := hd
  intro k
  induction k with
  | zero =>
    intro i s hk hi hb ⟨st, gs, hgs, hgo⟩
    have e : i = n := by omega
    subst e
    obtain ⟨g1, g2, g3⟩ := K.gen _ _ st
    refine codeAny_builtin F.entry_all_loop ?_
    rw [Around.under_plainId F.plain_all_loop _]
    show wpAny _ A.in1 (pyNext (.ref a) >>= _) _ _ s
    refine wpAny_bind (wpAny_pyNext_genexpQ (P := fun k _ s1 => k = 0 ∧ Z s1) hh1 g2 hd1 g1 hgs (hgo _ (K.set _ _ _ rfl st)) (fun v s1 gs' hbare hv => ?_) (fun s1 hp h' hk' => ?_))
    · obtain ⟨j, e1, rfl, h3, h4⟩ := hv
      have h5 := h4 s1 (hb j (by omega)) h3
      rw [Nat.sub_self] at h5
      exact h5.elim
    · exact wpAny_bind (wpAny_rule (wpAny_pure (hT hb _ (K.fin s1 .finished h' rfl hp.2 hk'))))
  | succ k ih =>
    intro i s hk hi hb ⟨st, gs, hgs, hgo⟩
    have hlt : i < n := by omega
    obtain ⟨g1, g2, g3⟩ := K.gen _ _ st
    refine codeAny_builtin F.entry_all_loop ?_
    rw [Around.under_plainId F.plain_all_loop _]
    show wpAny _ A.in1 (pyNext (.ref a) >>= _) _ _ s
    refine wpAny_bind (wpAny_pyNext_genexpQ (n := n - i) (P := fun k _ s1 => k = 0 ∧ Z s1) hh1 g2 hd1 g1 hgs (hgo _ (K.set _ _ _ rfl st)) (fun v s1 gs' hbare hv => ?_) (fun s1 hp h' hk' => ?_))
    · obtain ⟨j, e1, rfl, h3, h4⟩ := hv
      have e : j = i := by omega
      subst e
      obtain ⟨_, _, g4⟩ := K.gen _ _ h3
      have h5 : S (j + 1) (s1.setGen g gs') := K.set _ _ _ hbare h3
      refine wpAny_bind (wpAny_holding (wpAny_truthy_bool (wpAny_bind (wpAny_letGo ?_))))
      cases hbj : b j with
      | true =>
        simp only [if_true]
        have hb' : ∀ m, m < j + 1 → b m = true := fun m hm => by
          by_cases q : m = j
          · rw [q]; exact hbj
          · exact hb m (by omega)
        refine wpAny_pure ⟨plainId_quiet F.plain_all_loop _, ih (j + 1) _ (by omega) hlt hb' ⟨h5, gs', ?_, fun s2 h6 => ?_⟩⟩
        · exact setGen_self (gs := s1.gens[g]) (Array.getElem?_eq_getElem g4)
        · have en : n - j = (n - (j + 1)) + 1 := by omega
          have h7 := h4 s2 hbj h6
          rw [en] at h7
          exact h7
      | false =>
        simp only [Bool.false_eq_true, if_false]
        exact wpAny_bind (wpAny_rule (wpAny_pure (hF j _ hlt hb hbj h5)))
    · omega
theorem call_all_gen {a : Addr} {g : Nat} {Q : Value → Shared → Prop} {E : Value → Shared → Prop} {s : Shared} (hh : A.handled = none) (hd : A.depth < recursionLimit) (K : SOk S Z a g) (hF : ∀ i s, i < n → (∀ j, j < i → b j = true) → b i = false → S (i + 1) s → Q (.bool false) s)
    (hT : (∀ j, j < n → b j = true) → ∀ s, Z s → Q (.bool true) s) (h : GA prog w A.in1 n b S Z g 0 s) : wpAny (model prog w) A (call (.builtin "all") [.ref a]) Q E s := by
  refine call_function_tree F.kind_all F.plain_all F.entry_all (F.args_all1 _) ?_
  unfold Builtin.«all»
  refine wpAny_bind (m := oneArg "all" _) (wpAny_pure (wpAny_bind (wpAny_pyIter_gen (K.gen _ _ h.1).1 ?_)))
  exact wpAny_pure ⟨plainId_quiet F.plain_all_loop _, all_loop (R := fun r s' => _) hh hd K (fun i s h1 h2 h3 h4 => hF i s h1 h2 h3 h4) (fun h1 s h2 => hT h1 s h2) n 0 _ (Nat.sub_zero _) (Nat.zero_le _) (fun _ z => absurd z (Nat.not_lt_zero _)) h⟩
end

/-! ### the generator's context -/
abbrev genCx (X : Cx) (A1 : Around) (s : Shared) (H : Hp) (cenv : Env) (fp : List Addr) : Cx := { X with s_0 := s, H_0 := H, env := cenv, A := A1, outer := X.stack, stack := cenv :: X.stack, ex := fp, fn := fun _ => false, pn := [], xe := fun _ _ => False }
/-- the generator expression's own scope: .0 and its own names, no cells, nothing captured -/
structure GenSc (N : List Str) (scope : Scope) (own : List (Str × Nat)) : Prop where
  kind : scope.kind = .function
  co : scope.isCoroutine = false
  plain : ∀ y ∈ scope.names, y.2 ≠ .cell ∧ y.2 ≠ .free
  dot : scope.names.lookup (".0" : Str) = some NameKind.local
  uniq : ∀ y ∈ scope.names, scope.names.lookup y.1 = some y.2
  ix : ∀ p ∈ own, N[p.2]? = some p.1
  own : ∀ y ∈ scope.names, y.2 = .local → y.1 ∈ own.map (·.1) ∨ y.1 ∉ N
theorem cloFrom_nil {cells : List (Str × Addr)} : ∀ {names : List (Str × NameKind)} {acc : List (Str × Addr)}, (∀ y ∈ names, y.2 ≠ .free) → cloFrom cells names acc = acc
  | [], _, _ => rfl
  | (n, k) :: r, acc, h => by
    unfold cloFrom
    have hk : ¬ (k == NameKind.free) = true := fun z => h (n, k) List.mem_cons_self (by simpa using z)
    rw [if_neg hk]
    exact cloFrom_nil fun y hy => h y (List.mem_cons_of_mem _ hy)
section
variable {X : Cx} {pins : List (Addr × Obj)} {σ : L2.St} {H : Hp} {s : Shared}
theorem gen_inv {scope : Scope} {own : List (Str × Nat)} {fp : List Addr} {A1 : Around} {code : Value} {bi : Addr} {gob : Obj} {h1 : Heap} {gs : GenState} {tk : Nat} {m0 : Str → Option Value} (I : Inv X pins σ H s) (ok : GenSc X.N scope own) (hN : X.N.Nodup) (hfp : ∀ b ∈ fp, FpOk X pins H b ∧ b < s.heap.objs.size) (hbi : bi = builtinsNs)
    (hA : X.calm = true → A1.handled = none) (hF : A1.frames = some (genEnv scope [] s.heap.objs.size code bi X.env :: X.stack)) (hn : h1.Ns s.heap.objs.size m0) (hs : Heap.SameBut s.heap.objs.size (s.heap.push { cls := .type "frame", data := .dict #[] }) h1) (hg : gs.bare = true) (hnc : ∀ v, gob.data ≠ .cell v) (hfr : gob.isFreed = false) :
    Inv (genCx X A1 s H (genEnv scope [] s.heap.objs.size code bi X.env) fp) [(h1.objs.size, gob)] (wipe σ (own.map (·.2))) H { s with gens := s.gens.push gs, toks := tk, heap := h1.push gob } := by
  have kp : ∀ b o, s.heap.get? b = some o → (h1.push gob).get? b = some o := fun b o e => Heap.get?_push_of_some _ (hs.extBut b o (Nat.ne_of_lt (Heap.lt_size e)) (Heap.get?_push_of_some _ e))
  have sz1 : h1.objs.size = s.heap.objs.size + 1 := by rw [hs.1, Heap.size_push]
  have okB : (genCx X A1 s H (genEnv scope [] s.heap.objs.size code bi X.env) fp).Ok := by
    refine ⟨I.ok.mod, ok.kind, I.ok.glob, hbi, Nat.le_refl _, fun y z c e1 e2 => ?_, fun y hy => ?_, fun y c z e => ?_, hA, hF, .inr ⟨rfl, rfl⟩, fun b hb => ⟨Nat.ne_of_lt (hfp b hb).2, fun y c e z => ?_⟩, I.bs, Nat.le_trans I.ok.bsz I.sz, fun b o e hb => ?_, fun b hb z => ?_, I.stack, I.stkFree⟩
    · cases e1
    · have key : ∀ k, scope.names.lookup y = some k → (k = .cell ∨ k = .free) → False := fun k hk hk' => by
        have q := ok.plain _ (PySem.mem_of_lookup hk)
        rcases hk' with rfl | rfl
        · exact q.1 rfl
        · exact q.2 rfl
      rcases hy with hy | hy
      · exact (key _ hy (.inl rfl)).elim
      · exact (key _ hy (.inr rfl)).elim
    · cases e
    · cases e
    · rcases (hfp b hb).1.2.2.2.1 with z | z
      · exact I.ok.noex b o e z
      · exact absurd (Nat.lt_of_lt_of_le (Heap.lt_size e) (Nat.le_trans I.ok.bsz z)) (Nat.lt_irrefl _)
    · rcases List.mem_cons.mp (I.stkSub b z) with z | z
      · exact (hfp b hb).1.2.1 z
      · exact (hfp b hb).1.2.2.1 z
  refine ⟨okB, rfl, I.bare.push hg, Un.kept kp, ⟨m0, ?_, fun i y av e1 e2 e3 => ?_⟩, fun y c e => ?_, ?_, fun y c e => ?_, fun p hp => ?_, I.hok.kept kp, by rw [wipe_length]; exact I.len⟩
  · exact hn.keeps fun b o e => Heap.get?_push_of_some _ e
  · obtain ⟨e2, hne⟩ := wipe_some e2
    have no : ∀ k, scope.names.lookup y = some k → (k = .local ∨ k = .cell ∨ k = .free) → False := fun k hk hk' => by
      have q := ok.plain _ (PySem.mem_of_lookup hk)
      rcases hk' with rfl | rfl | rfl
      · rcases ok.own _ (PySem.mem_of_lookup hk) rfl with e' | e'
        · obtain ⟨p, hp, hpy⟩ := List.mem_map.mp e'
          have e4 := ok.ix p hp
          rw [show p.1 = y from hpy] at e4
          exact hne (List.mem_map.mpr ⟨p, hp, nodup_ix hN e4 e1⟩)
        · exact e' (List.mem_of_getElem? e1)
      · exact q.1 rfl
      · exact q.2 rfl
    rcases e3 with e3 | e3 | e3
    · exact (no _ e3 (.inl rfl)).elim
    · exact (no _ e3 (.inr (.inl rfl))).elim
    · exact (no _ e3 (.inr (.inr rfl))).elim
  · cases e
  · exact I.hok.fresh (Nat.le_refl _)
  · cases e
  · have e : p = (h1.objs.size, gob) := by simpa using hp
    subst e
    refine ⟨Heap.get?_push_size _ hfr, I.hok.fresh (by rw [sz1]; exact Nat.le_succ _), ?_, fun z => ?_, hnc⟩
    · show h1.objs.size ≠ s.heap.objs.size
      rw [sz1]
      exact Nat.succ_ne_self _
    · rcases List.mem_cons.mp (I.stkSub _ z) with z | z
      · have := I.lt
        rw [← z, sz1] at this
        exact absurd (show (s.heap.objs.size + 1 : Nat) < s.heap.objs.size from this) (by omega)
      · exact I.nofs (by rw [sz1]; exact Nat.le_succ _) z
end

/-! ### all(elt for x in it) -/
theorem Inv.gens {X : Cx} {pins : List (Addr × Obj)} {σ : L2.St} {H : Hp} {s : Shared} {g' : Array GenState} (I : Inv X pins σ H s) (hb : AllBare g') : Inv X pins σ H { s with gens := g' } := ⟨I.ok, I.os, hb, I.base, I.loc, I.cell, I.free, I.freeC, I.pin, I.hok, I.len⟩
theorem bare_set {s : Shared} {g : Nat} {x : GenState} (h : AllBare s.gens) (hx : x.bare = true) : AllBare (s.setGen g x).gens := fun y hy => by
  obtain ⟨i, hi, e⟩ := Array.mem_iff_getElem.mp hy
  have hi' : i < s.gens.size := by
    have q : (s.setGen g x).gens.size = s.gens.size := setGen_size s g x
    rw [q] at hi; exact hi
  by_cases z : i = g
  · subst z
    have q : (s.setGen i x).gens[i]? = some x := by
      show (s.gens.setIfInBounds i x)[i]? = some x
      simp [hi']
    have q2 : (s.setGen i x).gens[i]? = some y := by rw [Array.getElem?_eq_getElem hi, e]
    rw [q] at q2; cases q2; exact hx
  · have q : (s.setGen g x).gens[i]? = s.gens[i]? := by
      show (s.gens.setIfInBounds g x)[i]? = _
      rw [Array.getElem?_setIfInBounds_ne (Ne.symm z)]
    have q2 : s.gens[i]? = some y := by rw [← q, Array.getElem?_eq_getElem hi, e]
    exact h y (Array.mem_of_getElem? q2)
def dAll (i : Nat) (di : Sl → PH → Res Src) (de : Dn) : Dn := fun σ h => (di σ h).bind fun s h1 => (loopA (aBody i de σ) s (fuelOf s h1) 0 h1).bind fun b h2 => .ok (.bl b) h2
/-- the state behind j items -/
def AllS (G : Glob) (X' : Cx) (pn : List (Addr × Obj)) (σw : L2.St) (ρ1 : List Addr) (H1 : Hp) (hs : Nat → PH) (fp : List Addr) (tn : Nat → Heap → Prop) (g : Nat) (j : Nat) (s : Shared) : Prop :=
  ∃ ρ H, Le ρ1 ρ ∧ Frm ρ1 H1 ρ H ∧ HR G ρ (hs j) H ∧ Inv X' pn σw H s ∧ tn j s.heap ∧ (∀ b ∈ fp, H b = none) ∧ g < s.gens.size
def AllZ (G : Glob) (X' : Cx) (σw : L2.St) (ρ1 : List Addr) (H1 : Hp) (hn : PH) (s : Shared) : Prop := ∃ ρ H, Le ρ1 ρ ∧ Frm ρ1 H1 ρ H ∧ HR G ρ hn H ∧ Inv X' [] σw H s
section
variable {G : Glob} {X' : Cx} {x : Str} {px : Pos} {elt : Expr} {i n g : Nat} {b : Nat → Bool} {hs : Nat → PH} {h1 h' : PH} {r : Bool} {J : L2.It} {fp : List Addr} {it a : Addr} {tn : Nat → Heap → Prop} {src : Src} {de : Dn} {sp : Sl} {σw : L2.St} {ρ1 : List Addr} {H1 : Hp} {gob : Obj}
theorem all_turns (hc : X'.calm = true) (nd : X'.N.Nodup) (hN : X'.N[i]? = some x) (hx : X'.env.scope.names.lookup x = some .local) (hxe : X'.xe = fun _ _ => False) (hex : X'.ex = fp) (hpn : X'.pn = []) (hap : a ∉ fp) (hK : X'.K = G.K)
    (T : Turn X'.prog X'.w X'.K (.Name x px) J fp it tn) (itr : ItR G ρ1 H1 src J) (he : PE X' elt (tD G WF de)) (tr : Trace (aBody i de sp) src 0 h1 r h' n b hs) (sl : SlR G ρ1 H1 (wipeP sp [i]) σw) (hw : ∀ v, σw[i]? ≠ some (some v)) :
    Turns X'.prog X'.w X'.A n b (AllS G X' [(a, gob)] σw ρ1 H1 hs fp tn g) (AllZ G X' σw ρ1 H1 (hs n)) it elt x px X'.env := by
  have stat : ∀ {pn : List (Addr × Obj)} {σ' : L2.St} {H' : Hp} {s' : Shared}, Inv X' pn σ' H' s' → pn = [(a, gob)] → (∀ b ∈ fp, H' b = none) → ∀ b ∈ fp, FpOk X' pn H' b := fun {pn σ' H' s'} I' e hn b hb => by
    subst e
    refine ⟨hn b hb, (I'.ok.exf b (hex ▸ hb)).1, I'.ok.exfs b (hex ▸ hb), .inl (hex ▸ hb), fun x c e => (I'.ok.exf b (hex ▸ hb)).2 x c e, fun p hp => ?_⟩
    rw [hpn] at hp
    have e : p = (a, gob) := by simpa using hp
    subst e
    exact fun z => hap (by rw [show a = b from z]; exact hb)
  refine ⟨fun j s hj _ ⟨ρ, H, le, k, hr, I, st, nf, hg⟩ => ?_, fun hb s ⟨ρ, H, le, k, hr, I, st, nf, hg⟩ => ?_⟩
  · obtain ⟨x', e1, e2, _⟩ := tr.item j (Nat.zero_le _) hj
    obtain ⟨go, yl⟩ := (itr ρ H (hs j) j le k hr).2 x' e1
    have ti := T.item X' rfl rfl rfl hc j _ s σw H (fun _ _ => False) I (stat I rfl nf) st go
    refine wpAny_mono (wpAny_gens ti) (fun r s1 ⟨⟨u, hr', h6⟩, hg1⟩ => ⟨u, hr', ?_⟩) fun _ _ z => z.1
    refine wpAny_mono (wpAny_gens h6) (fun _ s2 ⟨⟨xv, H7, I7, r7, y7, st7, n7⟩, hg2⟩ => ?_) fun _ _ z => z.1
    obtain ⟨k3, hr3, rv⟩ := yl xv H7 y7
    have I7' := I7.pinned (stat I7 rfl n7) (T.obj _ _ st7)
    have pg := (pg_name (pos := px) nd hN (.inl hx) (.inr hx)).run _ s2 σw H7 xv u (fun σ' H' => σ' = σw.set i (some xv) ∧ H' = H7) I7' r7 ⟨rfl, rfl⟩
    rw [hxe] at pg
    refine wpAny_mono (wpAny_gens pg) (fun _ s3 ⟨⟨σ8, H8, I8, e8, e9⟩, hg3⟩ => ?_) fun _ _ z => z.1
    subst e8; subst e9
    have k13 := k.trans k3
    have slE : SlR G ρ H8 ((wipeP sp [i]).set i (some x')) (σw.set i (some xv)) := (sl.mono le k13.toKeep).set i rv
    have e3 : de ((wipeP sp [i]).set i (some x')) (hs j) = .ok (.bl (b j)) (hs (j + 1)) := by
      have e2' : (de ((wipeP sp [i]).set i (some x')) (hs j)).quiet = .ok (.bl (b j)) (hs (j + 1)) := e2
      cases q : de ((wipeP sp [i]).set i (some x')) (hs j) with
      | ok v hh => rw [q] at e2'; exact e2'
      | exc c fs hh => rw [q] at e2'; cases e2'
      | no => rw [q] at e2'; cases e2'
    have ee := he.run _ s3 (σw.set i (some xv)) H8 (fun y H' => y = .bl (b j) ∧ ∃ ρ', Le ρ1 ρ' ∧ Frm ρ1 H1 ρ' H' ∧ HR G ρ' (hs (j + 1)) H') I8 ⟨ρ, _, hs j, slE, hr3, by
      rw [e3]
      exact fun ρ' H' v le' k' hr' rb => ⟨VR.bl_inv rb, ρ', le.trans le', k13.trans k', hr'⟩⟩
    rw [hxe] at ee
    refine wpAny_mono (wpAny_gens ee) (fun y s4 ⟨⟨v, H9, I9, rv9, ev, ρ', le', k', hr'⟩, hg4⟩ => ?_) fun _ _ z => z.1
    subst ev
    refine ⟨rv9, ρ', H9, le', k', hr', ?_, ?_, fun b hb => ?_, by omega⟩
    · refine I9.unpinned.weak (by simp) fun m v e => ?_
      by_cases hm : m = i
      · subst hm; exact absurd e (hw v)
      · rw [List.getElem?_set_ne (Ne.symm hm)]; exact e
    · refine T.keep _ _ _ st7 fun b hb o e => ?_
      exact (I9.pin (b, o) (List.mem_append_right _ (List.mem_append_right _ (mem_pinsAt hb e)))).1
    · obtain ⟨o, e, _⟩ := T.obj _ _ st7 b hb
      exact (I9.pin (b, o) (List.mem_append_right _ (List.mem_append_right _ (mem_pinsAt hb e)))).2.1
  · have stp : nxt src n (hs n) = some none := by
      rcases tr.res with ⟨_, _, z⟩ | ⟨_, h2, h3⟩
      · exact z
      · rw [hb _ (by omega)] at h3; cases h3
    have td := T.done X' rfl rfl rfl hc n _ s σw H (fun _ _ => False) I (stat I rfl nf) st ((itr ρ H (hs n) n le k hr).1 stp)
    exact wpAny_mono td (fun r s1 ⟨e, I1⟩ => ⟨e, ρ, H, le, k, hr, Inv.unpinned (pins := []) I1⟩) fun _ _ z => z
theorem all_sok (hgd : ∃ nm qn, gob.cls = .type "generator" ∧ gob.data = .fields #[.int g 0, nm, qn] ∧ gob.slots = #[]) : SOk (AllS G X' [(a, gob)] σw ρ1 H1 hs fp tn g) (AllZ G X' σw ρ1 H1 (hs n)) a g := by
  refine ⟨fun j s ⟨ρ, H, le, k, hr, I, st, nf, hg⟩ => ⟨?_, I.nolimit, hg⟩, fun j s gs hb ⟨ρ, H, le, k, hr, I, st, nf, hg⟩ => ⟨ρ, H, le, k, hr, Inv.gens I (bare_set I.bare hb), st, nf, by rw [setGen_size]; exact hg⟩, fun s gs h2 hb ⟨ρ, H, le, k, hr, I⟩ hk => ?_⟩
  · obtain ⟨nm, qn, h1, h2, h3⟩ := hgd
    exact ⟨gob, nm, qn, (I.pin (a, gob) (List.mem_append_right _ (List.mem_singleton.mpr rfl))).1, h1, h2, h3⟩
  · exact ⟨ρ, H, le, k, hr, (Inv.gens I (bare_set I.bare hb)).kept (t' := s.toks) fun b u e => hk b u e⟩
end

section
variable {G : Glob} {X : Cx} {W : WX} {i : Nat} {x : Str} {px p1 gpos pos : Pos} {iter elt : Expr} {scope : Scope} {di : Sl → PH → Res Src} {de : Dn} {c P : Addr}
theorem Frm.tab_ {ρ : List Addr} {H : Hp} {P : Addr} {ps ps' : Array Value} (e : H P = some (.tbl ps)) (t : TriplesOk ps.toList → TriplesOk ps'.toList) : Frm ρ H ρ (upd H P (.tbl ps')) :=
  ⟨⟨fun a xs q => (upd_ne fun z => by rw [z, e] at q; cases q).trans q, fun a o u q => (upd_ne fun z => by rw [z, e] at q; cases q).trans q⟩, fun _ h => .inl h, fun a _ _ h => upd_ne fun z => h ps (by rw [z]; exact e),
    fun a qs q => by
      by_cases z : a = P
      · subst z
        rw [e] at q; cases q
        exact ⟨ps', upd_same, t⟩
      · exact ⟨qs, (upd_ne z).trans q, id⟩⟩
theorem loopA_noexc {i : Nat} {de : Dn} {sp : Sl} {src : Src} : ∀ (f k : Nat) (h : PH) {c : Nat} {fs : List (Nat × PV)} {hh : PH}, loopA (aBody i de sp) src f k h ≠ .exc c fs hh
  | 0, k, h, c, fs, hh => by
    unfold loopA
    split <;> exact fun z => by cases z
  | f + 1, k, h, c, fs, hh => by
    unfold loopA
    split
    · exact fun z => by cases z
    · rename_i x q
      cases eb : aBody i de sp x h with
      | no => exact fun z => by cases z
      | exc c1 f1 h1 =>
        unfold aBody at eb
        exfalso
        revert eb
        cases de ((wipeP sp [i]).set i (some x)) h <;> exact fun z => by cases z
      | ok v h1 =>
        show (match (generalizing := false) v with
          | .bl true => loopA (aBody i de sp) src f (k + 1) h1
          | .bl false => .ok false h1
          | _ => .no) ≠ _
        split
        · exact loopA_noexc f (k + 1) h1
        · exact fun z => by cases z
        · exact fun z => by cases z
    · exact fun z => by cases z
theorem boot_all : bootBuiltins "all" = some (.builtin "all") := by first | rfl | decide +kernel
theorem pd_all (hK : X.K = G.K) (hc : X.calm = true) (nd : X.N.Nodup) (hr : Room 4 X.A) (hg : Gl X "all") (hm : X.mg "all" = none) (TB : GxR.TabB X.base X.mg c P) (hcode : X.env.code = .ref c) (hP : P ∈ G.tabs)
    (hi : PI X (.Name x px) iter (tDI G W di)) (ok : GenSc X.N scope [(x, i)]) (hx : scope.names.lookup x = some .local)
    (he : ∀ (s : Shared) (H : Hp) (L : Addr) (code : Value) (bi : Addr) (I : Addr) (fp : List Addr), PE (genCx X (X.A.in1.in1.over (.compLoop (gExp elt iter x px scope gpos) 0 (.ref I) .none (genEnv scope [] L code bi X.env)) []) s H (genEnv scope [] L code bi X.env) fp) elt (tD G WF de))
    (hs : ∀ v, genFold iter X.env v = pure v) :
    PE X (.Call (.Name "all" p1) [gExp elt iter x px scope gpos] [] pos) (tD G W (dAll i di de)) := by
  refine ⟨fun pins s σ H Q I ⟨ρ, sp, h, sl, hr0, p⟩ => ?_⟩
  refine wpAny_Call_Name_kw (ld_blt I hg hm boot_all ?_)
  refine PyProof.Rows.callWith_builtin1 ?_ (show starEach [gExp elt iter x px scope gpos] X.env = (false, eval (gExp elt iter x px scope gpos) X.env) :: starEach [] X.env from rfl) (by rfl)
  show wpAny _ _ (spliced ((false, eval (gExp elt iter x px scope gpos) X.env) :: backTo pos (starEach [] X.env))) _ _ s
  refine Calls.spliced_cons ?_
  have hcl : closureFor scope X.env = pure [] := by
    rw [closure_ok fun y hy e => absurd e (ok.plain y hy).2, cloFrom_nil fun y hy => (ok.plain y hy).2]
  refine wpAny_GeneratorExp_make ok.co hcl (fun y hy => (ok.plain y hy).1) ok.dot ok.kind (by have := hr.dp; omega) ?_ hs
  refine thn (hi.run pins s σ H _ I ⟨ρ, sp, h, sl, hr0, Post.bind p fun src h1 ρ1 H1 J _ le k hr1 itr p1 =>
    (⟨ρ1, src, h1, le, k, hr1, itr, p1⟩ : ∃ ρ1 src h1, Le ρ ρ1 ∧ Frm ρ H ρ1 H1 ∧ HR G ρ1 h1 H1 ∧ ItR G ρ1 H1 src J ∧ Post G (fun cls e H' => W cls e σ H') ρ1 H1 (relV G) ((loopA (aBody i de sp) src (fuelOf src h1) 0 h1).bind fun b h2 => .ok (.bl b) h2) Q)⟩) fun xv s1 h1 => thn h1 fun itv s2 ⟨it, fp, tn, J, H2, e, I2, T, st2, f2, ρ1, src, h1, le, k, hr1, itr, p1⟩ => ?_
  subst e
  obtain ⟨hPn, ps, eP, tP⟩ := hr1.tab P hP
  have hPs : s2.heap.get? P = some { cls := .none, data := .fields ps } := I2.hok P _ eP
  have cd : PySem.W.CodeHd s2.heap c P := TB.code.keeps fun b u e => I2.bk b u e
  have cont : ∀ (code : Value) (h3 : Heap) (tk : Nat) (more : Array Value), Heap.ExtBut P s2.heap h3 → s2.heap.objs.size ≤ h3.objs.size → h3.get? P = some { cls := .none, data := .fields (ps ++ more) } → TriplesOk (ps ++ more).toList →
      wpAny (model X.prog X.w) X.A (builtinsFor X.env.globals X.env.builtins) (fun bi s₄ =>
        ∀ h', h'.Ns s₄.heap.objs.size (fun y => if y = ".0" then some (.ref it) else none) → Heap.SameBut s₄.heap.objs.size (s₄.heap.push { cls := .type "frame", data := .dict #[] }) h' →
          wpAny (model X.prog X.w) X.A (spliced (backTo pos (starEach [] X.env))) (fun us s' => wpAny (model X.prog X.w) X.A (call (.builtin "all") (.ref h'.objs.size :: us)) (EP X pins σ Q) X.xe s') X.xe { s₄ with
            gens := s₄.gens.push (.fresh (.compStart (gExp elt iter x px scope gpos) 0 (.ref it) .none (genEnv scope [] s₄.heap.objs.size code bi X.env))),
            toks := s₄.toks + 1 + 1 + 1,
            heap := h'.push { cls := .type "generator", data := .fields #[.int s₄.gens.size 0, .str "<genexpr>" (s₄.toks + 1), .str (X.env.qual ++ "<genexpr>") (s₄.toks + 1 + 1)] } }) X.xe { s2 with heap := h3, toks := tk } := by
    intro code h3 tk more hx3 hsz hP3 ht3
    obtain ⟨bm, ob, e1, e2, e3, e4, e5, e6, e7, e8⟩ := TB.bm
    have keep3 : ∀ b u, b ≠ P → s2.heap.get? b = some u → h3.get? b = some u := hx3
    have I3 : Inv X pins σ (upd H2 P (.tbl (ps ++ more))) { s2 with heap := h3, gens := s2.gens, drawn := s2.drawn, toks := tk } := GxR.inv_tab (more := more) (h' := h3) (g' := s2.gens) (d' := s2.drawn) (t' := tk) I2 eP keep3 hP3 I2.bare
    refine wpAny_builtinsFor (m := X.mg) (by rw [I2.ok.glob]; exact (I2.mod.glob.keeps I2.bk).extBut hx3 TB.gP) e1 e2 (keep3 _ _ e4 (I2.bk _ _ e5)) e6 e7 e8 ?_
    intro h' hn hsb
    refine Calls.spliced_nil ?_
    generalize hs4 : ({ s2 with heap := h3, toks := tk } : Shared) = s4 at hn hsb ⊢
    have I4 : Inv X pins σ (upd H2 P (.tbl (ps ++ more))) s4 := by rw [← hs4]; exact I3
    have h4 : s4.heap = h3 := by rw [← hs4]
    have fpP : ∀ b ∈ fp, b ≠ P := fun b hb z => by
      have := (f2 b hb).1
      rw [z, eP] at this; cases this
    have fpL : ∀ b ∈ fp, b < s4.heap.objs.size := fun b hb => by
      obtain ⟨o, e, _⟩ := T.obj _ _ st2 b hb
      rw [h4]
      exact Nat.lt_of_lt_of_le (Heap.lt_size e) hsz
    have f4 : ∀ b ∈ fp, FpOk X pins (upd H2 P (.tbl (ps ++ more))) b ∧ b < s4.heap.objs.size := fun b hb =>
      ⟨⟨(upd_ne (fpP b hb)).trans (f2 b hb).1, (f2 b hb).2⟩, fpL b hb⟩
    have st4 : tn 0 s4.heap := T.keep _ _ _ st2 fun b hb o e => by rw [h4]; exact keep3 b o (fpP b hb) e
    have frT : Frm ρ1 H2 ρ1 (upd H2 P (.tbl (ps ++ more))) := Frm.tab_ eP fun _ => ht3
    have hr4 : HR G ρ1 h1 (upd H2 P (.tbl (ps ++ more))) := hr1.keep frT.toKeep (fun a ha => upd_ne fun z => hPn (z ▸ ha)) fun q hq => by
      obtain ⟨_, qs, eq, tq⟩ := hr1.tab q hq
      obtain ⟨qs', eq', tq'⟩ := frT.tab q qs eq
      exact ⟨qs', eq', tq' tq⟩
    generalize hH4 : upd H2 P (.tbl (ps ++ more)) = H4 at I3 I4 f4 frT hr4
    have itr4 : ItR G ρ1 H4 src J := fun ρ' H' h' i le' k' hr' => itr ρ' H' h' i le' (frT.trans k') hr'
    -- the plain run
    cases el : loopA (aBody i de sp) src (fuelOf src h1) 0 h1 with
    | no => rw [el] at p1; exact False.elim p1
    | exc cc fs hh => exact (loopA_noexc _ _ _ el).elim
    | ok r hE =>
      rw [el, Res.bind_ok] at p1
      obtain ⟨n, b, hs', tr⟩ := loopA_trace _ _ _ _ _ el
      have hr0' : HR G ρ1 (hs' 0) H4 := by rw [tr.start]; exact hr4
      generalize hce : genEnv scope [] s4.heap.objs.size code builtinsNs X.env = ce
      have ceL : ce.locals = s4.heap.objs.size := by subst hce; rfl
      generalize hA1 : X.A.in1.in1.over (.compLoop (gExp elt iter x px scope gpos) 0 (.ref it) .none ce) [] = A1
      have A1h : A1.handled = X.A.handled := by subst hA1; rfl
      have A1f : A1.frames = some (ce :: X.stack) := by
        subst hA1
        show pushEnvs [ce] (pushEnvs [] X.A.frames) = _
        rw [I4.ok.frames]
        rfl
      have hgs : (GenState.fresh (.compStart (gExp elt iter x px scope gpos) 0 (.ref it) .none ce)).bare = true := rfl
      generalize hgob : ({ cls := .type "generator", data := .fields #[.int s4.gens.size 0, .str "<genexpr>" (s4.toks + 1), .str (X.env.qual ++ "<genexpr>") (s4.toks + 1 + 1)] } : Obj) = gob
      have hn' : h'.Ns s4.heap.objs.size (fun y => if y = ".0" then some (.ref it) else none) := hn
      have IG := gen_inv (A1 := A1) (code := code) (bi := builtinsNs) (gob := gob) (gs := .fresh (.compStart (gExp elt iter x px scope gpos) 0 (.ref it) .none ce)) (tk := s4.toks + 1 + 1 + 1) I4 ok nd f4 rfl (fun z => A1h.trans hr.hd) (by rw [hce]; exact A1f) hn' hsb hgs (by subst hgob; exact fun v z => by cases z) (by subst hgob; rfl)
      rw [hce] at IG
      have he' := he s4 H4 s4.heap.objs.size code builtinsNs it fp
      rw [hce, hA1] at he'
      have slw : SlR G ρ1 H4 (wipeP sp [i]) (wipe σ [i]) := (wipe_rel ((sl.mono le k.toKeep).mono (Le.refl _) frT.toKeep) [i])
      have hap : h'.objs.size ∉ fp := fun z => by
        have h5 := fpL _ z
        have h6 : h'.objs.size = s4.heap.objs.size + 1 := by rw [hsb.1, Heap.size_push]
        rw [h6] at h5
        exact Nat.not_succ_lt_self h5
      have hNi : X.N[i]? = some x := ok.ix (x, i) (List.mem_singleton.mpr rfl)
      have ceS : ce.scope = scope := by subst hce; rfl
      have TU := all_turns (X' := genCx X A1 s4 H4 ce fp) (a := h'.objs.size) (gob := gob) (g := s4.gens.size) hc nd hNi (by show ce.scope.names.lookup x = _; rw [ceS]; exact hx) rfl rfl rfl hap hK T itr4 he' tr slw (fun v z => (wipe_some z).2 (List.mem_singleton.mpr rfl))
      have SK := all_sok (G := G) (X' := genCx X A1 s4 H4 ce fp) (a := h'.objs.size) (gob := gob) (g := s4.gens.size) (σw := wipe σ [i]) (ρ1 := ρ1) (H1 := H4) (hs := hs') (fp := fp) (tn := tn) (n := n) (by subst hgob; exact ⟨_, _, rfl, rfl, rfl⟩)
      have back : ∀ {pn : List (Addr × Obj)} {σ' : L2.St} {H' : Hp} {s' : Shared}, Inv (genCx X A1 s4 H4 ce fp) pn σ' H' s' → Inv X pins σ H' s' := fun {pn σ' H' s'} I' =>
        I4.call' (ch := fp) I'.os I'.base I'.hok I'.bare fun b hb => ⟨(f4 b hb).1.2.2.2.1, (f4 b hb).1.2.1, (f4 b hb).1.2.2.2.2.1, (f4 b hb).1.2.2.2.2.2⟩
      have hco : ce.scope.isCoroutine = false := by rw [ceS]; exact ok.co
      have TU' : Turns X.prog X.w (X.A.in1.in1.over (.compLoop (gExp elt iter x px scope gpos) 0 (.ref it) .none ce) []) n b (AllS G (genCx X A1 s4 H4 ce fp) [(h'.objs.size, gob)] (wipe σ [i]) ρ1 H4 hs' fp tn s4.gens.size) (AllZ G (genCx X A1 s4 H4 ce fp) (wipe σ [i]) ρ1 H4 (hs' n)) it elt x px ce := by
        rw [hA1]; exact TU
      refine call_all_gen (n := n) (b := b) hr.hd (by have := hr.dp; omega) SK (fun j s' hj hb hbj ⟨ρ', H', le', k', hr', I', _⟩ => ?_) (fun hb s' ⟨ρ', H', le', k', hr', I'⟩ => ?_) ⟨⟨ρ1, H4, Le.refl _, Frm.refl _ _, hr0', IG, T.keep _ _ _ st4 fun b hb o e => ?_, fun b hb => (f4 b hb).1.1, ?_⟩, .fresh (.compStart (gExp elt iter x px scope gpos) 0 (.ref it) .none ce), ?_, fun s' h0 => ⟨rfl, gen_start hco TU' (fun s6 h6 => ?_) s' s' h0⟩⟩
      · -- false
        rcases tr.res with ⟨_, h2, _⟩ | ⟨e1, h2, h3⟩
        · rw [h2 j (Nat.zero_le _) hj] at hbj; cases hbj
        · subst e1
          have ej : j + 1 = n := by
            rcases Nat.lt_or_ge (j + 1) n with z | z
            · obtain ⟨_, _, _, z3⟩ := tr.item j (Nat.zero_le _) hj
              rw [z3 z] at hbj; cases hbj
            · omega
          rw [ej, ← tr.fin] at hr'
          exact ⟨.bl false, H', back I', rfl, p1 ρ' H' _ le' (frT.trans k') hr' (.bl false)⟩
      · rcases tr.res with ⟨e1, h2, _⟩ | ⟨_, h2, h3⟩
        · subst e1
          rw [← tr.fin] at hr'
          exact ⟨.bl true, H', back I', rfl, p1 ρ' H' _ le' (frT.trans k') hr' (.bl true)⟩
        · rw [hb _ (by omega)] at h3; cases h3
      · exact Heap.get?_push_of_some _ (hsb.extBut b o (Nat.ne_of_lt (Heap.lt_size e)) (Heap.get?_push_of_some _ e))
      · show s4.gens.size < (s4.gens.push _).size
        rw [Array.size_push]; exact Nat.lt_succ_self _
      · show (s4.gens.push _)[s4.gens.size]? = _
        rw [Array.getElem?_push_size]
      · obtain ⟨ρ', H', le', k', hr', I', st', q⟩ := h6
        exact T.self _ 0 _ _ _ st' ⟨rfl, ρ', H', le', k', hr', I', st', q⟩
  refine ⟨I2.nolimit, ?_⟩
  cases hf : codeAmong gpos ps.toList with
  | none =>
    refine wpAny_genexprCodeX hcode (cd.code hPs tP) (cd.tab hPs) hf fun c' h' tk hx hge hlt hco' _ htab' _ => ?_
    obtain ⟨o1, vs, f1, tf, fl, tg, inF, tx, tt, op, _, _, _, _, _, _, _, _, _, htr, _⟩ := hco'
    exact cont _ h' tk _ hx (Nat.le_trans hge (Nat.le_of_lt hlt)) htab'.2 htr
  | some cv =>
    refine wpAny_genexprCode_hit hcode (cd.code hPs tP) hf ?_
    exact cont cv s2.heap s2.toks #[] (Heap.ExtBut.refl _ _) (Nat.le_refl _) (by simpa using hPs) (by simpa using tP)
end
end Fx

/-! Sets of ints that live for one expression: len(set(t)), sorted({..}). -/
namespace Fx
open PySem PySem.Spec PyProof.Rows L2
section
variable {prog : Program} {w : World} {A : Around} {E : Value → Shared → Prop} {s : Shared}
abbrev set0 (led : Bool) : Obj := { cls := .type "set", dict := none, data := .set #[] 0 (.fresh 0 0 led) }
/-- set(t), t a tuple of ints -/
theorem call_set_tup {l : Addr} {its : Array Value} {ns : List Int} {Q : Value → Shared → Prop} (hh : A.handled = none) (hl : s.heap.IsTuple l its) (hi : IntsAre its.toList ns) (hb : its.size + 1 < scanBound)
    (h : ∀ (h' : Heap) (tk : Nat), h'.SetOf (intKind prog w) s.heap.objs.size (fun j => (firstMet (fun i => ns.getD i 0) its.size).any (· == j)) (firstMet (fun i => ns.getD i 0) its.size).length →
      (∀ b o, b < s.heap.objs.size → s.heap.get? b = some o → h'.get? b = some o) → Q (.ref s.heap.objs.size) { s with heap := h', toks := tk }) : wpAny (model prog w) A (call (.type "set") [.ref l]) Q E s := by
  obtain ⟨c, tl, hmro⟩ := PySem.F.called_set.mro
  have hmade := PySem.F.called_set.made
  have hsub := PySem.F.called_set.sub
  have h1 := PySem.F.called_set.notType
  have h2 := PySem.F.called_set.canCreate
  have hct := PySem.F.typeCall_set_1 (.ref l)
  refine wpAny_call (codeAny_of_tree ?_)
  show wpAny _ _ (callAny (.type "set") _) _ _ _
  refine wpAny_pure ⟨Code.quiet_builtin _ (by decide +kernel), codeAny_builtin PySem.F.entry_type_call ?_⟩
  rw [Around.under_plain (weight_type_call_type "set" [.ref l] []) rfl]
  repeat (any_goals (first | assumption | wp_step))
  refine codeAny_mono (code_set_new_1 (.ref l) (E := E) (Q₁ := fun ob z => ∃ led : Bool, ob = .ref s.heap.objs.size ∧ z = { s with heap := s.heap.push (set0 led) }) fun led => ⟨led, rfl, rfl⟩) fun r z hr => ?_
  match r, hr with
  | .error e, hr => exact hr
  | .ok .next, hr => exact hr.elim
  | .ok .brk, hr => exact hr.elim
  | .ok .cont, hr => exact hr.elim
  | .ok (.ret ob), hr =>
    obtain ⟨led, rfl, rfl⟩ := hr
    have gS : (s.heap.push (set0 led)).get? s.heap.objs.size = some (set0 led) := Heap.get?_push_size _ rfl
    have hT : Shared.TypeIs { s with heap := s.heap.push (set0 led) } (.ref s.heap.objs.size) "set" := ⟨_, gS, rfl⟩
    have hli := PySem.F.called_set.init.lookup
    have hbi := PySem.F.called_set.init.bind (.ref s.heap.objs.size)
    repeat (any_goals (first | assumption | wp_step))
    refine codeAny_mono (codeAny_call_builtin (R := wants (fun u z2 => u = .none ∧ ∃ h' tk, z2 = { s with heap := h', toks := tk } ∧
        h'.SetOf (intKind prog w) s.heap.objs.size (fun j => (firstMet (fun i => ns.getD i 0) its.size).any (· == j)) (firstMet (fun i => ns.getD i 0) its.size).length ∧
        (∀ b o, b < s.heap.objs.size → s.heap.get? b = some o → h'.get? b = some o)) E) PySem.F.called_set.init.plain PySem.F.entry_set_init (check_set_init_1 hT ?_)) fun r2 z2 hr2 => ?_
    · obtain ⟨⟨oc, od, odt, osl⟩, hol, hcl, nl, hdl⟩ := hl
      simp only at hcl hdl
      subst hcl; subst hdl
      have hol2 : (s.heap.push (set0 led)).get? l = some { cls := .type "tuple", dict := od, data := .seq its nl, slots := osl } := Heap.get?_push_of_some _ hol
      have q1 := PySem.F.sub_tuple_set
      have q2 := PySem.F.sub_tuple_frozenset
      have q3 : (Value.type "tuple" == Value.type "dict") = false := by decide
      have hT1 : (s.heap.push (set0 led)).IsTuple l its := ⟨_, hol2, rfl, nl, rfl⟩
      unfold Builtin.«set.__init__» noKeywords Builtin.Frozenset.updateFrom
      generalize hPI : pyIter = PI
      wp_walk
      subst hPI
      refine wpAny_pyIter_tuple hT1 (wpAny_bind (wpAny_runValue ?_))
      have lS : l < s.heap.objs.size := Heap.lt_size hol
      have hh3 : A.in1.in1.in1.handled = none := by simp [hh]
      have szp : (s.heap.push (set0 led)).objs.size = s.heap.objs.size + 1 := Heap.size_push ..
      have ne1 : l ≠ (s.heap.push (set0 led)).objs.size := by rw [szp]; exact Nat.ne_of_lt (Nat.lt_succ_of_lt lS)
      have ne2 : s.heap.objs.size ∉ [(s.heap.push (set0 led)).objs.size, l] := by
        rw [szp]
        intro hm
        rcases List.mem_cons.mp hm with e | hm
        · exact Nat.ne_of_lt (Nat.lt_succ_self _) e
        · exact Nat.ne_of_gt lS (List.mem_singleton.mp hm)
      have hval : ∀ (i : Nat) (v : Value), its[i]? = some v → ∃ t, v = .int ((fun i => ns.getD i 0) i) t := fun i v hv => IntsAre.int_at hi i v (by rw [Array.getElem?_toList]; exact hv)
      refine codeAny_set_update_loopS ((Walks.tuple hh3 _ l ne1 its).toS) s.heap.objs.size ne2 (fun i => ns.getD i 0) hval hb (its.size - 0) 0 _ (by omega) (Nat.zero_le _) ⟨⟨_, Heap.get?_push_size _ rfl, rfl, rfl⟩, hT1.push _⟩ ?_ fun s' hm hS' => ?_
      · exact SetOf_congr ((setObjOf_fresh (knd := intKind prog w) led).setOf (Heap.get?_push_of_some _ gS) (by unfold scanBound; omega)) (fun _ => rfl) rfl
      · obtain ⟨h', g', d', tk', os'⟩ := s'
        have eg : g' = s.gens := hm.gens
        have ed : d' = s.drawn := hm.drawn
        have eo : os' = s.os := hm.os
        subst eg; subst ed; subst eo
        show wpAny _ _ _ _ _ _
        refine wpAny_pure ?_
        show wpAny _ _ (ret Value.none) _ _ _
        refine wpAny_pure ⟨rfl, h', tk', rfl, hS', fun b o hb2 e => hm.heap b o (fun hm2 => ?_) (Heap.get?_push_of_some _ (Heap.get?_push_of_some _ e))⟩
        rcases List.mem_cons.mp hm2 with z | z
        · exact Nat.ne_of_lt hb2 z
        · rw [List.mem_singleton.mp z, szp] at hb2
          exact absurd hb2 (by omega)
    · match r2, hr2 with
      | .error e, hr2 => exact hr2
      | .ok .next, hr2 => exact hr2.elim
      | .ok .brk, hr2 => exact hr2.elim
      | .ok .cont, hr2 => exact hr2.elim
      | .ok (.ret u), hr2 =>
        obtain ⟨rfl, h', tk, rfl, hS', hk'⟩ := hr2
        repeat (any_goals (first | assumption | wp_step))
        exact h _ _ hS' hk'
end
theorem metI_eq (ns : List Int) : firstMet (fun i => ns.getD i 0) ns.length = ns.foldl metI [] := by
  have e : (List.range ns.length).map (fun i => ns.getD i 0) = ns := by
    refine List.ext_getElem (by simp) fun i h1 h2 => ?_
    simp at h1
    simp [h1]
  unfold firstMet
  rw [e]
  rfl
section
variable {G : Glob} {X : Cx} {W : WX} {e : Expr} {d : Dn} {pos p1 p2 p3 : Pos}
def dLenSet (d : Dn) : Dn := fun σ h => (d σ h).bind fun x h1 => match x with
    | .tup l => match intsOf l with
      | some ns => if ns.length < 60 then .ok (.int (ns.foldl metI []).length) h1 else .no
      | none => .no
    | _ => .no
theorem pd_lenset (hK : X.K = G.K) (hc : X.calm = true) (hg : Gl X "len") (hm : X.mg "len" = none) (hg2 : Gl X "set") (hm2 : X.mg "set" = none) (hs : isStar e = false) (he : PE X e (tD G W d)) : PE X (.Call (.Name "len" p1) [.Call (.Name "set" p2) [e] [] p3] [] pos) (tD G W (dLenSet d)) := by
  have na : starEach [e] X.env = (false, eval e X.env) :: starEach [] X.env := starEach_cons hs _
  refine ⟨fun pins s σ H Q I ⟨ρ, sp, h, sl, hr, p⟩ => ?_⟩
  refine Call_ (ld_blt I hg hm PySem.boot_len (callWith_builtin1 (args_cons ?_ rfl) rfl rfl))
  refine Call_ (ld_blt I hg2 hm2 PyProof.Rows.boot_set (callWith_type1 (args_cons (thn (he.run pins s σ H _ I ⟨ρ, sp, h, sl, hr, Post.bind p fun x h1 ρ1 H1 v _ le k hr1 rx p1 =>
    (⟨ρ1, h1, x, hr1, rx, p1⟩ : ∃ ρ1 h1 x, HR G ρ1 h1 H1 ∧ VR G.K ρ1 H1 x v ∧ Post G (fun cls e H' => W cls e σ H') ρ1 H1 (relV G) (match x with
    | .tup l => match intsOf l with
      | some ns => if ns.length < 60 then .ok (.int (ns.foldl metI []).length) h1 else .no
      | none => .no
    | _ => .no) Q)⟩) fun u s1 ⟨v, H1, I1, ru, ρ1, h1, x, hr1, rx, p1⟩ => args_nil ?_) na) na rfl))
  cases rx with
  | @tup l a vs sq r =>
    have p2 : Post G (fun cls e H' => W cls e σ H') ρ1 H1 (relV G) (match intsOf l with
      | some ns => if ns.length < 60 then .ok (.int (ns.foldl metI []).length) h1 else .no
      | none => .no) Q := p1
    split at p2
    · rename_i ns en
      split at p2
      · rename_i hl
        rw [intsOf_map en] at r
        have ev := r.ints
        subst ev
        cases ru
        obtain ⟨its, rv, ht, hz⟩ := I1.tuple (hK ▸ sq)
        have hlen : its.length = ns.length := by rw [← rv.length, List.length_map]
        refine call_set_tup (I1.ok.hd hc) ht (ns := ns) (by simpa using rv.ints) (by rw [List.size_toArray, hlen]; unfold scanBound; omega) fun h' tk hS hk => ?_
        rw [show its.toArray.size = ns.length by rw [List.size_toArray, hlen], metI_eq] at hS
        obtain ⟨o, es, ep, t, ho, hex, hd, _, _, _, hf, hn⟩ := hS
        have I2 : Inv X pins σ H1 { s1 with heap := h', toks := tk } := I1.kept fun b o e => hk b o (Heap.lt_size e) e
        have hle : (ns.foldl metI []).length ≤ ns.length := by
          rw [← metI_eq]
          exact firstMet_length_le _ _
        exact args_nil (call_len_set ho hex hd hf (by rw [hn]; omega) ⟨.int _, H1, I2.tok _, ⟨_, by rw [hn]⟩, Post.now (rel := relV G) p2 hr1 (.int _)⟩)
      · exact False.elim p2
    · exact False.elim p2
  | _ => exact False.elim p1
end

/-! ### sorted({elt for tg in it if cnd}), ints -/
theorem setO_new {w : World} {P : Program} {H : Hp} {h : Heap} {a : Addr} {S : Int → Bool} {n : Nat} (R : SetR w h a S n) : ObjOk P w H h a (SetO w a S n) := by
  have ⟨o, _, _, _, ho, _⟩ := R
  exact ⟨R, ⟨o, ho⟩, fun _ _ p k => SetR.at p k⟩
theorem addI_ok {X : Cx} {pins : List (Addr × Obj)} {σ : L2.St} {H : Hp} {s : Shared} {E : Value → Shared → Prop} {D : Addr} {S : Int → Bool} {n : Nat} {y : Int} {t : Tok} {Q : Value → Shared → Prop} (I : Inv X pins σ H s) (hD : H D = some (SetO X.w D S n)) (room : n + 1 < scanBound)
    (h : ∀ s', Inv X pins σ (upd H D (SetO X.w D (fun j => S j || decide (j = y)) (if S y = true then n else n + 1))) s' → Q .none s') : wpAny (model X.prog X.w) X.A (call (.builtin "set.add") [.ref D, .int y t]) Q E s := by
  have R : SetR X.w s.heap D S n := (I.hok D _ hD).1
  refine setR_add R room fun h' sb new => ?_
  obtain ⟨o, _, _, _, ho, _⟩ := id new
  exact h _ (I.write (e := D) (t' := s.toks + 1) (by rw [hD]; trivial) (.inl rfl) (fun b u hb hu => (sb.2 b hb).trans hu) ⟨o, ho⟩ (setO_new new))
/-- what is asked: D the new set, the loop's measure and state by W -/
def tScI (w : World) (wi : TI) (g : TG) (tt : TT) (te : TE) (vs : List Nat) : TE := fun σ H Q => wi σ H fun J H1 => ∀ D, H1 D = none → ∃ W : Nat → Nat → Hp → Prop, (∃ m, W 0 m (upd H1 D (SetO w D (fun _ => false) 0))) ∧ ∀ i m H, W i m H →
  (J.stop i H ∧ Q (.ref D) H) ∨ (J.go i H ∧ ∃ Nx : Hp → Prop, (∀ H', Nx H' → ∃ m', m' < m ∧ W (i + 1) m' H') ∧ ∀ x H', J.yld i H x H' → g x (wipe σ vs) H' fun σ2 H2 => wipe σ2 vs = wipe σ vs ∧ tt σ2 H2 fun b H3 =>
    if b = true then te σ2 H3 fun y H4 => ∃ (c : Int) (S : Int → Bool) (n : Nat), y = .int c ∧ H4 D = some (SetO w D S n) ∧ n + 1 < scanBound ∧ Nx (upd H4 D (SetO w D (fun j => S j || decide (j = c)) (if S c = true then n else n + 1))) else Nx H3)
section
variable {X : Cx}
theorem pe_sci {elt tg iter : Expr} {ifs : List Expr} {scope : Scope} {own : List (PySem.Str × Nat)} {pos : Pos} {wi : TI} {g : TG} {tt : TT} {te : TE} (hc : X.calm = true) (hN : X.N.Nodup) (hi : PI X tg iter wi) (ok : BlkOk X.N X.env.scope scope own)
    (hg : ∀ (s : Shared) (H : Hp) (C : Addr) (cl : List (PySem.Str × Addr)) (fp : List Addr), PG (X.blk s H scope (compEnvC scope cl C X.env) fp) tg g) (ht : ∀ (s : Shared) (H : Hp) (C : Addr) (cl : List (PySem.Str × Addr)) (fp : List Addr), PTs (X.blk s H scope (compEnvC scope cl C X.env) fp) ifs tt)
    (he : ∀ (s : Shared) (H : Hp) (C : Addr) (cl : List (PySem.Str × Addr)) (fp : List Addr), PE (X.blk s H scope (compEnvC scope cl C X.env) fp) elt te) (hs : ∀ x, foldedSetIterable iter X.env x = pure x) :
    PE X (.SetComp elt [⟨tg, iter, ifs, 0⟩] scope pos) (tScI X.w wi g tt te (own.map (·.2))) := by
  refine ⟨fun pins s σ H Q I h => ?_⟩
  rw [PpSet.eval_SetComp]
  have hfree : ∀ y ∈ scope.names, y.2 = .free → ∃ c, X.env.cells.lookup y.1 = some c := fun y hy e => (ok.free y hy e).elim (fun k => I.ok.has _ (.inl k)) fun k => I.ok.has _ (.inr k)
  refine wpAny_comprehension_free (use := none) rfl hs (closure_ok hfree) ok.kind (fun y hy e => by rw [ok.uniq y hy, e])
    (thn (hi.run pins s σ H _ I h) fun xv s1 hx => thn hx fun itv s2 ⟨it, fp, tn, J, H2, e, I2, T, st2, f2, q⟩ => ?_)
  subst e
  refine PpSet.newSet_ok (newEnv_comp ?_)
  generalize hD : s2.heap.objs.size = D
  obtain ⟨W, ⟨m0, w0⟩, turn⟩ := q D (I2.hok.fresh (Nat.le_of_eq hD))
  generalize hob : ({ cls := .type "set", dict := none, data := .set #[] 0 (.fresh 0 0 (!X.w.params.followText "set-order")) } : Obj) = ob
  have grow : ∀ b o, s2.heap.get? b = some o → (s2.heap.push ob).get? b = some o := fun b o e => Heap.get?_push_of_some _ e
  generalize hs3 : ({ s2 with heap := s2.heap.push ob } : Shared) = s3
  have h3 : s3.heap = s2.heap.push ob := by rw [← hs3]
  have I3 : Inv X pins σ (upd H2 D (SetO X.w D (fun _ => false) 0)) s3 := by
    rw [← hs3]
    refine I2.laid (t' := s2.toks) grow (Nat.le_of_eq hD) ?_
    rw [← hD, ← hob]
    exact setO_new (setR_fresh X.w)
  have sz : ∀ b ∈ fp, b < s2.heap.objs.size := fun b hb => (T.obj _ _ st2 b hb).elim fun o z => Heap.lt_size z.1
  have f3 : ∀ b ∈ fp, FpOk X pins (upd H2 D (SetO X.w D (fun _ => false) 0)) b ∧ b < s3.heap.objs.size := fun b hb =>
    ⟨⟨by rw [upd_ne (by rw [← hD]; exact Nat.ne_of_lt (sz b hb))]; exact (f2 b hb).1, (f2 b hb).2⟩, by rw [h3, Heap.size_push]; exact Nat.lt_succ_of_lt (sz b hb)⟩
  have st3 : tn 0 s3.heap := T.keep _ _ _ st2 fun b _ o e => by rw [h3]; exact grow b o e
  have I4 := block_start I3 ok hN f3
  generalize hcl : cellsFrom (s3.heap.objs.size + 1) scope.names (cloFrom X.env.cells scope.names []) = cl at I4 ⊢
  have pg := hg s3 (upd H2 D (SetO X.w D (fun _ => false) 0)) s3.heap.objs.size cl fp
  have pt := ht s3 (upd H2 D (SetO X.w D (fun _ => false) 0)) s3.heap.objs.size cl fp
  have pe := he s3 (upd H2 D (SetO X.w D (fun _ => false) 0)) s3.heap.objs.size cl fp
  have nfp : ∀ b ∈ fp, (upd H2 D (SetO X.w D (fun _ => false) 0)) b = none := fun b hb => (f3 b hb).1.1
  generalize hce : compEnvC scope cl s3.heap.objs.size X.env = ce at I4 pg pt pe
  have cL : ce.locals = s3.heap.objs.size := by subst hce; rfl
  generalize hH3 : upd H2 D (SetO X.w D (fun _ => false) 0) = H3 at I3 I4 pg pt pe w0 nfp f3
  generalize hs4 : ({ s3 with heap := pushCells (s3.heap.push { cls := .type "dict", data := .dict #[] }) scope.names } : Shared) = s4 at I4
  have st4 : tn 0 s4.heap := T.keep _ _ _ st3 fun b _ o e => by rw [← hs4]; exact pushCells_keeps _ _ _ _ (Heap.get?_push_of_some _ e)
  have stat : ∀ {σ' : L2.St} {H' : Hp} {s' : Shared}, Inv (X.blk s3 H3 scope ce fp) [] σ' H' s' → (∀ b ∈ fp, H' b = none) → ∀ b ∈ fp, FpOk (X.blk s3 H3 scope ce fp) [] H' b := fun {σ' H' s'} I' hn b hb =>
    ⟨hn b hb, (I'.ok.exf b hb).1, I'.ok.exfs b hb, .inl hb, fun x c e => (I'.ok.exf b hb).2 x c e, fun p hp => nomatch (show p ∈ ([] : List (Addr × Obj)) from hp)⟩
  have loop : codeAny (model X.prog X.w) X.A (.compLoop (.SetComp elt [⟨tg, iter, ifs, 0⟩] scope pos) 0 (.ref it) (.ref D) ce) (compPost (model X.prog X.w) X.A X.xe none (EP X pins σ Q) (.ref D) s3.heap.objs.size) s4 := by
    refine PpSet.compLoopS_any (fun n s' => ∃ i H', Inv (X.blk s3 H3 scope ce fp) [] (wipe σ (own.map (·.2))) H' s' ∧ tn i s'.heap ∧ (∀ b ∈ fp, H' b = none) ∧ W i n H') ?_ m0 ⟨0, H3, I4, st4, nfp, w0⟩
    rintro n s5 ⟨i, H5, I5, st5, n5, w5⟩
    rcases turn i n H5 w5 with ⟨stop, qq⟩ | ⟨go, Nx, hNx, step⟩
    · refine thnF (T.done (X.blk s3 H3 scope ce fp) rfl rfl rfl hc i [] s5 _ H5 (fun _ _ => False) I5 (stat I5 n5) st5 stop) fun r s6 ⟨hr, I6⟩ => ?_
      subst hr
      have I7 : Inv X pins σ H5 s6 := I3.call' (ch := fp) I6.os I6.base I6.hok I6.bare fun b hb => ⟨(f3 b hb).1.2.2.2.1, (f3 b hb).1.2.1, (f3 b hb).1.2.2.2.2.1, (f3 b hb).1.2.2.2.2.2⟩
      have nC : H5 s3.heap.objs.size = none := by rw [← cL]; exact I6.free
      obtain ⟨m, hn, _⟩ := I6.loc
      have hn : s6.heap.Ns ce.locals m := hn
      rw [cL] at hn
      refine ⟨m, hn, fun h'' sb => ?_⟩
      obtain ⟨f0, f1, f2', f3', f4, f5⟩ := I3.fpOk (Nat.le_refl _) nC
      exact ⟨.ref D, H5, I7.turned (t' := s6.toks) (fun b o hb e => (sb.2 b hb).trans e) f0 f1 f3' f4 f5, rfl, qq⟩
    · refine thnF (T.item (X.blk s3 H3 scope ce fp) rfl rfl rfl hc i [] s5 _ H5 (fun _ _ => False) I5 (stat I5 n5) st5 go) fun r s6 ⟨u, hr, h6⟩ => ?_
      subst hr
      refine thnF h6 fun _ s7 ⟨x, H7, I7, r7, y7, st7, n7⟩ => ?_
      refine thnF (pg.run _ s7 _ H7 x u _ (I7.pinned (stat I7 n7) (T.obj _ _ st7)) r7 (step x H7 y7)) fun _ s8 ⟨σ8, H8, I8, hw8, q8⟩ => ?_
      refine thnF (pt.run _ s8 σ8 H8 _ I8 q8) fun b s9 ⟨H9, I9, q9⟩ => ?_
      have fin : ∀ {s' : Shared} {H' : Hp}, Inv (X.blk s3 H3 scope ce fp) ([] ++ pinsAt fp s7.heap) σ8 H' s' → Nx H' → ∃ m, m < n ∧ ∃ i H', Inv (X.blk s3 H3 scope ce fp) [] (wipe σ (own.map (·.2))) H' s' ∧ tn i s'.heap ∧ (∀ b ∈ fp, H' b = none) ∧ W i m H' := fun {s' H'} I' nx => by
        obtain ⟨m', hm, w'⟩ := hNx H' nx
        have pin' := fun b hb o e => I'.pin (b, o) (List.mem_append_right _ (List.mem_append_right _ (mem_pinsAt (b := b) (o := o) hb e)))
        refine ⟨m', hm, i + 1, H', (I'.unpinned (pins := [])).weak (by rw [← hw8, wipe_length]) (fun j v e => ?_), T.keep _ _ _ st7 fun b hb o e => (pin' b hb o e).1, fun b hb => ?_, w'⟩
        · rw [← hw8] at e; exact (wipe_some e).1
        · obtain ⟨o, e, _⟩ := T.obj _ _ st7 b hb
          exact (pin' b hb o e).2.1
      cases b with
      | false => exact fin I9 q9
      | true =>
        simp only [if_true] at q9 ⊢
        refine thnF (pe.run _ s9 σ8 H9 _ I9 q9) fun z s10 ⟨yv, H10, I10, r10, cb, S0, n0, ey, hD10, hz10, nx⟩ => ?_
        subst ey
        obtain ⟨tz, rfl⟩ := (show ∃ t, z = Value.int cb t from r10)
        exact addI_ok (X := X.blk s3 H3 scope ce fp) I10 hD10 hz10 fun s11 I11 => fin I11 nx
  subst hce
  exact PpSet.codeAny_compStart_set loop (T.self X.A 0 _ _ _ st4 loop)
end
end Fx

/-! Expressions as they are written, against the small language's. -/
namespace Fx
open PySem PySem.Spec PyProof.Rows L2
/-- what a name of the module stands for -/
inductive GV where
  | fn (f : Nat) (dss : List (List PV)) | cls (c : Nat) (f : Nat) (dss : List (List PV)) | val (v : PV) | exc (c : Nat) | bi
structure Tb where
  gv : List (Str × GV)
  nms : List Str
  mns : List Str
  exi : Nat → Option (Option Nat)
  gd : Nat
mutual
def pvb : PV → PV → Bool
  | .non, .non => true
  | .bl a, .bl b => a == b
  | .int i, .int j => decide (i = j)
  | .str x, .str y => decide (x = y)
  | .tup l, .tup r => pvsb l r
  | .ref a, .ref b => decide (a = b)
  | _, _ => false
def pvsb : List PV → List PV → Bool
  | [], [] => true
  | x :: l, y :: r => pvb x y && pvsb l r
  | _, _ => false
end
mutual
theorem pvb_eq : ∀ {x y : PV}, pvb x y = true → x = y
  | .non, y, h => by cases y <;> first | rfl | cases h
  | .bl a, y, h => by cases y <;> first | (rw [eq_of_beq (show (a == _) = true from h)]) | cases h
  | .int i, y, h => by cases y <;> first | (rw [of_decide_eq_true (show decide (i = _) = true from h)]) | cases h
  | .str i, y, h => by cases y <;> first | (rw [of_decide_eq_true (show decide (i = _) = true from h)]) | cases h
  | .tup l, y, h => by cases y <;> first | (rw [pvsb_eq (show pvsb l _ = true from h)]) | cases h
  | .ref i, y, h => by cases y <;> first | (rw [of_decide_eq_true (show decide (i = _) = true from h)]) | cases h
theorem pvsb_eq : ∀ {x y : List PV}, pvsb x y = true → x = y
  | [], y, h => by cases y <;> first | rfl | cases h
  | x :: l, y, h => by
    cases y with
    | nil => cases h
    | cons z r =>
      have h' : (pvb x z && pvsb l r) = true := h
      rw [Bool.and_eq_true] at h'
      rw [pvb_eq h'.1, pvsb_eq h'.2]
end
def kindB (sc : Scope) (x : Str) (k : NameKind → Bool) : Bool := match sc.names.lookup x with
  | some j => k j
  | none => false
def visB (sc : Scope) (x : Str) : Bool := kindB sc x fun | .local => true | .cell => true | .free => true | _ => false
def glbB (sc : Scope) (x : Str) : Bool := kindB sc x fun | .globalImplicit => true | _ => false
def lclB (sc : Scope) (x : Str) : Bool := kindB sc x fun | .local => true | _ => false
theorem visB_ok {sc : Scope} {x : Str} (h : visB sc x = true) : Vis sc x := by
  unfold visB kindB at h
  unfold Vis
  split at h
  · rename_i j e
    rw [e]
    cases j <;> first | exact .inl rfl | exact .inr (.inl rfl) | exact .inr (.inr rfl) | cases h
  · cases h
theorem glbB_ok {X : Cx} {x : Str} (h : glbB X.env.scope x = true) : Gl X x := by
  unfold glbB kindB at h
  unfold Gl Env.kindOf
  split at h
  · rename_i j e
    rw [e]
    cases j <;> first | rfl | cases h
  · cases h
theorem lclB_ok {sc : Scope} {x : Str} (h : lclB sc x = true) : sc.names.lookup x = some .local := by
  unfold lclB kindB at h
  split at h
  · rename_i j e
    rw [e]
    cases j <;> first | rfl | cases h
  · cases h
def nameB (x : Str) : Bool := !(x == ("__debug__" : Str)) && !(x == ("__classdict__" : Str))
theorem nameB_ok {x : Str} (h : nameB x = true) : (x == ("__debug__" : Str)) = false ∧ (x == ("__classdict__" : Str)) = false := by
  unfold nameB at h
  simpa [Bool.and_eq_true] using h
def strB (a b : Str) : Bool := decide (a = b)
def atB (N : List Str) (i : Nat) (x : Str) : Bool := match N[i]? with
  | some y => decide (y = x)
  | none => false
theorem atB_ok {N : List Str} {i : Nat} {x : Str} (h : atB N i x = true) : N[i]? = some x := by
  unfold atB at h
  split at h
  · rename_i y e
    rw [e, of_decide_eq_true h]
  · cases h
def biB (T : Tb) (x : Str) : Bool := match T.gv.lookup x with
  | some .bi => true
  | _ => false
def fnB (T : Tb) (x : Str) (f : Nat) (ds : List PV) : Bool := match T.gv.lookup x with
  | some (.fn g dss) => decide (f = g) && dss.any fun d => pvsb ds d
  | _ => false
def clsB (T : Tb) (x : Str) (c : Nat) (ds : List PV) : Bool := match T.gv.lookup x with
  | some (.cls g _ dss) => decide (c = g) && dss.any fun d => pvsb ds d
  | _ => false
def valB (T : Tb) (x : Str) (v : PV) : Bool := match T.gv.lookup x with
  | some (.val w) => pvb v w
  | _ => false
/-- a constant as written -/
def cstB (T : Tb) (sc : Scope) (v : PV) (e : Expr) : Bool := match e with
  | .Constant (.int i) _ _ => pvb v (.int i)
  | .Constant (.bool b) _ _ => pvb v (.bl b)
  | .Constant .none _ _ => pvb v .non
  | .Constant (.str x) _ _ => pvb v (.str x)
  | .Name x _ => glbB sc x && nameB x && valB T x v
  | _ => false
def isSet : Expr → Bool
  | .Set .. => true
  | _ => false
def isB : Expr → Bool
  | .BoolOp .. => true
  | _ => false
def isIf : Expr → Bool
  | .IfExp .. => true
  | _ => false
def lmName : Lm → Str
  | .append => "append" | .extend => "extend" | .index => "index" | .reverse => "reverse" | .remove => "remove" | .pop => "pop" | .insert => "insert"
def lm0B : Lm → Bool
  | .reverse => true | .pop => true | _ => false
def tgB (N : List Str) (sc : Scope) (tg : Tg) (e : Expr) : Bool := match tg, e with
  | .name i, .Name x _ => atB N i x && lclB sc x
  | .names is, .Tuple es _ _ => decide (is.length = es.length) && (is.zip es).all fun p => match p.2 with
    | .Name x _ => atB N p.1 x && lclB sc x
    | _ => false
  | _, _ => false
def ownOf (N : List Str) (own : List Nat) : List (Str × Nat) := own.map fun i => (N[i]?.getD Str.empty, i)
theorem slots_own (N : List Str) (own : List Nat) : slots (ownOf N own) = own := by
  unfold slots ownOf
  rw [List.map_map]
  exact List.map_id' own
def isListD : Expr → Bool
  | .List .. => true
  | _ => false
/-- the scope of a generator expression of one name -/
def gscB (N : List Str) (sc : Scope) (x : Str) (i : Nat) : Bool := (match sc.kind with | .function => true | _ => false) && !sc.isCoroutine && (sc.names.all fun y => match y.2 with
    | .cell => false
    | .free => false
    | .local => decide (y.1 = x) || decide (y.1 ∉ N)
    | _ => true) && decide (sc.names.lookup (".0" : Str) = some NameKind.local) && (sc.names.all fun y => decide (sc.names.lookup y.1 = some y.2)) && atB N i x && lclB sc x
theorem gscB_ok {N : List Str} {sc : Scope} {x : Str} {i : Nat} (h : gscB N sc x i = true) : GenSc N sc [(x, i)] ∧ sc.names.lookup x = some .local := by
  unfold gscB at h
  simp only [Bool.and_eq_true, List.all_eq_true, decide_eq_true_eq] at h
  obtain ⟨⟨⟨⟨⟨⟨h1, h2⟩, h3⟩, h4⟩, h5⟩, h6⟩, h7⟩ := h
  refine ⟨⟨?_, by simpa using h2, fun y hy => ?_, h4, h5, fun p hp => ?_, fun y hy e => ?_⟩, lclB_ok h7⟩
  · split at h1
    · assumption
    · cases h1
  · have q := h3 y hy
    refine ⟨fun e => ?_, fun e => ?_⟩ <;> (simp only [e] at q; cases q)
  · rw [List.mem_singleton.mp hp]
    exact atB_ok h6
  · have q := h3 y hy
    simp only [e, Bool.or_eq_true, decide_eq_true_eq] at q
    rcases q with q | q
    · exact .inl (by rw [q]; simp)
    · exact .inr q
mutual
def chk : Tb → List Str → E → Scope → Expr → Bool
  | T, N, .var i, sc, e => match e with
    | .Name x _ => atB N i x && visB sc x && nameB x
    | _ => false
  | T, N, .cst v, sc, e => cstB T sc v e
  | T, N, .bin o a b, sc, e => match e with
    | .BinOp x op y _ => decide (opOf op = some o) && chk T N a sc x && chk T N b sc y
    | _ => false
  | T, N, .neg a, sc, e => match e with
    | .UnaryOp .USub x _ => chk T N a sc x
    | _ => false
  | T, N, .not a, sc, e => match e with
    | .UnaryOp .Not x _ => !isIf x && chk T N a sc x
    | _ => false
  | T, N, .and a b, sc, e => match e with
    | .BoolOp .And [x, y] _ => !isIf x && !isIf y && chk T N a sc x && chk T N b sc y
    | .BoolOp .And (x :: y :: z :: r) pos => !isIf x && chk T N a sc x && chk T N b sc (.BoolOp .And (y :: z :: r) pos)
    | _ => false
  | T, N, .or a b, sc, e => match e with
    | .BoolOp .Or [x, y] _ => !isIf x && !isIf y && chk T N a sc x && chk T N b sc y
    | .BoolOp .Or (x :: y :: z :: r) pos => !isIf x && chk T N a sc x && chk T N b sc (.BoolOp .Or (y :: z :: r) pos)
    | _ => false
  | T, N, .cmp o a b, sc, e => match e with
    | .Compare x [op] [y] _ => decide (copOf op = some o) && !behindInMarks op y && chk T N a sc x && chk T N b sc y
    | _ => false
  | T, N, .chain o p a b c, sc, e => match e with
    | .Compare x [op, oq] [y, z] _ => decide (copOf op = some o) && decide (copOf oq = some p) && !lastMarks [op, oq] [y, z] && chk T N a sc x && chk T N b sc y && chk T N c sc z
    | _ => false
  | T, N, .ite c a b, sc, e => match e with
    | .IfExp t x y _ => !isIf t && chk T N c sc t && chk T N a sc x && chk T N b sc y
    | _ => false
  | T, N, .tup es, sc, e => match e with
    | .Tuple xs _ _ => chks T N es sc xs
    | _ => false
  | T, N, .lst es, sc, e => match e with
    | .List xs _ => chks T N es sc xs
    | _ => false
  | T, N, .dic _ _, _, _ => false
  | T, N, .idx a i, sc, e => match e with
    | .Subscript x y _ => !isSlice y && chk T N a sc x && chk T N i sc y
    | _ => false
  | T, N, .slc a lo hi, sc, e => match e with
    | .Subscript x (.Slice l h none _) _ => chk T N a sc x && chko T N lo sc l && chko T N hi sc h
    | _ => false
  | T, N, .fld a f, sc, e => match e with
    | .Attribute x name _ => atB T.nms f name && !isCall0 x && chk T N a sc x
    | _ => false
  | T, N, .call f es ds, sc, e => match e with
    | .Call (.Name x _) args [] _ => glbB sc x && nameB x && fnB T x f ds && plainA args && chks T N es sc args
    | _ => false
  | T, N, .meth o m es, sc, e => match e with
    | .Call (.Attribute x name apos) args [] pos => atB T.mns m name && !isCall0 x && plainA args && decide (args.length < 29) && (apos.endLine == pos.line) && chk T N o sc x && chks T N es sc args
    | _ => false
  | T, N, .mk c es ds, sc, e => match e with
    | .Call (.Name x _) args [] _ => glbB sc x && nameB x && clsB T x c ds && plainA args && chks T N es sc args
    | _ => false
  | T, N, .blt b es, sc, e => match e with
    | .Call (.Name x _) (y :: ys) [] _ => strB x (bltName b) && glbB sc x && biB T x && plainA (y :: ys) && chks T N es sc (y :: ys)
    | _ => false
  | T, N, .lm m o es, sc, e => match e with
    | .Call (.Attribute x name apos) args [] pos => strB name (lmName m) && !isCall0 x && plainA args && decide (args.length < 29) && (lm0B m == args.isEmpty) && (apos.endLine == pos.line) && chk T N o sc x && chks T N es sc args
    | _ => false
  | T, N, .isi a t, sc, e => match e with
    | .Call (.Name f _) [x, .Name ty _] [] _ => strB f "isinstance" && strB ty (Str.ofString (tyName t)) && glbB sc f && glbB sc ty && biB T f && biB T ty && !isStar x && chk T N a sc x
    | _ => false
  | T, N, .tidx l a, sc, e => match e with
    | .Call (.Attribute (.Name x _) name apos) [y] [] pos => strB name "index" && glbB sc x && nameB x && valB T x (.tup l) && !isStar y && (apos.endLine == pos.line) && chk T N a sc y
    | _ => false
  | T, N, .lc own tg it cnd elt, sc, e => match e with
    | .ListComp el [⟨tge, iter, ifs, 0⟩] scope _ => blkC N sc scope (ownOf N own) && (tgSlots tg).all (fun i => own.contains i) && !isSet iter && chki T N it sc tge iter && tgB N (relS scope sc) tg tge && chkf T N cnd (relS scope sc) ifs && chk T N elt (relS scope sc) el
    | _ => false
  | T, N, .sortset _ _ _, _, _ => false
  | T, N, .lenset a, sc, e => match e with
    | .Call (.Name f _) [.Call (.Name g _) [x] [] _] [] _ => strB f "len" && strB g "set" && glbB sc f && glbB sc g && biB T f && biB T g && !isStar x && chk T N a sc x
    | _ => false
  | T, N, .callk .., _, _ => false
  | T, N, .mkk .., _, _ => false
  | T, N, .dget .., _, _ => false
  | T, N, .dget2 .., _, _ => false
  | T, N, .dsetd .., _, _ => false
  | T, N, .lrng1 a, sc, e => match e with
    | .Call (.Name f _) [.Call (.Name g _) [x] [] _] [] _ => strB f "list" && strB g "range" && glbB sc f && glbB sc g && biB T f && biB T g && !isStar x && chk T N a sc x
    | _ => false
  | T, N, .listrng a b, sc, e => match e with
    | .Call (.Name f _) [.Call (.Name g _) [x, y] [] _] [] _ => strB f "list" && strB g "range" && glbB sc f && glbB sc g && biB T f && biB T g && !isStar x && !isStar y && chk T N a sc x && chk T N b sc y
    | _ => false
  | T, N, .all i it elt, sc, e => match e with
    | .Call (.Name f _) [.GeneratorExp el [⟨.Name x px, iter, [], 0⟩] scope _] [] _ => match T.gd with
      | 0 => false
      | g + 1 => strB f "all" && glbB sc f && biB T f && !isSet iter && !isListD iter && chki T N it sc (.Name x px) iter && gscB N scope x i && chk { T with gd := 0 } N elt scope el
    | _ => false
def chks : Tb → List Str → Es → Scope → List Expr → Bool
  | T, N, .nil, _, l => l.isEmpty
  | T, N, .cons m r, sc, l => match l with
    | e :: es => !isStar e && chk T N m sc e && chks T N r sc es
    | [] => false
  | T, N, .star m r, sc, l => match l with
    | .Starred e _ :: es => chk T N m sc e && chks T N r sc es
    | _ => false
def chko : Tb → List Str → Oe → Scope → Option Expr → Bool
  | T, N, .none, _, o => o.isNone
  | T, N, .some m, sc, o => match o with
    | some e => chk T N m sc e
    | none => false
def chkf : Tb → List Str → Oe → Scope → List Expr → Bool
  | T, N, .none, _, l => l.isEmpty
  | T, N, .some m, sc, l => match l with
    | [e] => !isIf e && chk T N m sc e
    | _ => false
def chki : Tb → List Str → It → Scope → Expr → Expr → Bool
  | T, N, .seq m, sc, _, e => chk T N m sc e
  | T, N, .rng1 m, sc, _, e => match e with
    | .Call (.Name g _) [x] [] _ => strB g "range" && glbB sc g && biB T g && !isStar x && chk T N m sc x
    | _ => false
  | T, N, .rng m m', sc, _, e => match e with
    | .Call (.Name g _) [x, y] [] _ => strB g "range" && glbB sc g && biB T g && !isStar x && !isStar y && chk T N m sc x && chk T N m' sc y
    | _ => false
  | T, N, .enum m, sc, tg, e => match tg with
    | .Tuple _ _ _ => match e with
      | .Call (.Name g _) [x] [] _ => strB g "enumerate" && glbB sc g && biB T g && !isStar x && chk T N m sc x
      | _ => false
    | _ => false
end
end Fx

/-! The small language's expressions are what is written. -/
namespace Fx
open PySem PySem.Spec PyProof.Rows L2
def GvOk (G : Glob) (K : PySem.W.Frag) (mg : Str → Option Value) (x : Str) : GV → Prop
  | .fn f dss => mg x = some (.ref (G.fa f)) ∧ PySem.W.keepIn K (.ref (G.fa f)) = true ∧ ∀ ds ∈ dss, Dfl G K f ds
  | .cls c f dss => mg x = some (.ref (G.cm c)) ∧ ∀ ds ∈ dss, MkOk G K c f ds
  | .val v => ∃ a u, mg x = some u ∧ L2.RelV a u ∧ (∀ ρ H, VR K ρ H v a) ∧ ((∃ l, v = .tup l) → ∃ b, u = .ref b ∧ TupK K b)
  | .exc c => mg x = some (.ref (G.cm c))
  | .bi => mg x = none
structure TOk (G : Glob) (T : Tb) (mg : Str → Option Value) : Prop where
  nms : G.nms = T.nms
  mns : G.mns = T.mns
  exi : ∀ c, G.P.exi c = T.exi c
  gv : ∀ x g, T.gv.lookup x = some g → GvOk G G.K mg x g
  mt : MtOk G G.K
structure CtxOk (G : Glob) (T : Tb) (N : List Str) (rc rm : Rn) (X : Cx) : Prop where
  K : X.K = G.K
  calm : X.calm = true
  nd : X.N.Nodup
  N : X.N = N
  cap_ : ∃ j, Room (j + 4 * T.gd) X.A ∧ ∀ f, FnC G X j rc f
  capm_ : ∃ j, Room (j + 1 + 4 * T.gd) X.A ∧ ∀ f, FnC G X j rm f
  t : TOk G T X.mg
  gx : T.gd = 0 ∨ ∃ c P, GxR.TabB X.base X.mg c P ∧ X.env.code = .ref c ∧ P ∈ G.tabs
section
variable {G : Glob} {T : Tb} {N : List Str} {rc rm : Rn} {X : Cx}
theorem CtxOk.cap (C : CtxOk G T N rc rm X) : ∃ j, Room j X.A ∧ ∀ f, FnC G X j rc f := by
  obtain ⟨j, r, F⟩ := C.cap_
  exact ⟨j, r.mono (Nat.le_add_right _ _), F⟩
theorem CtxOk.capm (C : CtxOk G T N rc rm X) : ∃ j, Room (j + 1) X.A ∧ ∀ f, FnC G X j rm f := by
  obtain ⟨j, r, F⟩ := C.capm_
  exact ⟨j, r.mono (Nat.le_add_right _ _), F⟩
theorem CtxOk.blk (C : CtxOk G T N rc rm X) (s : Shared) (H : Hp) (sc : Scope) (cl : List (Str × Addr)) (L : Addr) (fp : List Addr) : CtxOk G T N rc rm (X.blk s H sc (compEnvC sc cl L X.env) fp) := ⟨C.K, C.calm, C.nd, C.N, C.cap_, C.capm_, C.t, C.gx⟩
/-- the room of a generator's frame -/
theorem room_gen {j : Nat} {A : Around} {elt iter : Expr} {x : Str} {px : Pos} {scope : Scope} {pos : Pos} {it : Value} {env : Env} (r : Room (j + 4) A) : Room j (A.in1.in1.over (.compLoop (gExp elt iter x px scope pos) 0 it .none env) []) := by
  have h1 := r.hd
  have h2 := r.dp
  have h3 := r.un
  have e1 : (A.in1.in1.over (.compLoop (gExp elt iter x px scope pos) 0 it .none env) []).depth = A.depth + 0 + 1 := rfl
  have e2 : (A.in1.in1.over (.compLoop (gExp elt iter x px scope pos) 0 it .none env) []).units = A.units + 1 + 1 + 0 + 3 := rfl
  refine ⟨h1, ?_, ?_⟩
  · rw [e1]; omega
  · rw [e2]; omega
theorem CtxOk.gen {g : Nat} (C : CtxOk G T N rc rm X) (hg : T.gd = g + 1) (s : Shared) (H : Hp) (L : Addr) (code : Value) (bi : Addr) {elt iter : Expr} {x : Str} {px : Pos} {sc : Scope} {pos : Pos} (I : Addr) (fp : List Addr) :
    CtxOk G { T with gd := 0 } N rc rm (genCx X (X.A.in1.in1.over (.compLoop (gExp elt iter x px sc pos) 0 (.ref I) .none (genEnv sc [] L code bi X.env)) []) s H (genEnv sc [] L code bi X.env) fp) := by
  obtain ⟨j, r, F⟩ := C.cap_
  obtain ⟨j2, r2, F2⟩ := C.capm_
  rw [hg] at r r2
  exact ⟨C.K, C.calm, C.nd, C.N, ⟨j, room_gen (r.mono (show j + 4 * 0 + 4 ≤ _ by omega)), F⟩, ⟨j2, room_gen (r2.mono (show j2 + 1 + 4 * 0 + 4 ≤ _ by omega)), F2⟩, ⟨C.t.nms, C.t.mns, C.t.exi, C.t.gv, C.t.mt⟩, .inl rfl⟩
theorem CtxOk.un (C : CtxOk G T N rc rm X) : X.A.units + 1 < cLine := by
  obtain ⟨j, r, _⟩ := C.cap
  have := r.un
  omega
theorem CtxOk.un65 (C : CtxOk G T N rc rm X) : X.A.units + 65 < cLine := by
  obtain ⟨j, r, _⟩ := C.cap
  have := r.un
  omega
theorem CtxOk.bi (C : CtxOk G T N rc rm X) {x : Str} (h : biB T x = true) : X.mg x = none := by
  unfold biB at h
  split at h
  · rename_i e; exact C.t.gv x _ e
  · cases h
theorem CtxOk.fn (C : CtxOk G T N rc rm X) {x : Str} {f : Nat} {ds : List PV} (h : fnB T x f ds = true) : X.mg x = some (.ref (G.fa f)) ∧ PySem.W.keepIn X.K (.ref (G.fa f)) = true ∧ Dfl G X.K f ds := by
  unfold fnB at h
  split at h
  · rename_i g dss e
    obtain ⟨h1, h2, h3⟩ := C.t.gv x _ e
    rw [Bool.and_eq_true] at h
    have := of_decide_eq_true h.1
    subst this
    obtain ⟨d, hd, e2⟩ := List.any_eq_true.mp h.2
    rw [C.K]
    exact ⟨h1, h2, by rw [pvsb_eq e2]; exact h3 d hd⟩
  · cases h
theorem CtxOk.cls (C : CtxOk G T N rc rm X) {x : Str} {c : Nat} {ds : List PV} (h : clsB T x c ds = true) : X.mg x = some (.ref (G.cm c)) ∧ ∃ f, MkOk G G.K c f ds := by
  unfold clsB at h
  split at h
  · rename_i g f dss e
    obtain ⟨h1, h3⟩ := C.t.gv x _ e
    rw [Bool.and_eq_true] at h
    have := of_decide_eq_true h.1
    subst this
    obtain ⟨d, hd, e2⟩ := List.any_eq_true.mp h.2
    exact ⟨h1, f, by rw [pvsb_eq e2]; exact h3 d hd⟩
  · cases h
theorem CtxOk.val (C : CtxOk G T N rc rm X) {x : Str} {v : PV} (h : valB T x v = true) : ∃ a u, X.mg x = some u ∧ L2.RelV a u ∧ (∀ ρ H, VR G.K ρ H v a) ∧ ((∃ l, v = .tup l) → ∃ b, u = .ref b ∧ TupK G.K b) := by
  unfold valB at h
  split at h
  · rename_i w e
    rw [pvb_eq h]
    exact C.t.gv x _ e
  · cases h
theorem CtxOk.cst (C : CtxOk G T N rc rm X) {v : PV} {e : Expr} (h : cstB T X.env.scope v e = true) {W : WX} : PE X e (tD G W fun _ h => .ok v h) := by
  unfold cstB at h
  split at h
  · rw [pvb_eq h]; exact pd_cst pe_int fun _ _ => .int _
  · rw [pvb_eq h]; exact pd_cst pe_bl fun _ _ => .bl _
  · rw [pvb_eq h]; exact pd_cst pe_non fun _ _ => .non
  · rw [pvb_eq h]; exact pd_cst pe_str fun _ _ => .str _
  · simp only [Bool.and_eq_true] at h
    obtain ⟨⟨h1, h2⟩, h3⟩ := h
    obtain ⟨a, u, e1, r, hv, _⟩ := C.val h3
    exact pd_cst (pe_glob (glbB_ok h1) e1 r (nameB_ok h2).1) hv
  · cases h
/-- an expression and what it does -/
structure SE (X : Cx) (G : Glob) (W : WX) (e : Expr) (d : Dn) : Prop where
  pe : PE X e (tD G W d)
  pt : isIf e = false → PT X e (tDT G W (dT d))
  pw : isB e = true → PW X e (tDT G W (dT d))
def plainT : Expr → Bool
  | .UnaryOp .Not _ _ => false
  | .BoolOp .. => false
  | .IfExp .. => false
  | .Compare .. => false
  | _ => true
theorem plainT_eq {e : Expr} (h : plainT e = true) (env : Env) (whole : Sem Value) : isTrue e env whole = (do let v ← whole; standAt e.pos; holding [v] (truthy v)) := by
  cases e <;> first | rfl | (cases h; done) | (rename_i op _ _; cases op <;> first | rfl | (cases h; done))
theorem plainB {e : Expr} (h : plainT e = true) : isB e = false := by cases e <;> first | rfl | cases h
theorem SE.of {W : WX} {e : Expr} {d : Dn} (hK : X.K = G.K) (h : PE X e (tD G W d)) (p : plainT e = true) : SE X G W e d := ⟨h, fun _ => pd_truth hK h (plainT_eq p _), fun b => by rw [plainB p] at b; cases b⟩
theorem lmo {m : Lm} {e : Expr} {es : List Expr} {o : Expr} {d : Dn} {ds : Da} {W : WX} {pos apos : Pos} (hK : X.K = G.K) (hu : X.A.units + 65 < cLine) (hm : lm0B m = false) (ho : PE X o (tD G W d)) (ha : PA X (e :: es) (tDA G W ds)) (hb : isCall0 o = false) (hs : isStar e = false) (hp : plainA es = true) (hl : es.length < 29) (line : (apos.endLine == pos.line) = true) :
    PE X (.Call (.Attribute o (lmName m) apos) (e :: es) [] pos) (tD G W (dLm m d ds)) := by
  cases m with
  | append => exact pd_lm hK PySem.F.slot_list_append PySem.F.type_list_append mr_append ho ha hb hs hp hl line
  | extend => exact pd_lm hK PySem.F.slot_list_extend PySem.F.type_list_extend mr_extend ho ha hb hs hp hl line
  | index => exact pd_lm hK PySem.F.slot_list_index PySem.F.type_list_index (mr_index hK) ho ha hb hs hp hl line
  | remove => exact pd_lm hK PySem.F.slot_list_remove PySem.F.type_list_remove (mr_remove hK hu) ho ha hb hs hp hl line
  | insert => exact pd_lm hK PySem.F.slot_list_insert PySem.F.type_list_insert mr_insert ho ha hb hs hp hl line
  | reverse => cases hm
  | pop => cases hm
theorem plain_cons {e : Expr} {es : List Expr} (h : plainA (e :: es) = true) : isStar e = false ∧ plainA es = true := by
  unfold plainA at h
  rw [List.all_cons, Bool.and_eq_true] at h
  exact ⟨by simpa using h.1, h.2⟩
def dLr (di : Dn) : Dn := fun σ h => (di σ h).bind fun y h2 => match y with
    | .int j => if inR j = true ∧ j.toNat ≤ LINE then alloc (.lst (rngV 0 j)) h2 else .no
    | _ => .no
def dLr2 (da db : Dn) : Dn := fun σ h => (da σ h).bind fun x h1 => (db σ h1).bind fun y h2 => match x, y with
    | .int i, .int j => if inR i = true ∧ inR j = true ∧ (j - i).toNat ≤ LINE then alloc (.lst (rngV i j)) h2 else .no
    | _, _ => .no
theorem rng_rel {K : PySem.W.Frag} {ρ : List Addr} {H : Hp} (i j : Int) : VRs K ρ H (rngV i j) (rgV i j) := by
  unfold rngV rgV
  generalize List.range (j - i).toNat = l
  induction l with
  | nil => exact .nil
  | cons n l ih => exact .cons (.int _) ih
theorem pd_lr {e : Expr} {d : Dn} {W : WX} {pos p1 p2 p3 : Pos} (hc : X.calm = true) (hg : Gl X "list") (hm : X.mg "list" = none) (hg2 : Gl X "range") (hm2 : X.mg "range" = none) (hs : isStar e = false) (he : PE X e (tD G W d)) :
    PE X (.Call (.Name "list" p1) [.Call (.Name "range" p2) [e] [] p3] [] pos) (tD G W (dLr d)) :=
  PE.weak (pe_listRg hc hg hm (prg_1 hg2 hm2 he (starEach_cons hs _))) fun σ H Q ⟨ρ, sp, h, sl, hr, p⟩ => ⟨ρ, sp, h, sl, hr, Post.bind p fun x h1 ρ1 H1 v _ le k hr1 rx p1 => by
    cases x with
    | int j =>
      cases VR.int_inv rx
      have p2 : Post G (fun cls e H' => W cls e σ H') ρ1 H1 (relV G) (if inR j = true ∧ j.toNat ≤ LINE then alloc (.lst (rngV 0 j)) h1 else .no) Q := p1
      split at p2
      · rename_i hj
        have q := inR_iff.mp hj.1
        have q2 := hj.2
        unfold LINE at q2
        exact ⟨j, rfl, ⟨by decide, by decide, q.1, q.2, by omega⟩, Post.newList p2 hr1 (rng_rel 0 j)⟩
      · exact False.elim p2
    | _ => exact False.elim p1⟩
theorem pd_lr2 {e e2 : Expr} {d d' : Dn} {W : WX} {pos p1 p2 p3 : Pos} (hc : X.calm = true) (hg : Gl X "list") (hm : X.mg "list" = none) (hg2 : Gl X "range") (hm2 : X.mg "range" = none) (hs : isStar e = false) (hs2 : isStar e2 = false) (he : PE X e (tD G W d)) (he2 : PE X e2 (tD G W d')) :
    PE X (.Call (.Name "list" p1) [.Call (.Name "range" p2) [e, e2] [] p3] [] pos) (tD G W (dLr2 d d')) :=
  PE.weak (pe_listRg hc hg hm (prg_2 hg2 hm2 he he2 (starEach_cons hs _) (starEach_cons hs2 _) (by rw [starEach_cons hs2]; rfl))) fun σ H Q ⟨ρ, sp, h, sl, hr, p⟩ => ⟨ρ, sp, h, sl, hr, Post.bind p fun x h1 ρ1 H1 v _ le k hr1 rx p1 => ⟨ρ1, sp, h1, sl.mono le k.toKeep, hr1, Post.bind p1 fun y h2 ρ2 H2 w _ le2 k2 hr2 ry p2 => by
    cases x with
    | int i =>
      cases y with
      | int j =>
        cases VR.int_inv rx
        cases VR.int_inv ry
        have p3 : Post G (fun cls e H' => W cls e σ H') ρ2 H2 (relV G) (if inR i = true ∧ inR j = true ∧ (j - i).toNat ≤ LINE then alloc (.lst (rngV i j)) h2 else .no) Q := p2
        split at p3
        · rename_i hj
          have q := inR_iff.mp hj.1
          have q1 := inR_iff.mp hj.2.1
          have q2 := hj.2.2
          unfold LINE at q2
          exact ⟨i, j, rfl, rfl, ⟨q.1, q.2, q1.1, q1.2, by omega⟩, Post.newList p3 hr2 (rng_rel i j)⟩
        · exact False.elim p3
      | _ => exact False.elim p2
    | _ => exact False.elim (by cases y <;> exact p2)⟩⟩
theorem pg_tgt {tg : Tg} {tge : Expr} (hK : X.K = G.K) (hc : X.calm = true) (nd : X.N.Nodup) (h : tgB X.N X.env.scope tg tge = true) : PG X tge (gT G.K tg) := by
  unfold tgB at h
  split at h
  · rw [Bool.and_eq_true] at h
    exact pg_name nd (atB_ok h.1) (.inl (lclB_ok h.2)) (.inr (lclB_ok h.2))
  · rename_i is es _ _
    rw [Bool.and_eq_true] at h
    have hl := of_decide_eq_true h.1
    have key : ∀ (is : List Nat) (es : List Expr), is.length = es.length → (is.zip es).all (fun p => match p.2 with
        | .Name x _ => atB X.N p.1 x && lclB X.env.scope x
        | _ => false) = true → PGs X es (gNames is) ∧ (assignEach es X.env).length = is.length ∧ (assignEach es X.env).findIdx? (·.1) = none := by
      intro is
      induction is with
      | nil =>
        intro es hl _
        cases es with
        | nil => exact ⟨pgs_nil, rfl, rfl⟩
        | cons _ _ => cases hl
      | cons i is ih =>
        intro es hl ha
        cases es with
        | nil => cases hl
        | cons e es =>
          rw [List.zip_cons_cons, List.all_cons, Bool.and_eq_true] at ha
          obtain ⟨g1, g2, g3⟩ := ih es (Nat.succ.inj hl) ha.2
          cases e with
          | Name x p =>
            have hx := ha.1
            simp only [Bool.and_eq_true] at hx
            refine ⟨pgs_cons (pg_name nd (atB_ok hx.1) (.inl (lclB_ok hx.2)) (.inr (lclB_ok hx.2))) g1 rfl, ?_, ?_⟩
            · show (assignEach es X.env).length + 1 = is.length + 1
              rw [g2]
            · show List.findIdx? _ ((false, _) :: assignEach es X.env) = none
              rw [List.findIdx?_cons]
              simp [g3]
          | _ => exact absurd ha.1 (by simp)
    obtain ⟨g1, g2, g3⟩ := key is es hl h.2
    rw [← hK]
    exact pg_tup hc g1 g2 g3
  · cases h
theorem notSet {e : Expr} (h : isSet e = false) (env : Env) (x : Value) : foldedSetIterable e env x = pure x := by
  cases e <;> first | rfl | cases h
end
theorem genNo {e : Expr} (h : isSet e = false) (h2 : isListD e = false) (env : Env) (x : Value) : genFold e env x = pure x := by
  cases e <;> first | rfl | (cases h; done) | (cases h2; done)
section
variable {G : Glob} {N : List Str} {rc rm : Rn}
mutual
theorem chk_ok : ∀ (m : E) {T : Tb} {X : Cx} {e : Expr} {W : WX}, CtxOk G T N rc rm X → Takes X W → chk T N m X.env.scope e = true → SE X G W e (ev G.P rc rm m)
  | .var i, T, X, e, W, C, tk, h => by
    unfold chk at h
    split at h
    · simp only [Bool.and_eq_true] at h
      obtain ⟨⟨h1, h2⟩, h3⟩ := h
      exact .of C.K (pd_var (by rw [C.N]; exact atB_ok h1) (visB_ok h2) (nameB_ok h3).1 (nameB_ok h3).2) rfl
    · cases h
  | .cst v, T, X, e, W, C, tk, h => by
    unfold chk at h
    exact .of C.K (C.cst h) (by unfold cstB at h; split at h <;> first | rfl | cases h)
  | .bin o a b, T, X, e, W, C, tk, h => by
    unfold chk at h
    split at h
    · simp only [Bool.and_eq_true] at h
      obtain ⟨⟨h1, h2⟩, h3⟩ := h
      exact .of C.K (pd_op (or_bop C.K (of_decide_eq_true h1)) (chk_ok a C tk h2).pe (chk_ok b C tk h3).pe) rfl
    · cases h
  | .neg a, T, X, e, W, C, tk, h => by
    unfold chk at h
    split at h
    · refine .of C.K (PE.weak (pe_un un_neg (chk_ok a C tk h).pe) fun σ H Q ⟨ρ, sp, h, sl, hr, p⟩ => ⟨ρ, sp, h, sl, hr, Post.bind p fun x h1 ρ1 H1 v _ le k hr1 rx p1 => ?_⟩) rfl
      cases x with
      | int i => exact ⟨i, VR.int_inv rx, Post.now (rel := relV G) p1 hr1 (.int _)⟩
      | _ => exact False.elim p1
    · cases h
  | .not a, T, X, e, W, C, tk, h => by
    unfold chk at h
    split at h
    · rw [Bool.and_eq_true] at h
      have A := chk_ok a C tk h.2
      exact ⟨pd_not C.K A.pe, fun _ => ptd_not (A.pt (by simpa using h.1)), fun b => by cases b⟩
    · cases h
  | .and a b, T, X, e, W, C, tk, h => by
    unfold chk at h
    split at h
    · simp only [Bool.and_eq_true] at h
      obtain ⟨⟨⟨h1, h2⟩, h3⟩, h4⟩ := h
      have A := chk_ok a C tk h3
      have B := chk_ok b C tk h4
      have w := pwd_and (pos := by assumption) (A.pt (by simpa using h1)) (pw_and1 (B.pt (by simpa using h2)))
      exact ⟨pd_and C.K A.pe (pe_one B.pe), fun _ => w.pt, fun _ => w⟩
    · simp only [Bool.and_eq_true] at h
      obtain ⟨⟨h1, h3⟩, h4⟩ := h
      have A := chk_ok a C tk h3
      have B := chk_ok b C tk h4
      have w := pwd_and (A.pt (by simpa using h1)) (B.pw rfl)
      exact ⟨pd_and C.K A.pe B.pe, fun _ => w.pt, fun _ => w⟩
    · cases h
  | .or a b, T, X, e, W, C, tk, h => by
    unfold chk at h
    split at h
    · simp only [Bool.and_eq_true] at h
      obtain ⟨⟨⟨h1, h2⟩, h3⟩, h4⟩ := h
      have A := chk_ok a C tk h3
      have B := chk_ok b C tk h4
      have w := pwd_or (pos := by assumption) (A.pt (by simpa using h1)) (pw_or1 (B.pt (by simpa using h2)))
      exact ⟨pd_or C.K A.pe (pe_one B.pe), fun _ => w.pt, fun _ => w⟩
    · simp only [Bool.and_eq_true] at h
      obtain ⟨⟨h1, h3⟩, h4⟩ := h
      have A := chk_ok a C tk h3
      have B := chk_ok b C tk h4
      have w := pwd_or (A.pt (by simpa using h1)) (B.pw rfl)
      exact ⟨pd_or C.K A.pe B.pe, fun _ => w.pt, fun _ => w⟩
    · cases h
  | .cmp o a b, T, X, e, W, C, tk, h => by
    unfold chk at h
    split at h
    · simp only [Bool.and_eq_true] at h
      obtain ⟨⟨⟨h1, h2⟩, h3⟩, h4⟩ := h
      have A := (chk_ok a C tk h3).pe
      have B := (chk_ok b C tk h4).pe
      have O := oc_cop C.K C.un65 (of_decide_eq_true h1)
      exact ⟨pd_cmp O A B (by simpa using h2), fun _ => pt_cmpD O A B (by simpa using h2), fun b => by cases b⟩
    · cases h
  | .chain o p a b c, T, X, e, W, C, tk, h => by
    unfold chk at h
    split at h
    · simp only [Bool.and_eq_true] at h
      obtain ⟨⟨⟨⟨⟨h1, h2⟩, h3⟩, h4⟩, h5⟩, h6⟩ := h
      have A := (chk_ok a C tk h4).pe
      have B := (chk_ok b C tk h5).pe
      have D := (chk_ok c C tk h6).pe
      have O := oc_cop C.K C.un65 (of_decide_eq_true h1)
      have O2 := oc_cop C.K C.un65 (of_decide_eq_true h2)
      exact ⟨pd_chain O O2 A B D (by simpa using h3), fun _ => ptd_chain O O2 A B D (by simpa using h3), fun b => by cases b⟩
    · cases h
  | .ite c a b, T, X, e, W, C, tk, h => by
    unfold chk at h
    split at h
    · simp only [Bool.and_eq_true] at h
      obtain ⟨⟨⟨h1, h2⟩, h3⟩, h4⟩ := h
      exact ⟨pd_ite ((chk_ok c C tk h2).pt (by simpa using h1)) (chk_ok a C tk h3).pe (chk_ok b C tk h4).pe, fun z => (by cases z), fun b => (by cases b)⟩
    · cases h
  | .tup es, T, X, e, W, C, tk, h => by
    unfold chk at h
    split at h
    · exact .of C.K (pd_tup (chks_ok es C tk h)) rfl
    · cases h
  | .lst es, T, X, e, W, C, tk, h => by
    unfold chk at h
    split at h
    · exact .of C.K (pd_lst (chks_ok es C tk h)) rfl
    · cases h
  | .dic _ _, T, X, e, W, C, tk, h => by unfold chk at h; cases h
  | .idx a i, T, X, e, W, C, tk, h => by
    unfold chk at h
    split at h
    · simp only [Bool.and_eq_true] at h
      obtain ⟨⟨h1, h2⟩, h3⟩ := h
      exact .of C.K (pd_idx C.K C.un (chk_ok a C tk h2).pe (chk_ok i C tk h3).pe (by simpa using h1)) rfl
    · cases h
  | .slc a lo hi, T, X, e, W, C, tk, h => by
    unfold chk at h
    split at h
    · simp only [Bool.and_eq_true] at h
      obtain ⟨⟨h1, h2⟩, h3⟩ := h
      exact .of C.K (pd_slc C.K (chk_ok a C tk h1).pe (chko_ok lo C tk h2) (chko_ok hi C tk h3)) rfl
    · cases h
  | .fld a f, T, X, e, W, C, tk, h => by
    unfold chk at h
    split at h
    · simp only [Bool.and_eq_true] at h
      obtain ⟨⟨h1, h2⟩, h3⟩ := h
      exact .of C.K (pd_fld C.K (by rw [C.t.nms]; exact atB_ok h1) (chk_ok a C tk h3).pe (by simpa using h2)) rfl
    · cases h
  | .call f es ds, T, X, e, W, C, tk, h => by
    unfold chk at h
    split at h
    · simp only [Bool.and_eq_true] at h
      obtain ⟨⟨⟨⟨h1, h2⟩, h3⟩, h4⟩, h5⟩ := h
      obtain ⟨j, r, F⟩ := C.cap
      obtain ⟨e1, e2, e3⟩ := C.fn h3
      have A := chks_ok es (W := W) C tk h5
      rename_i x _ args _
      cases args with
      | nil =>
        cases es with
        | nil => exact .of C.K (pd_call0 tk (F f) r (glbB_ok h1) e1 e2 e3 (nameB_ok h2).1) rfl
        | cons _ _ => unfold chks at h5; cases h5
        | star _ _ => unfold chks at h5; cases h5
      | cons y ys => exact .of C.K (pd_call tk (F f) r (glbB_ok h1) e1 e2 e3 (plain_cons h4).1 (plain_cons h4).2 (nameB_ok h2).1 A) rfl
    · cases h
  | .meth o m es, T, X, e, W, C, tk, h => by
    unfold chk at h
    split at h
    · simp only [Bool.and_eq_true] at h
      obtain ⟨⟨⟨⟨⟨⟨h1, h2⟩, h3⟩, h4⟩, h5⟩, h6⟩, h7⟩ := h
      obtain ⟨j, r, F⟩ := C.cap
      have O := (chk_ok o C tk h6).pe
      have A := chks_ok es (W := W) C tk h7
      rename_i x name _ args _
      have hn : G.mns[m]? = some name := by rw [C.t.mns]; exact atB_ok h1
      cases args with
      | nil =>
        cases es with
        | nil => exact .of C.K (pd_meth0 C.K hn C.t.mt tk F r O (by simpa using h2) h5) rfl
        | cons _ _ => unfold chks at h7; cases h7
        | star _ _ => unfold chks at h7; cases h7
      | cons y ys => exact .of C.K (pd_meth C.K hn C.t.mt tk F r O A (by simpa using h2) (plain_cons h3).1 (plain_cons h3).2 (by have := of_decide_eq_true h4; simp at this; omega) h5) rfl
    · cases h
  | .mk c es ds, T, X, e, W, C, tk, h => by
    unfold chk at h
    split at h
    · simp only [Bool.and_eq_true] at h
      obtain ⟨⟨⟨⟨h1, h2⟩, h3⟩, h4⟩, h5⟩ := h
      obtain ⟨j, r, F⟩ := C.capm
      obtain ⟨e1, f, M⟩ := C.cls h3
      have A := chks_ok es (W := W) C tk h5
      rename_i x _ args _
      cases args with
      | nil =>
        cases es with
        | nil => exact .of C.K (pd_mk0 C.K tk M (F f) r (glbB_ok h1) e1 (nameB_ok h2).1) rfl
        | cons _ _ => unfold chks at h5; cases h5
        | star _ _ => unfold chks at h5; cases h5
      | cons y ys => exact .of C.K (pd_mk C.K tk M (F f) r (glbB_ok h1) e1 (plain_cons h4).1 (plain_cons h4).2 (nameB_ok h2).1 A) rfl
    · cases h
  | .blt b es, T, X, e, W, C, tk, h => by
    unfold chk at h
    split at h
    · simp only [Bool.and_eq_true] at h
      obtain ⟨⟨⟨⟨h1, h2⟩, h3⟩, h4⟩, h5⟩ := h
      have hx := of_decide_eq_true h1
      subst hx
      exact .of C.K (pd_blt C.K C.calm (glbB_ok h2) (C.bi h3) (plain_cons h4).1 (plain_cons h4).2 (chks_ok es C tk h5)) rfl
    · cases h
  | .lm m o es, T, X, e, W, C, tk, h => by
    unfold chk at h
    split at h
    · simp only [Bool.and_eq_true] at h
      obtain ⟨⟨⟨⟨⟨⟨⟨h1, h2⟩, h3⟩, h4⟩, h5⟩, h6⟩, h7⟩, h8⟩ := h
      have hx := of_decide_eq_true h1
      subst hx
      have O := (chk_ok o C tk h7).pe
      have A := chks_ok es (W := W) C tk h8
      rename_i x _ args _
      cases args with
      | nil =>
        cases m with
        | reverse =>
          cases es with
          | nil => exact .of C.K (pd_lm0 C.K PySem.F.slot_list_reverse PySem.F.type_list_reverse mr_reverse O (by simpa using h2) h6) rfl
          | cons _ _ => unfold chks at h8; cases h8
          | star _ _ => unfold chks at h8; cases h8
        | pop =>
          cases es with
          | nil => exact .of C.K (pd_lm0 C.K PySem.F.slot_list_pop PySem.F.type_list_pop mr_pop O (by simpa using h2) h6) rfl
          | cons _ _ => unfold chks at h8; cases h8
          | star _ _ => unfold chks at h8; cases h8
        | _ => cases h5
      | cons y ys =>
        have hr : lm0B m = false := eq_of_beq h5
        exact .of C.K (lmo C.K C.un65 hr O A (by simpa using h2) (plain_cons h3).1 (plain_cons h3).2 (by have := of_decide_eq_true h4; simp at this; omega) h6) rfl
    · cases h
  | .isi a t, T, X, e, W, C, tk, h => by
    unfold chk at h
    split at h
    · simp only [Bool.and_eq_true] at h
      obtain ⟨⟨⟨⟨⟨⟨⟨h1, h2⟩, h3⟩, h4⟩, h5⟩, h6⟩, h7⟩, h8⟩ := h
      have hx := of_decide_eq_true h1
      have hy := of_decide_eq_true h2
      subst hx
      subst hy
      exact .of C.K (pd_isi C.K (glbB_ok h3) (C.bi h5) (glbB_ok h4) (C.bi h6) (by simpa using h7) (chk_ok a C tk h8).pe) rfl
    · cases h
  | .tidx l a, T, X, e, W, C, tk, h => by
    unfold chk at h
    split at h
    · simp only [Bool.and_eq_true] at h
      obtain ⟨⟨⟨⟨⟨⟨h1, h2⟩, h3⟩, h4⟩, h5⟩, h6⟩, h7⟩ := h
      have hx := of_decide_eq_true h1
      subst hx
      obtain ⟨v, u, e1, r, hv, ht⟩ := C.val h4
      obtain ⟨b, rfl, tb⟩ := ht ⟨l, rfl⟩
      have hb : v = .ref b := by
        obtain ⟨a', vs, e', _, _⟩ := (hv [] (fun _ => none)).tup_inv
        subst e'
        cases r
        rfl
      subst hb
      exact .of C.K (pd_tidx (u := .ref b) C.K (glbB_ok h2) e1 tb hv (nameB_ok h3).1 (chk_ok a C tk h7).pe (by simpa using h5) h6) rfl
    · cases h
  | .lc own tg it cnd elt, T, X, e, W, C, tk, h => by
    unfold chk at h
    split at h
    · simp only [Bool.and_eq_true] at h
      obtain ⟨⟨⟨⟨⟨⟨h1, h2⟩, h3⟩, h4⟩, h5⟩, h6⟩, h7⟩ := h
      have ok := blkOk_by h1
      rw [← C.N] at ok
      refine .of C.K ?_ rfl
      have key := pd_lc (G := G) (W := W) (tg := tg) (pos := by assumption) C.K C.calm C.nd (chki_ok it C tk h4) ok (dt := evt G.P rc rm cnd) (de := ev G.P rc rm elt)
        (fun s H Cl cl fp => pg_tgt C.K C.calm C.nd (by rw [show (X.blk s H _ (compEnvC _ cl Cl X.env) fp).N = N from C.N]; exact h5))
        (fun s H Cl cl fp => chkf_ok cnd (C.blk s H _ cl Cl fp) takesF h6)
        (fun s H Cl cl fp => (chk_ok elt (C.blk s H _ cl Cl fp) takesF h7).pe)
        (fun i hi => by
          rw [C.N, slots_own]
          have := List.all_eq_true.mp h2 i hi
          simpa using this)
        (notSet (by simpa using h3) _)
      rw [C.N, slots_own] at key
      exact key
    · cases h
  | .sortset _ _ _, T, X, e, W, C, tk, h => by unfold chk at h; cases h
  | .lenset a, T, X, e, W, C, tk, h => by
    unfold chk at h
    split at h
    · simp only [Bool.and_eq_true] at h
      obtain ⟨⟨⟨⟨⟨⟨⟨h1, h2⟩, h3⟩, h4⟩, h5⟩, h6⟩, h7⟩, h8⟩ := h
      have hx := of_decide_eq_true h1
      have hy := of_decide_eq_true h2
      subst hx
      subst hy
      exact .of C.K (pd_lenset C.K C.calm (glbB_ok h3) (C.bi h5) (glbB_ok h4) (C.bi h6) (by simpa using h7) (chk_ok a C tk h8).pe) rfl
    · cases h
  | .callk .., T, X, e, W, C, tk, h => by unfold chk at h; cases h
  | .mkk .., T, X, e, W, C, tk, h => by unfold chk at h; cases h
  | .dget .., T, X, e, W, C, tk, h => by unfold chk at h; cases h
  | .dget2 .., T, X, e, W, C, tk, h => by unfold chk at h; cases h
  | .dsetd .., T, X, e, W, C, tk, h => by unfold chk at h; cases h
  | .lrng1 a, T, X, e, W, C, tk, h => by
    unfold chk at h
    split at h
    · simp only [Bool.and_eq_true] at h
      obtain ⟨⟨⟨⟨⟨⟨⟨h1, h2⟩, h3⟩, h4⟩, h5⟩, h6⟩, h7⟩, h8⟩ := h
      have hx := of_decide_eq_true h1
      have hy := of_decide_eq_true h2
      subst hx
      subst hy
      exact .of C.K (pd_lr C.calm (glbB_ok h3) (C.bi h5) (glbB_ok h4) (C.bi h6) (by simpa using h7) (chk_ok a C tk h8).pe) rfl
    · cases h
  | .listrng a b, T, X, e, W, C, tk, h => by
    unfold chk at h
    split at h
    · simp only [Bool.and_eq_true] at h
      obtain ⟨⟨⟨⟨⟨⟨⟨⟨⟨h1, h2⟩, h3⟩, h4⟩, h5⟩, h6⟩, h7⟩, h7b⟩, h8⟩, h9⟩ := h
      have hx := of_decide_eq_true h1
      have hy := of_decide_eq_true h2
      subst hx
      subst hy
      exact .of C.K (pd_lr2 C.calm (glbB_ok h3) (C.bi h5) (glbB_ok h4) (C.bi h6) (by simpa using h7) (by simpa using h7b) (chk_ok a C tk h8).pe (chk_ok b C tk h9).pe) rfl
    · cases h
  | .all i it elt, T, X, e, W, C, tk, h => by
    unfold chk at h
    split at h
    · split at h
      · cases h
      · rename_i g hg
        simp only [Bool.and_eq_true] at h
        obtain ⟨⟨⟨⟨⟨⟨⟨h1, h2⟩, h3⟩, h4⟩, h5⟩, h6⟩, h7⟩, h8⟩ := h
        have hx := of_decide_eq_true h1
        subst hx
        obtain ⟨ok, hl⟩ := gscB_ok h7
        rcases C.gx with z | ⟨c, P, TB, hcode, hP⟩
        · rw [z] at hg; cases hg
        · obtain ⟨j, r, _⟩ := C.cap_
          exact .of C.K (pd_all C.K C.calm C.nd (r.mono (by omega)) (glbB_ok h2) (C.bi h3) TB hcode hP (chki_ok it C tk h6) (by rw [C.N]; exact ok) hl (fun s H L code bi I fp => (chk_ok elt (C.gen hg s H L code bi I fp) takesF h8).pe) (genNo (by simpa using h4) (by simpa using h5) _)) rfl
    · cases h
theorem chks_ok : ∀ (m : Es) {T : Tb} {X : Cx} {es : List Expr} {W : WX}, CtxOk G T N rc rm X → Takes X W → chks T N m X.env.scope es = true → PA X es (tDA G W (evs G.P rc rm m))
  | .nil, T, X, es, W, C, tk, h => by
    unfold chks at h
    cases es with
    | nil => exact pd_nil
    | cons _ _ => cases h
  | .cons m r, T, X, es, W, C, tk, h => by
    unfold chks at h
    split at h
    · simp only [Bool.and_eq_true] at h
      obtain ⟨⟨h1, h2⟩, h3⟩ := h
      exact pd_cons (by simpa using h1) (chk_ok m C tk h2).pe (chks_ok r C tk h3)
    · cases h
  | .star m r, T, X, es, W, C, tk, h => by
    unfold chks at h
    split at h
    · simp only [Bool.and_eq_true] at h
      exact pd_star C.K (chk_ok m C tk h.1).pe (chks_ok r C tk h.2)
    · cases h
theorem chko_ok : ∀ (m : Oe) {T : Tb} {X : Cx} {e : Option Expr} {W : WX}, CtxOk G T N rc rm X → Takes X W → chko T N m X.env.scope e = true → L2.PO X e (tDO G W (evo G.P rc rm m))
  | .none, T, X, e, W, C, tk, h => by
    unfold chko at h
    cases e with
    | none => exact pd_none
    | some _ => cases h
  | .some m, T, X, e, W, C, tk, h => by
    unfold chko at h
    split at h
    · exact pd_some (chk_ok m C tk h).pe
    · cases h
theorem chkf_ok : ∀ (m : Oe) {T : Tb} {X : Cx} {es : List Expr} {W : WX}, CtxOk G T N rc rm X → Takes X W → chkf T N m X.env.scope es = true → PTs X es (tDT G W (evt G.P rc rm m))
  | .none, T, X, e, W, C, tk, h => by
    unfold chkf at h
    cases e with
    | nil => exact ⟨fun pins s σ H Q I ⟨ρ, sp, h, sl, hr, p⟩ => pts_nil.run pins s σ H Q I (Post.now (rel := relB) p hr rfl)⟩
    | cons _ _ => cases h
  | .some m, T, X, e, W, C, tk, h => by
    unfold chkf at h
    split at h
    · rw [Bool.and_eq_true] at h
      exact pts_one ((chk_ok m C tk h.2).pt (by simpa using h.1))
    · cases h
theorem chki_ok : ∀ (m : It) {T : Tb} {X : Cx} {tg e : Expr} {W : WX}, CtxOk G T N rc rm X → Takes X W → chki T N m X.env.scope tg e = true → PI X tg e (tDI G W (evi G.P rc rm m))
  | .seq m, T, X, tg, e, W, C, tk, h => by
    unfold chki at h
    exact pdi_seq C.K (chk_ok m C tk h).pe
  | .rng1 m, T, X, tg, e, W, C, tk, h => by
    unfold chki at h
    split at h
    · simp only [Bool.and_eq_true] at h
      obtain ⟨⟨⟨⟨h1, h2⟩, h3⟩, h4⟩, h5⟩ := h
      have hx := of_decide_eq_true h1
      subst hx
      exact pdi_rng1 (glbB_ok h2) (C.bi h3) (by simpa using h4) (chk_ok m C tk h5).pe
    · cases h
  | .rng m m', T, X, tg, e, W, C, tk, h => by
    unfold chki at h
    split at h
    · simp only [Bool.and_eq_true] at h
      obtain ⟨⟨⟨⟨⟨⟨h1, h2⟩, h3⟩, h4⟩, h4b⟩, h5⟩, h6⟩ := h
      have hx := of_decide_eq_true h1
      subst hx
      exact pdi_rng2 (glbB_ok h2) (C.bi h3) (by simpa using h4) (by simpa using h4b) (chk_ok m C tk h5).pe (chk_ok m' C tk h6).pe
    · cases h
  | .enum m, T, X, tg, e, W, C, tk, h => by
    unfold chki at h
    split at h
    · split at h
      · simp only [Bool.and_eq_true] at h
        obtain ⟨⟨⟨⟨h1, h2⟩, h3⟩, h4⟩, h5⟩ := h
        have hx := of_decide_eq_true h1
        subst hx
        exact pdi_enum C.K (glbB_ok h2) (C.bi h3) (by simpa using h4) (chk_ok m C tk h5).pe
      · cases h
    · cases h
end
end
end Fx

/-! The small language's statements, each by its rule. -/
namespace Fx
open PySem PySem.Spec PyProof.Rows L2
abbrev Ds := Sl → PH → SR
section
variable (G : Glob)
/-- what is wanted behind a statement -/
def PostS (W : WX) (D : Ends) (ρ : List Addr) (H : Hp) : SR → Prop
  | .nx sp h => ∀ ρ' H' σ', Le ρ ρ' → Frm ρ H ρ' H' → HR G ρ' h H' → SlR G ρ' H' sp σ' → D.nx σ' H'
  | .bk sp h => ∀ ρ' H' σ', Le ρ ρ' → Frm ρ H ρ' H' → HR G ρ' h H' → SlR G ρ' H' sp σ' → D.bk σ' H'
  | .ct sp h => ∀ ρ' H' σ', Le ρ ρ' → Frm ρ H ρ' H' → HR G ρ' h H' → SlR G ρ' H' sp σ' → D.ct σ' H'
  | .rt p h => ∀ ρ' H' v, Le ρ ρ' → Frm ρ H ρ' H' → HR G ρ' h H' → VR G.K ρ' H' p v → D.rt v H'
  | .ex c fs sp h => ∀ ρ' H' σ' cls d, Le ρ ρ' → Frm ρ H ρ' H' → HR G ρ' h H' → SlR G ρ' H' sp σ' → ER G ρ' H' c fs cls d → W cls d σ' H'
  | .no => False
def tS (W : WX) (f : Ds) : TS := fun D σ H => ∃ ρ sp h, SlR G ρ H sp σ ∧ HR G ρ h H ∧ PostS G W D ρ H (f sp h)
end
section
variable {G : Glob} {X : Cx} {W : WX} {e o : Expr} {d dx : Dn} {ds : Da} {pos p1 p2 apos : Pos} {D : Ends} {ρ ρ1 : List Addr} {H H1 : Hp}
theorem PostS.base {r : SR} (p : PostS G W D ρ H r) (le : Le ρ ρ1) (k : Frm ρ H ρ1 H1) : PostS G W D ρ1 H1 r := by
  cases r with
  | nx sp h => exact fun ρ' H' σ' l2 k2 => p ρ' H' σ' (le.trans l2) (k.trans k2)
  | bk sp h => exact fun ρ' H' σ' l2 k2 => p ρ' H' σ' (le.trans l2) (k.trans k2)
  | ct sp h => exact fun ρ' H' σ' l2 k2 => p ρ' H' σ' (le.trans l2) (k.trans k2)
  | rt sp h => exact fun ρ' H' σ' l2 k2 => p ρ' H' σ' (le.trans l2) (k.trans k2)
  | ex c fs sp h => exact fun ρ' H' σ' cls d l2 k2 => p ρ' H' σ' cls d (le.trans l2) (k.trans k2)
  | no => exact p
/-- an expression, then the rest of the statement -/
theorem PostS.ofRes {α β : Type} {rel : List Addr → Hp → α → β → Prop} {sp : Sl} {σ : L2.St} {r : Res α} {f : α → PH → SR} {Q : β → Hp → Prop} (sl : SlR G ρ H sp σ) (p : PostS G W D ρ H (ofRes sp r f))
    (k : ∀ a h1 ρ1 H1 b, r = .ok a h1 → Le ρ ρ1 → Frm ρ H ρ1 H1 → HR G ρ1 h1 H1 → rel ρ1 H1 a b → PostS G W D ρ1 H1 (f a h1) → Q b H1) : Post G (fun cls e H' => W cls e σ H') ρ H rel r Q := by
  cases r with
  | ok a h1 => exact fun ρ1 H1 b le kp hr rl => k a h1 ρ1 H1 b rfl le kp hr rl (PostS.base (show PostS G W D ρ H (f a h1) from p) le kp)
  | exc c fs h1 => exact fun ρ1 H1 cls d le kp hr er => p ρ1 H1 σ cls d le kp hr (sl.mono le kp.toKeep) er
  | no => exact p
theorem PostS.nxt {sp : Sl} {h : PH} {σ : L2.St} (p : PostS G W D ρ H (.nx sp h)) (hr : HR G ρ h H) (sl : SlR G ρ H sp σ) : D.nx σ H := p ρ H σ (Le.refl _) (Frm.refl _ _) hr sl

theorem sd_pass : PS X (.Pass pos) (tS G W fun σ h => .nx σ h) := PS.weak ps_pass fun D σ H ⟨ρ, sp, h, sl, hr, p⟩ => PostS.nxt p hr sl
theorem sd_brk : PS X (.Break pos) (tS G W fun σ h => .bk σ h) := PS.weak ps_break fun D σ H ⟨ρ, sp, h, sl, hr, p⟩ => p ρ H σ (Le.refl _) (Frm.refl _ _) hr sl
theorem sd_cont : PS X (.Continue pos) (tS G W fun σ h => .ct σ h) := PS.weak ps_continue fun D σ H ⟨ρ, sp, h, sl, hr, p⟩ => p ρ H σ (Le.refl _) (Frm.refl _ _) hr sl
theorem sd_retN : PS X (.Return none pos) (tS G W fun _ h => .rt .non h) := PS.weak ps_retN fun D σ H ⟨ρ, sp, h, sl, hr, p⟩ => p ρ H .non (Le.refl _) (Frm.refl _ _) hr .non
theorem sd_ret (he : PE X e (tD G W d)) : PS X (.Return (some e) pos) (tS G W fun σ h => ofRes σ (d σ h) fun v h1 => .rt v h1) :=
  PS.weak (ps_ret he) fun D σ H ⟨ρ, sp, h, sl, hr, p⟩ => ⟨ρ, sp, h, sl, hr, PostS.ofRes sl p fun a h1 ρ1 H1 b _ le k hr1 rb p1 => p1 ρ1 H1 b (Le.refl _) (Frm.refl _ _) hr1 rb⟩
def isComp : Expr → Bool
  | .ListComp .. => true
  | .SetComp .. => true
  | .DictComp .. => true
  | _ => false
theorem swapNo (h : isComp e = false) (t : Option Expr) (l : Nat) (env : Env) : swapsWith e t l env = pure false := by
  cases e <;> first | rfl | cases h
theorem sd_expr (he : PE X e (tD G W d)) (hc : isComp e = false) : PS X (.Expr e pos) (tS G W fun σ h => ofRes σ (d σ h) fun _ h1 => .nx σ h1) :=
  PS.weak (ps_expr he (swapNo hc _ _ _)) fun D σ H ⟨ρ, sp, h, sl, hr, p⟩ => ⟨ρ, sp, h, sl, hr, PostS.ofRes sl p fun a h1 ρ1 H1 b _ le k hr1 rb p1 => PostS.nxt p1 hr1 (sl.mono le k.toKeep)⟩
theorem toSet {te : TE} {i : Nat} (he : ∀ σ H Q, tD G W d σ H Q → te σ H Q) : ∀ D σ H, tS G W (fun σ h => ofRes σ (d σ h) fun v h1 => .nx (σ.set i (some v)) h1) D σ H → tAsg te (gName i) D σ H := fun D σ H ⟨ρ, sp, h, sl, hr, p⟩ =>
  he _ _ _ ⟨ρ, sp, h, sl, hr, PostS.ofRes sl p fun a h1 ρ1 H1 b _ le k hr1 rb p1 => PostS.nxt p1 hr1 ((sl.mono le k.toKeep).set i rb)⟩
theorem sd_set {i : Nat} {x : Str} (nd : X.N.Nodup) (hi : X.N[i]? = some x) (hx : X.env.scope.names.lookup x = some .local) (he : PE X e (tD G W d)) (hs : swapsWith e (some (.Name x p1)) pos.line X.env = pure false) :
    PS X (.Assign [.Name x p1] e pos) (tS G W fun σ h => ofRes σ (d σ h) fun v h1 => .nx (σ.set i (some v)) h1) :=
  PS.weak (ps_set nd hi (.inl hx) he hs (.inr hx)) (toSet fun _ _ _ h => h)
/-- is name = [..] told another way? -/
def swapB (sc : Scope) (x : Str) (p : Pos) : Expr → Bool
  | .ListComp _ _ s q => (sc.kind == .function) && lclB sc x && (p.line == q.line) && !(s.names.any fun (n, k) => n == x && (k == .local || k == .cell))
  | _ => false
theorem swap_eq {el : Expr} {gs : List Comprehension} {s : Scope} {q p : Pos} {x : Str} {l : Nat} {env : Env} (hk : env.scope.kind = .function) (hl : env.scope.names.lookup x = some .local) :
    swapsWith (.ListComp el gs s q) (some (.Name x p)) l env = pure (swapB env.scope x p (.ListComp el gs s q)) := by
  have e1 : env.blockKind = .function := by unfold Env.blockKind; rw [hk]; rfl
  have e2 : lclB env.scope x = true := by unfold lclB kindB; rw [hl]
  unfold swapsWith swapB
  rw [e1, hk, e2]
  show (pure _ : Sem Bool) = pure _
  congr 1
  simp [Env.kindOf, hl]
  rfl
theorem sd_setLc {i : Nat} {x : Str} {tg : Tg} {tge iter elt : Expr} {ifs : List Expr} {scope : Scope} {own : List (Str × Nat)} {di : Sl → PH → Res Src} {dt : Dt} {de : Dn} (hc : X.calm = true) (nd : X.N.Nodup) (hi : X.N[i]? = some x) (hx : X.env.scope.names.lookup x = some .local)
    (hs : swapsWith (.ListComp elt [⟨tge, iter, ifs, 0⟩] scope p2) (some (.Name x p1)) pos.line X.env = pure true) (hit : PI X tge iter (tDI G W di)) (ok : BlkOk X.N X.env.scope scope own)
    (hg : ∀ (s : Shared) (H : Hp) (C : Addr) (cl : List (Str × Addr)) (fp : List Addr), PG (X.blk s H scope (compEnvC scope cl C X.env) fp) tge (gT G.K tg))
    (ht : ∀ (s : Shared) (H : Hp) (C : Addr) (cl : List (Str × Addr)) (fp : List Addr), PTs (X.blk s H scope (compEnvC scope cl C X.env) fp) ifs (tDT G WF dt))
    (he : ∀ (s : Shared) (H : Hp) (C : Addr) (cl : List (Str × Addr)) (fp : List Addr), PE (X.blk s H scope (compEnvC scope cl C X.env) fp) elt (tD G WF de))
    (ho : ∀ i ∈ tgSlots tg, i ∈ slots own) (hf : ∀ x, foldedSetIterable iter X.env x = pure x) :
    PS X (.Assign [.Name x p1] (.ListComp elt [⟨tge, iter, ifs, 0⟩] scope p2) pos) (tS G W fun σ h => ofRes σ (dLc (slots own) tg di dt de σ h) fun v h1 => .nx (σ.set i (some v)) h1) :=
  PS.weak (ps_setLc hc nd hi hx hs hit ok hg ht he hf) (toSet (toLc ho))
theorem sd_if {c : Expr} {a b : List Stmt} {dc : Dn} {da db : Ds} (hc : PT X c (tDT G W (dT dc))) (ha : PSs X a (tS G W da)) (hb : PSs X b (tS G W db)) :
    PS X (.If c a b pos) (tS G W fun σ h => ofRes σ (tru (dc σ h)) fun t h1 => if t = true then da σ h1 else db σ h1) :=
  PS.weak (ps_if hc ha hb) fun D σ H ⟨ρ, sp, h, sl, hr, p⟩ => ⟨ρ, sp, h, sl, hr, PostS.ofRes (rel := relB) sl p fun t h1 ρ1 H1 b _ le k hr1 rb p1 => by
    cases (show t = b from rb)
    cases t with
    | true => exact ⟨ρ1, sp, h1, sl.mono le k.toKeep, hr1, p1⟩
    | false => exact ⟨ρ1, sp, h1, sl.mono le k.toKeep, hr1, p1⟩⟩
theorem ssd_nil : PSs X [] (tS G W fun σ h => .nx σ h) := PSs.weak pss_nil fun D σ H ⟨ρ, sp, h, sl, hr, p⟩ => PostS.nxt p hr sl
theorem ssd_cons {s : Stmt} {r : List Stmt} {f g : Ds} (hs : PS X s (tS G W f)) (hr : PSs X r (tS G W g)) : PSs X (s :: r) (tS G W fun σ h => (f σ h).seq fun σ1 h1 => g σ1 h1) :=
  PSs.weak (pss_cons hs hr) fun D σ H ⟨ρ, sp, h, sl, hr, p⟩ => ⟨ρ, sp, h, sl, hr, by
    have p' : PostS G W D ρ H ((f sp h).seq fun σ1 h1 => g σ1 h1) := p
    cases q : f sp h with
    | nx sp1 h1 =>
      rw [q] at p'
      exact fun ρ1 H1 σ1 le k hr1 sl1 => ⟨ρ1, sp1, h1, sl1, hr1, PostS.base (show PostS G W D ρ H (g sp1 h1) from p') le k⟩
    | _ => rw [q] at p'; exact p'⟩
/-- a, b, .. = e -/
theorem sd_tset {is : List Nat} {te : Expr} (hK : X.K = G.K) (hc : X.calm = true) (nd : X.N.Nodup) (ht : tgB X.N X.env.scope (.names is) te = true) (he : PE X e (tD G W d)) (hcm : isComp e = false) (hsw : swappedStores [te] e X.env = pure none) :
    PS X (.Assign [te] e pos) (tS G W fun σ h => ofRes σ (d σ h) fun v h1 => match v with
    | .tup l => match setAll is l σ with
      | some σ1 => .nx σ1 h1
      | none => .no
    | _ => .no) := by
  have hg := pg_tgt hK hc nd ht
  obtain ⟨es, kk, pp, rfl⟩ : ∃ es kk pp, te = .Tuple es kk pp := by
    cases te <;> first | exact ⟨_, _, _, rfl⟩ | (cases ht)
  refine PS.weak (ps_asg he hg (by unfold swapsWithSole; exact swapNo hcm _ _ _) hsw rfl) fun D σ H ⟨ρ, sp, h, sl, hr, p⟩ => ⟨ρ, sp, h, sl, hr, PostS.ofRes sl p fun a h1 ρ1 H1 b _ le k hr1 rb p1 => ?_⟩
  cases a with
  | tup l =>
    have p2 : PostS G W D ρ1 H1 (match setAll is l sp with | some σ1 => .nx σ1 h1 | none => .no) := p1
    split at p2
    · rename_i sp1 es1
      obtain ⟨σ', h1', _, h3⟩ := gT_ok (tg := .names is) (p := .tup l) (own := is) es1 (sl.mono le k.toKeep) rb (fun i hi => hi)
      exact h3 _ (PostS.nxt p2 hr1 h1')
    · exact False.elim p2
  | _ => exact False.elim p1
/-- o.f = e -/
theorem swapAttr {o v : Expr} {f : Str} {p : Pos} {l : Nat} {env : Env} : swapsWith v (some (.Attribute o f p)) l env = pure false := by
  unfold swapsWith
  split <;> rfl
theorem put_rel {K : PySem.W.Frag} {C : Addr} {f : Nat} {name : Str} {p : PV} {v : V} (hn : G.nms[f]? = some name) (na : NoAttr K C name) (r : VR K ρ H p v) : ∀ {fs : List (Nat × PV)} {ws : List (Str × V)}, KVR (fun f name => G.nms[f]? = some name ∧ NoAttr K C name) K ρ H fs ws →
    KVR (fun f name => G.nms[f]? = some name ∧ NoAttr K C name) K ρ H (putFP f p fs) (putF name v ws) ∧ ws.length = fs.length
  | [], _, .nil => ⟨.cons ⟨⟨hn, na⟩, r⟩ .nil, rfl⟩
  | (g, q) :: fs, (n2, w) :: ws, .cons a t => by
    obtain ⟨h1, h2⟩ := put_rel hn na r t
    refine ⟨?_, by simp [h2]⟩
    unfold putFP putF
    by_cases hg : g = f
    · subst hg
      have e1 : G.nms[g]? = some n2 := a.1.1
      rw [hn] at e1
      cases e1
      rw [if_pos rfl, if_pos (by simp)]
      exact .cons ⟨⟨hn, na⟩, r⟩ t
    · have hne : n2 ≠ name := fun z => hg (by
        subst z
        have e1 : G.nms[g]? = some n2 := a.1.1
        obtain ⟨l1, q1⟩ := List.getElem?_eq_some_iff.mp hn
        obtain ⟨l2, q2⟩ := List.getElem?_eq_some_iff.mp e1
        exact ((List.getElem_inj G.nd).mp (q1.trans q2.symm)).symm)
      rw [if_neg hg, if_neg (by simpa using hne)]
      exact .cons a h1
/-- what may be a field of which class -/
def FlOk (G : Glob) (K : PySem.W.Frag) : Prop := ∀ c f, G.P.fl c f = true → ∀ name, G.nms[f]? = some name → NoAttr K (G.cm c) name
theorem sd_fset {f : Nat} {name : Str} (hK : X.K = G.K) (hn : G.nms[f]? = some name) (fl : FlOk G G.K) (ho : PE X o (tD G W dx)) (he : PE X e (tD G W d)) :
    PS X (.Assign [.Attribute o name p1] e pos) (tS G W fun σ h => ofRes σ (d σ h) fun v h1 => ofRes σ (dx σ h1) fun x h2 => match setFld G.P x f v h2 with
    | some h3 => .nx σ h3
    | none => .no) :=
  PS.weak (ps_fld ho he swapAttr) fun D σ H ⟨ρ, sp, h, sl, hr, p⟩ => ⟨ρ, sp, h, sl, hr, PostS.ofRes sl p fun y h1 ρ1 H1 v _ le k hr1 ry p1 => ⟨ρ1, sp, h1, sl.mono le k.toKeep, hr1, PostS.ofRes (sl.mono le k.toKeep) p1 fun x h2 ρ2 H2 w _ le2 k2 hr2 rx p2 => by
    split at p2
    · rename_i h3 e3
      unfold setFld at e3
      split at e3
      · rename_i n
        obtain ⟨a, rfl, ea⟩ := VR.ref_inv rx
        split at e3
        · rename_i c fs en
          split at e3
          · rename_i hh
            cases e3
            obtain ⟨dxx, ws, h4, hc, rr⟩ := hr2.at_ en ea
            have na := fl c f hh.2 name hn
            have ry2 := VR.mono le2 k2.toKeep ry
            obtain ⟨r5, hl⟩ := put_rel hn na ry2 rr
            have sf : Soft (H2 a) := by rw [h4]; trivial
            have kp : Keep H2 (upd H2 a (.ins (G.cm c) dxx (putF name v ws))) := .upd sf
            refine ⟨a, G.cm c, dxx, ws, rfl, h4, by rw [hK]; exact hc, by rw [hK]; exact na, by rw [hl]; omega, ?_⟩
            exact p2 ρ2 _ σ (Le.refl _) (Frm.write (List.mem_of_getElem? ea) sf) (hr2.set en ea sf ⟨dxx, _, upd_same, hc, r5.mono (Le.refl _) kp⟩) (((sl.mono le k.toKeep).mono le2 k2.toKeep).mono (Le.refl _) kp)
          · cases e3
        · cases e3
      · cases e3
    · exact False.elim p2⟩⟩

/-! ### loops -/
theorem loopF_stop {body : PV → Sl → PH → SR} {s : Src} {n i : Nat} {sp : Sl} {h : PH} (e : nxt s i h = some none) : loopF body s n i sp h = .nx sp h := by
  cases n <;> (unfold loopF; rw [e])
theorem sd_for {tg : Tg} {tge iter : Expr} {body : List Stmt} {di : Sl → PH → Res Src} {db : Ds} (hK : X.K = G.K) (hp : PassesOwn (model X.prog X.w) X.A X.env X.xe) (hc : X.calm = true) (nd : X.N.Nodup) (hi : PI X tge iter (tDI G W di)) (ht : tgB X.N X.env.scope tg tge = true) (hb : PSs X body (tS G W db))
    (hs : isSet iter = false) : PS X (.For tge iter body [] pos) (tS G W fun σ h => ofRes σ (di σ h) fun s h1 => loopF (fun x σ' h' => match bindT tg x σ' with
      | some σ2 => db σ2 h'
      | none => .no) s (fuelOf s h1) 0 σ h1) := by
  refine PS.weak (ps_for hp hc hi (pg_tgt hK hc nd ht) hb (notSet hs _)) fun D σ H ⟨ρ, sp, h, sl, hr, p⟩ => ⟨ρ, sp, h, sl, hr, PostS.ofRes (rel := ItR G) sl p fun s h1 ρ1 H1 J _ le k hr1 itr p1 => ?_⟩
  generalize hbody : (fun x σ' h' => match bindT tg x σ' with
      | some σ2 => db σ2 h'
      | none => SR.no) = body' at p1
  refine ⟨fun i m σ2 H2 => ∃ ρ2 sp2 h2, Le ρ1 ρ2 ∧ Frm ρ1 H1 ρ2 H2 ∧ HR G ρ2 h2 H2 ∧ SlR G ρ2 H2 sp2 σ2 ∧ PostS G W D ρ1 H1 (loopF body' s m i sp2 h2), ⟨_, ρ1, sp, h1, Le.refl _, Frm.refl _ _, hr1, sl.mono le k.toKeep, p1⟩, fun i m σ2 H2 ⟨ρ2, sp2, h2, le2, k2, hr2, sl2, p2⟩ => ?_⟩
  have it2 := itr ρ2 H2 h2 i le2 k2 hr2
  cases e1 : nxt s i h2 with
  | none => cases m <;> (unfold loopF at p2; rw [e1] at p2; exact False.elim p2)
  | some q =>
    cases q with
    | none =>
      rw [loopF_stop e1] at p2
      exact .inl ⟨it2.1 e1, p2 ρ2 H2 σ2 le2 k2 hr2 sl2⟩
    | some x =>
      cases m with
      | zero => unfold loopF at p2; rw [e1] at p2; exact False.elim p2
      | succ m =>
        obtain ⟨go, yl⟩ := it2.2 x e1
        refine .inr ⟨go, _, fun σ' H' w => ⟨m, Nat.lt_succ_self m, w⟩, fun v H3 hy => ?_⟩
        obtain ⟨k3, hr3, rv⟩ := yl v H3 hy
        unfold loopF at p2
        rw [e1] at p2
        subst hbody
        have p3 : PostS G W D ρ1 H1 (match (match bindT tg x sp2 with | some σ2 => db σ2 h2 | none => SR.no) with
          | .nx σ1 h1 => loopF _ s m (i + 1) σ1 h1
          | .ct σ1 h1 => loopF _ s m (i + 1) σ1 h1
          | .bk σ1 h1 => .nx σ1 h1
          | r => r) := p2
        cases eb : bindT tg x sp2 with
        | none => rw [eb] at p3; exact False.elim p3
        | some sp' =>
          rw [eb] at p3
          obtain ⟨σ', sl', _, hgt⟩ := gT_ok (own := tgSlots tg) eb (sl2.mono (Le.refl _) k3.toKeep) rv (fun i hi => hi)
          refine hgt _ ⟨ρ2, sp', h2, sl', hr3, ?_⟩
          have k13 := k2.trans k3
          cases ed : db sp' h2 with
          | nx sp4 h4 =>
            simp only [ed] at p3
            exact fun ρ4 H4 σ4 le4 k4 hr4 sl4 => ⟨ρ4, sp4, h4, le2.trans le4, k13.trans k4, hr4, sl4, p3⟩
          | ct sp4 h4 =>
            simp only [ed] at p3
            exact fun ρ4 H4 σ4 le4 k4 hr4 sl4 => ⟨ρ4, sp4, h4, le2.trans le4, k13.trans k4, hr4, sl4, p3⟩
          | bk sp4 h4 =>
            simp only [ed] at p3
            exact fun ρ4 H4 σ4 le4 k4 hr4 sl4 => p3 ρ4 H4 σ4 (le2.trans le4) (k13.trans k4) hr4 sl4
          | rt v4 h4 =>
            simp only [ed] at p3
            exact fun ρ4 H4 σ4 le4 k4 => p3 ρ4 H4 σ4 (le2.trans le4) (k13.trans k4)
          | ex c fs sp4 h4 =>
            simp only [ed] at p3
            exact fun ρ4 H4 σ4 cls d le4 k4 => p3 ρ4 H4 σ4 cls d (le2.trans le4) (k13.trans k4)
          | no => simp only [ed] at p3; exact False.elim p3
/-- while, by its test -/
theorem sd_whl {c : Expr} {body : List Stmt} {dc : Dn} {db : Ds} (hp : PassesOwn (model X.prog X.w) X.A X.env X.xe) (hc : PT X c (tDT G W (dT dc))) (hb : PSs X body (tS G W db)) :
    PS X (.While c body [] pos) (tS G W fun σ h => loopW (fun σ' h' => ofRes σ' (tru (dc σ' h')) fun t h1 => if t = true then db σ' h1 else .bk σ' h1) FUEL σ h) := by
  refine PS.weak (ps_while hp hc hb) fun D σ H ⟨ρ, sp, h, sl, hr, p⟩ => ?_
  generalize FUEL = fuel at p
  generalize htest : (fun σ' h' => ofRes σ' (tru (dc σ' h')) fun t h1 => if t = true then db σ' h1 else SR.bk σ' h1) = test at p
  refine ⟨fun m σ2 H2 => ∃ ρ2 sp2 h2, Le ρ ρ2 ∧ Frm ρ H ρ2 H2 ∧ HR G ρ2 h2 H2 ∧ SlR G ρ2 H2 sp2 σ2 ∧ PostS G W D ρ H (loopW test m sp2 h2), ⟨fuel, ρ, sp, h, Le.refl _, Frm.refl _ _, hr, sl, p⟩, fun m σ2 H2 ⟨ρ2, sp2, h2, le2, k2, hr2, sl2, p2⟩ => ?_⟩
  cases m with
  | zero => exact False.elim p2
  | succ m =>
    refine ⟨ρ2, sp2, h2, sl2, hr2, ?_⟩
    have p3 : PostS G W D ρ H (match test sp2 h2 with
      | .nx σ1 h1 => loopW test m σ1 h1
      | .ct σ1 h1 => loopW test m σ1 h1
      | .bk σ1 h1 => .nx σ1 h1
      | r => r) := p2
    have et : test sp2 h2 = ofRes sp2 (dT dc sp2 h2) fun t h1 => if t = true then db sp2 h1 else .bk sp2 h1 := by subst htest; rfl
    rw [et] at p3
    cases eq : dT dc sp2 h2 with
    | no => rw [eq] at p3; exact False.elim p3
    | exc c fs h3 =>
      rw [eq] at p3
      exact fun ρ' H' cls d le' k' hr' er => p3 ρ' H' σ2 cls d (le2.trans le') (k2.trans k') hr' (sl2.mono le' k'.toKeep) er
    | ok t h3 =>
      rw [eq] at p3
      intro ρ3 H3 b le3 k3 hr3 rb
      cases (show t = b from rb)
      cases t with
      | false => exact p3 ρ3 H3 σ2 (le2.trans le3) (k2.trans k3) hr3 (sl2.mono le3 k3.toKeep)
      | true =>
        rw [if_pos rfl]
        refine ⟨_, fun σ' H' w => ⟨m, Nat.lt_succ_self m, w⟩, ρ3, sp2, h3, sl2.mono le3 k3.toKeep, hr3, ?_⟩
        have p4 : PostS G W D ρ H (match db sp2 h3 with
          | .nx σ1 h1 => loopW test m σ1 h1
          | .ct σ1 h1 => loopW test m σ1 h1
          | .bk σ1 h1 => .nx σ1 h1
          | r => r) := p3
        have k13 := k2.trans k3
        have le13 := le2.trans le3
        cases ed : db sp2 h3 with
        | nx sp4 h4 =>
          simp only [ed] at p4
          exact fun ρ4 H4 σ4 le4 k4 hr4 sl4 => ⟨ρ4, sp4, h4, le13.trans le4, k13.trans k4, hr4, sl4, p4⟩
        | ct sp4 h4 =>
          simp only [ed] at p4
          exact fun ρ4 H4 σ4 le4 k4 hr4 sl4 => ⟨ρ4, sp4, h4, le13.trans le4, k13.trans k4, hr4, sl4, p4⟩
        | bk sp4 h4 =>
          simp only [ed] at p4
          exact fun ρ4 H4 σ4 le4 k4 hr4 sl4 => p4 ρ4 H4 σ4 (le13.trans le4) (k13.trans k4) hr4 sl4
        | rt v4 h4 =>
          simp only [ed] at p4
          exact fun ρ4 H4 σ4 le4 k4 => p4 ρ4 H4 σ4 (le13.trans le4) (k13.trans k4)
        | ex c fs sp4 h4 =>
          simp only [ed] at p4
          exact fun ρ4 H4 σ4 cls d le4 k4 => p4 ρ4 H4 σ4 cls d (le13.trans le4) (k13.trans k4)
        | no => simp only [ed] at p4; exact False.elim p4
end
end Fx

/-! match. -/
namespace Fx
open PySem PySem.Spec PyProof.Rows L2
def chkp (T : Tb) (N : List Str) (sc : Scope) (q : P1) (pat : Pattern) : Bool := match q, pat with
  | .wild, .MatchAs none none _ => true
  | .cap i, .MatchAs none (some x) _ => atB N i x && lclB sc x
  | .val v, .MatchValue e _ => cstB T sc v e
  | _, _ => false
def chkps (T : Tb) (N : List Str) (sc : Scope) : List P1 → List Pattern → Bool
  | [], [] => true
  | q :: qs, p :: ps => chkp T N sc q p && chkps T N sc qs ps
  | _, _ => false
def chkm (T : Tb) (N : List Str) (sc : Scope) (q : Pt) (pat : Pattern) : Bool := match q, pat with
  | .atom q, pat => chkp T N sc q pat
  | .seq qs, .MatchSequence ps _ => chkps T N sc qs ps && (ps.findIdx? (·.isStar)).isNone && !(ps.all fun p => p.isWildcard || (p.isStar && p.names.isEmpty))
  | _, _ => false
section
variable {G : Glob} {T : Tb} {N : List Str} {rc rm : Rn} {X : Cx} {W : WX} {pins : List (Addr × Obj)} {σ : L2.St} {H : Hp} {s : Shared} {ρ : List Addr} {sp : Sl} {h : PH}
theorem paired_app {α β : Type} {F : α → β → Prop} : ∀ {a : List α} {b : List β} {c : List α} {d : List β}, Paired F a b → Paired F c d → Paired F (a ++ c) (b ++ d)
  | _, _, _, _, .nil, y => y
  | _, _, _, _, .cons h t, y => .cons h (paired_app t y)
/-- what is bound -/
def MRel (G : Glob) (X : Cx) (ρ : List Addr) (H : Hp) : Option (List (Nat × PV)) → Option (List (Str × Value)) → Prop
  | none, none => True
  | some bs, some cs => Paired (fun p q => X.N[p.1]? = some q.1 ∧ X.env.scope.names.lookup q.1 = some .local ∧ ∃ v, L2.RelV v q.2 ∧ VR G.K ρ H p.2 v) bs cs
  | _, _ => False
def MEnd (G : Glob) (X : Cx) (pins : List (Addr × Obj)) (σ : L2.St) (h : PH) (ρ : List Addr) (H : Hp) (r : Option (List (Nat × PV))) (res : Option (List (Str × Value))) (s' : Shared) : Prop :=
  ∃ ρ' H', Le ρ ρ' ∧ Frm ρ H ρ' H' ∧ HR G ρ' h H' ∧ Inv X pins σ H' s' ∧ MRel G X ρ' H' r res
theorem m1_ok {p : PV} {x : V} {u : Value} {q : P1} {pat : Pattern} {r : Option (List (Nat × PV))} (C : CtxOk G T N rc rm X) (sl : SlR G ρ H sp σ) (hr : HR G ρ h H) (rv : VR G.K ρ H p x) (ru : L2.RelV x u) (I : Inv X pins σ H s) (hc : chkp T N X.env.scope q pat = true) (e : m1 q p = some r) :
    wpAny (model X.prog X.w) X.A (matchPattern pat X.env u) (MEnd G X pins σ h ρ H r) X.xe s := by
  unfold chkp at hc
  split at hc
  · cases e
    exact wpAny_matchPattern_Capture ⟨ρ, H, Le.refl _, Frm.refl _ _, hr, I, .nil⟩
  · cases e
    rw [Bool.and_eq_true] at hc
    refine wpAny_matchPattern_Capture ⟨ρ, H, Le.refl _, Frm.refl _ _, hr, I, .cons ⟨?_, lclB_ok hc.2, x, ru, rv⟩ .nil⟩
    rw [C.N]
    exact atB_ok hc.1
  · rename_i v ve pos
    obtain ⟨b, eb, er⟩ := Option.map_eq_some_iff.mp e
    refine wpAny_matchPattern_Value (thn ((C.cst hc (W := WF)).run pins s σ H (fun y H1 => ∃ ρ1, Le ρ ρ1 ∧ Frm ρ H ρ1 H1 ∧ HR G ρ1 h H1 ∧ VR G.K ρ1 H1 v y) I ⟨ρ, sp, h, sl, hr, fun ρ1 H1 b le k hr1 rb => ⟨ρ1, le, k, hr1, rb⟩⟩) fun w s1 ⟨y, H1, I1, rw', ρ1, le, k, hr1, rb⟩ => ?_)
    obtain ⟨e1, e2⟩ := eqS_rel (VR.mono le k.toKeep rv) rb eb
    refine thn (op_eq pins s1 σ H1 x y u w (fun z H2 => z = .bl b ∧ H2 = H1) I1 ru rw' ⟨e1, by rw [e2], rfl⟩) fun z s2 ⟨zv, H2, I2, rz, ez, eH⟩ => ?_
    subst ez; subst eH
    cases rz
    refine wpAny_truthy_bool ?_
    subst er
    cases b with
    | true => exact ⟨ρ1, H2, le, k, hr1, I2, .nil⟩
    | false => exact ⟨ρ1, H2, le, k, hr1, I2, trivial⟩
  · cases hc
theorem chkp_star {q : P1} {pat : Pattern} {sc : Scope} (hc : chkp T N sc q pat = true) : pat.isStar = false := by
  unfold chkp at hc
  split at hc <;> first | rfl | cases hc
theorem mEach_ok (C : CtxOk G T N rc rm X) : ∀ {qs : List P1} {pats : List Pattern} {l : List PV} {vs : List V} {us : List Value} {r : Option (List (Nat × PV))} {ρ : List Addr} {H : Hp} {s : Shared}, SlR G ρ H sp σ → HR G ρ h H → VRs G.K ρ H l vs → Vals vs us → Inv X pins σ H s →
    chkps T N X.env.scope qs pats = true → mEach qs l = some r → wpAny (model X.prog X.w) X.A (matchEach pats X.env us) (MEnd G X pins σ h ρ H r) X.xe s
  | [], [], l, vs, us, r, ρ, H, s, sl, hr, rs, ru, I, hc, e => by
    cases l with
    | nil => cases e; exact wpAny_matchEach_nil ⟨ρ, H, Le.refl _, Frm.refl _ _, hr, I, .nil⟩
    | cons _ _ => cases e
  | [], _ :: _, _, _, _, _, _, _, _, _, _, _, _, _, hc, _ => by cases hc
  | _ :: _, [], _, _, _, _, _, _, _, _, _, _, _, _, hc, _ => by cases hc
  | q :: qs, pat :: pats, l, vs, us, r, ρ, H, s, sl, hr, rs, ru, I, hc, e => by
    have hc' : (chkp T N X.env.scope q pat && chkps T N X.env.scope qs pats) = true := hc
    rw [Bool.and_eq_true] at hc'
    cases l with
    | nil => cases e
    | cons p l =>
      obtain ⟨v, vs, rfl, rv, rs⟩ := rs.cons_inv
      cases ru with
      | @cons _ u _ us ru rus =>
        unfold mEach at e
        cases e1 : m1 q p with
        | none => rw [e1] at e; cases e
        | some r1 =>
          rw [e1] at e
          refine wpAny_matchEach_cons (thn (m1_ok C sl hr rv ru I hc'.1 e1) fun res s1 ⟨ρ1, H1, le, k, hr1, I1, mr⟩ => ?_) (chkp_star hc'.1)
          cases r1 with
          | none =>
            cases e
            cases res with
            | none => exact ⟨ρ1, H1, le, k, hr1, I1, trivial⟩
            | some cs => exact False.elim mr
          | some bs =>
            cases res with
            | none => exact False.elim mr
            | some cs =>
              have mr' : Paired _ bs cs := mr
              cases e2 : mEach qs l with
              | none => simp only [e2] at e; cases e
              | some r2 =>
                simp only [e2] at e
                refine thn (mEach_ok C (sl.mono le k.toKeep) hr1 (VRs.mono le k.toKeep rs) rus I1 hc'.2 e2) fun res2 s2 ⟨ρ2, H2, le2, k2, hr2, I2, mr2⟩ => ?_
                cases r2 with
                | none =>
                  cases e
                  cases res2 with
                  | none => exact ⟨ρ2, H2, le.trans le2, k.trans k2, hr2, I2, trivial⟩
                  | some _ => exact False.elim mr2
                | some ms =>
                  cases e
                  cases res2 with
                  | none => exact False.elim mr2
                  | some cs2 =>
                    refine ⟨ρ2, H2, le.trans le2, k.trans k2, hr2, I2, ?_⟩
                    have m2 : Paired _ ms cs2 := mr2
                    have m1' := Paired.mapP mr' fun p q (hh : X.N[p.1]? = some q.1 ∧ X.env.scope.names.lookup q.1 = some .local ∧ ∃ v, L2.RelV v q.2 ∧ VR G.K ρ1 H1 p.2 v) =>
                      (⟨hh.1, hh.2.1, hh.2.2.elim fun v hv => ⟨v, hv.1, VR.mono le2 k2.toKeep hv.2⟩⟩ : X.N[p.1]? = some q.1 ∧ X.env.scope.names.lookup q.1 = some .local ∧ ∃ v, L2.RelV v q.2 ∧ VR G.K ρ2 H2 p.2 v)
                    exact paired_app m1' m2
theorem mt_ok {p : PV} {x : V} {u : Value} {q : Pt} {pat : Pattern} {r : Option (List (Nat × PV))} (C : CtxOk G T N rc rm X) (sl : SlR G ρ H sp σ) (hr : HR G ρ h H) (rv : VR G.K ρ H p x) (ru : L2.RelV x u) (I : Inv X pins σ H s) (hc : chkm T N X.env.scope q pat = true) (e : mtch q p = some r) :
    wpAny (model X.prog X.w) X.A (matchPattern pat X.env u) (MEnd G X pins σ h ρ H r) X.xe s := by
  unfold chkm at hc
  split at hc
  · exact m1_ok C sl hr rv ru I hc e
  · rename_i qs ps pos
    simp only [Bool.and_eq_true] at hc
    obtain ⟨⟨h1, h2⟩, h3⟩ := hc
    have hst : ps.findIdx? (·.isStar) = none := by simpa using h2
    have hwl : (ps.all fun p => p.isWildcard || (p.isStar && p.names.isEmpty)) = false := by simpa using h3
    have hlen : ∀ {qs : List P1} {ps : List Pattern}, chkps T N X.env.scope qs ps = true → qs.length = ps.length := by
      intro qs
      induction qs with
      | nil => intro ps hh; cases ps with
        | nil => rfl
        | cons _ _ => cases hh
      | cons a qs ih => intro ps hh; cases ps with
        | nil => cases hh
        | cons b ps =>
          have hh' : (chkp T N X.env.scope a b && chkps T N X.env.scope qs ps) = true := hh
          rw [Bool.and_eq_true] at hh'
          simp [ih hh'.2]
    have hl := hlen h1
    cases rv with
    | @tup l a vs sq rs =>
      cases ru
      obtain ⟨its, rvs, ht, hz⟩ := I.tuple (C.K ▸ sq)
      have hn := line63
      have hi : its.length = l.length := by rw [rs.length, rvs.length]
      have fit : (its.toArray.size : Int) < 2 ^ 63 := by rw [List.size_toArray, hi, rs.length]; omega
      have e' : (if l.length = qs.length then mEach qs l else some none) = some r := e
      split at e'
      · rename_i hq
        refine matchSeq_tuple_hit ht fit (by rw [List.size_toArray, hi, hq, hl]) ?_ hst hwl
        have sz : ps.length = its.toArray.size := by rw [List.size_toArray, hi, hq, hl]
        rw [sz]
        refine unpackItems_tuple (I.ok.hd C.calm) ht fun h' hx => ?_
        have I1 : Inv X pins σ H { s with heap := h', toks := s.toks + 1 + 1 } := I.kept fun b o e => hx b o (Nat.ne_of_lt (Heap.lt_size e)) e
        exact mEach_ok C sl hr rs (by simpa using rvs) I1 h1 e'
      · rename_i hq
        cases e'
        exact matchSeq_tuple_miss ht fit (by rw [List.size_toArray, hi, ← hl]; exact hq) ⟨ρ, H, Le.refl _, Frm.refl _ _, hr, I.kept fun _ _ e => e, trivial⟩ hst hwl
    | _ => cases e
  · cases hc
/-- the names of a pattern are bound -/
theorem binds_ok (C : CtxOk G T N rc rm X) {Q : Unit → Shared → Prop} {E : Value → Shared → Prop} : ∀ {bs : List (Nat × PV)} {cs : List (Str × Value)} {sp : Sl} {σ : L2.St} {s : Shared}, MRel G X ρ H (some bs) (some cs) → SlR G ρ H sp σ → Inv X pins σ H s →
    (∀ σ' s', SlR G ρ H (bindAll bs sp) σ' → Inv X pins σ' H s' → Q () s') → wpAny (model X.prog X.w) X.A (assignInOrder (cs.map fun (n, _) => bindName X.env n) (cs.map (·.2))) Q E s
  | [], [], sp, σ, s, m, sl, I, q => wpAny_assignInOrder_none (q σ s sl I)
  | [], _ :: _, sp, σ, s, m, sl, I, q => by cases (show Paired _ _ _ from m)
  | _ :: _, [], sp, σ, s, m, sl, I, q => by cases (show Paired _ _ _ from m)
  | b :: bs, c :: cs, sp, σ, s, m, sl, I, q => by
    have m' : Paired _ (b :: bs) (c :: cs) := m
    cases m' with
    | cons hh t =>
      obtain ⟨h1, h2, v, ru, rv⟩ := hh
      refine wpAny_assignInOrder_more (wpAny_bindName (store_ok I C.nd h1 (.inl h2) ru (fun s' I' => ?_) (.inr h2)))
      exact binds_ok C (bs := bs) (cs := cs) t (sl.set b.1 rv) I' q
/-- the cases of a match, of a value -/
structure PCs (G : Glob) (W : WX) (X : Cx) (cases : List MatchCase) (f : PV → Ds) : Prop where
  run : ∀ (pins : List (Addr × Obj)) (s : Shared) (σ : L2.St) (H : Hp) (D : Ends) (ρ : List Addr) (sp : Sl) (h : PH) (p : PV) (x : V) (u : Value) (first : Bool), Inv X pins σ H s → SlR G ρ H sp σ → HR G ρ h H → VR G.K ρ H p x → L2.RelV x u → PostS G W D ρ H (f p sp h) →
    wpAny (model X.prog X.w) X.A (matchCases cases X.env u first) (SP X pins D) X.xe s
theorem pcs_nil : PCs G W X [] (fun _ σ h => .nx σ h) := ⟨fun pins s σ H D ρ sp h p x u first I sl hr rv ru q => wpAny_matchCases_nil ⟨σ, H, I, PostS.nxt q hr sl⟩⟩
theorem pcs_cons {q : Pt} {pat : Pattern} {body : List Stmt} {rest : List MatchCase} {db : Ds} {f : PV → Ds} (C : CtxOk G T N rc rm X) (hc : chkm T N X.env.scope q pat = true) (hb : PSs X body (tS G W db)) (hr : PCs G W X rest f) :
    PCs G W X (⟨pat, none, body⟩ :: rest) (fun v σ h => match mtch q v with
    | some (some bs) => db (bindAll bs σ) h
    | some none => f v σ h
    | none => .no) := by
  refine ⟨fun pins s σ H D ρ sp h p x u first I sl hr' rv ru hq => ?_⟩
  cases e : mtch q p with
  | none => simp only [e] at hq; exact False.elim hq
  | some r =>
    refine wpAny_matchCases_cons (thn (mt_ok C sl hr' rv ru I hc e) fun res s1 ⟨ρ1, H1, le, k, hr1, I1, mr⟩ => ?_)
    cases r with
    | none =>
      simp only [e] at hq
      cases res with
      | none => exact hr.run pins s1 σ H1 D ρ1 sp h p x u false I1 (sl.mono le k.toKeep) hr1 (VR.mono le k.toKeep rv) ru (PostS.base hq le k)
      | some _ => exact False.elim mr
    | some bs =>
      simp only [e] at hq
      cases res with
      | none => exact False.elim mr
      | some cs => exact binds_ok C mr (sl.mono le k.toKeep) I1 fun σ' s' sl' I' => hb.run pins s' σ' H1 D I' ⟨ρ1, _, h, sl', hr1, PostS.base hq le k⟩
theorem sd_match {e : Expr} {d : Dn} {cases : List MatchCase} {f : PV → Ds} {pos : Pos} (he : PE X e (tD G W d)) (hc : PCs G W X cases f) : PS X (.Match e cases pos) (tS G W fun σ h => ofRes σ (d σ h) fun v h1 => f v σ h1) := by
  refine ⟨fun pins s σ H D I ⟨ρ, sp, h, sl, hr, p⟩ => ?_⟩
  refine wpAny_Match (thn (he.run pins s σ H _ I ⟨ρ, sp, h, sl, hr, PostS.ofRes sl p fun a h1 ρ1 H1 b _ le k hr1 rb p1 =>
    (⟨ρ1, h1, a, sl.mono le k.toKeep, hr1, rb, p1⟩ : ∃ ρ1 h1 a, SlR G ρ1 H1 sp σ ∧ HR G ρ1 h1 H1 ∧ VR G.K ρ1 H1 a b ∧ PostS G W D ρ1 H1 (f a sp h1))⟩) fun u s1 ⟨x, H1, I1, ru, ρ1, h1, a, sl1, hr1, rb, p1⟩ => ?_)
  exact hc.run pins s1 σ H1 D ρ1 sp h1 a x u true I1 sl1 hr1 rb ru p1
end
end Fx

/-! Exceptions: raised, caught. -/
namespace Fx
open PySem PySem.Spec PyProof.Rows L2
/-! ### an own class with an __init__ that keeps one field -/
/-- the promise of such an __init__ -/
def spI (K : PySem.W.Frag) (C : Addr) (F : Str) : Sp := fun vs H Q _ => ∃ a v, vs = [.ref a, v] ∧ H a = some (exo a C none) ∧ ∀ dx, H dx = none → dx ≠ a → Q .non (upd (upd H dx (exd dx [(F, v)])) a (exo a C (some dx)))
theorem init_ok {P : Program} {w : World} {K : PySem.W.Frag} {mg : Str → Option Value} {base : Heap} {x qual : Str} {params : Arguments} {body : List Stmt} {scope : Scope} {dvs : List V} {kws : List (Str × V)} {f C : Addr} {fd : FuncData} {me pn F : Str} {q1 q2 q3 q4 : Pos}
    (FD : FunD K x qual params body scope dvs kws f fd) (S : FnScope [me, pn] [me, pn] scope) (hb : body = [.Assign [.Attribute (.Name me q1) F q2] (.Name pn q3) q4]) (v1 : Vis scope me) (v2 : Vis scope pn) (n1 : (me == ("__debug__" : Str)) = false ∧ (me == ("__classdict__" : Str)) = false)
    (n2 : (pn == ("__debug__" : Str)) = false ∧ (pn == ("__classdict__" : Str)) = false) (T : OexC K C) (hno : PySem.W.findIn K (.ref C) F = some none) : FnOk P w K mg base (L2.CX P w) 1 f fd [me, pn] (spI K C F) := by
  refine FD.ok S (fun vs H Q E ⟨a, v, ev, _⟩ => by rw [ev]; rfl) fun cdv A outer s H vs Q E hr ⟨a, v, ev, ea, q⟩ => ?_
  subst ev
  subst hb
  refine ⟨_, pss_cons (ps_ost (pe_var (i := 0) rfl v1 n1.1 n1.2) (pe_var (i := 1) rfl v2 n2.1 n2.2) rfl) pss_nil, ?_⟩
  exact ⟨v, rfl, .ref a, rfl, a, C, rfl, T, hno, .inl ⟨ea, fun dx n ne => q dx n ne⟩⟩
/-- what the module knows of an exception's class -/
structure ExOk (G : Glob) (K : PySem.W.Frag) (c : Nat) : Prop where
  keep : PySem.W.keepIn K (.ref (G.cm c)) = true
  exC : PySem.W.subIn K (.ref (G.cm c)) (.type "BaseException") = some true
  tyC : PySem.W.typeIn K (.ref (G.cm c)) = some (.type "type")
  zero : G.P.exi c = some none → PySem.W.excIn K (G.cm c) He.veBase "ValueError.__new__" = true
  one : ∀ f, G.P.exi c = some (some f) → ∃ (name : Str) (fI : Addr) (fd : FuncData) (ps : List Str), G.nms[f]? = some name ∧ OexC K (G.cm c) ∧ PySem.W.findIn K (.ref (G.cm c)) "__init__" = some (some (.ref fI)) ∧ PySem.W.typeIn K (.ref fI) = some (.type "function") ∧
    (∀ (P : Program) (w : World) (mg : Str → Option Value) (base : Heap), FnOk P w K mg base (L2.CX P w) 1 fI fd ps (spI K (G.cm c) name)) ∧ L2.Binds K fd ps []
section
variable {G : Glob} {X : Cx} {W : WX} {e o : Expr} {es : List Expr} {d dx : Dn} {ds : Da} {pos p1 p2 p3 apos : Pos} {D : Ends} {ρ ρ1 : List Addr} {H H1 : Hp}
theorem sd_raise0 {c : Nat} {x : Str} (hc : X.calm = true) (tk : Takes X W) (ok : ExOk G X.K c) (hg : Gl X x) (hm : X.mg x = some (.ref (G.cm c))) (hd : (x == ("__debug__" : Str)) = false) (he : G.P.exi c = some none) :
    PS X (.Raise (some (.Call (.Name x p1) [] [] p2)) none pos) (tS G W fun σ h => raiseK G.P c σ [] h) := by
  have hmk : PMk X (.Call (.Name x p1) [] [] p2) (fun _ H Q => Q (.ref (G.cm c)) none H) := by
    intro pins s σ H Q I h
    refine wpAny_Call_Name_kw (ld_glob I hg hm ?_ hd)
    refine PySem.W.callWith_K0 I.kIn ok.keep ?_
    show wpAny _ _ (call (.ref (G.cm c)) []) _ _ _
    obtain ⟨hp, g, dr, tk', os⟩ := s
    obtain ⟨bm, N, nm, qn, bs, hdct, sn, sub, ab, col, dd, k0, k1, k2, k3, k5, mN, hC, hN, hni, T⟩ := exc_obj I.kIn (ok.zero he)
    refine wpAny_call_exc_subT F.excBase_ValueError T hC hN hni (fun h' e hx => ?_) (by show 0 ≤ sizeLine; omega)
    exact mk_of I hx (raises_own ok.exC ok.tyC) h (I.hok.gone hx.new)
  refine PS.weak (ps_raise hc tk hmk) fun D σ H ⟨ρ, sp, h, sl, hr, p⟩ => ?_
  have p' : PostS G W D ρ H (raiseK G.P c sp [] h) := p
  unfold raiseK at p'
  rw [he] at p'
  exact p' ρ H σ _ none (Le.refl _) (Frm.refl _ _) hr sl ⟨rfl, trivial⟩
theorem sd_raise1 {c f : Nat} {x : Str} (hc : X.calm = true) (tk : Takes X W) (ok : ExOk G X.K c) (hg : Gl X x) (hm : X.mg x = some (.ref (G.cm c))) (hd : (x == ("__debug__" : Str)) = false) (he : G.P.exi c = some (some f)) (room : Room 2 X.A)
    (ha : PA X [e] (tDA G W ds)) (hs : isStar e = false) : PS X (.Raise (some (.Call (.Name x p1) [e] [] p2)) none pos) (tS G W fun σ h => ofRes σ (ds σ h) fun vs h1 => raiseK G.P c σ vs h1) := by
  obtain ⟨name, fI, fd, ps, hn, T, iC, tI, F1, bi⟩ := ok.one f he
  have no : Passes (L2.CX X.prog X.w) X (fun _ _ _ => False) := fun _ _ _ _ _ _ _ c => by
    obtain ⟨_, _, _, _, _, _, _, _, _, _, _, _, z⟩ := c
    exact z.elim
  have hmk := pmk_oex (dvs := []) (p := p1) (pos := p2) T iC tI (F1 X.prog X.w X.mg X.base) room bi .nil no hg hm ha hd (starEach_cons hs _) rfl
  refine PS.weak (ps_raise hc tk hmk) fun D σ H ⟨ρ, sp, h, sl, hr, p⟩ => ⟨ρ, sp, h, sl, hr, PostS.ofRes sl p fun vs h1 ρ1 H1 us _ le k hr1 rs p1 => ?_⟩
  have p' : PostS G W D ρ1 H1 (raiseK G.P c sp vs h1) := p1
  unfold raiseK at p'
  rw [he] at p'
  have rs' : VRs G.K ρ1 H1 vs us := rs
  match vs, rs', p' with
  | [], _, p' => exact False.elim p'
  | _ :: _ :: _, _, p' => exact False.elim p'
  | [v], rs', p' =>
    obtain ⟨u, rfl, ru⟩ := rs'.one_inv
    refine ⟨by simp, fun a na => ⟨a, u, rfl, upd_same, fun dx nd ne => ⟨rfl, dx, [(name, u)], upd_same, ?_, ?_, ?_⟩⟩⟩
    · rw [upd_ne ne, upd_same]
    · rw [upd_ne ne] at nd
      exact nd
    · have nd' : H1 dx = none := by rw [upd_ne ne] at nd; exact nd
      have eq : upd (del (upd (upd (upd H1 a (exo a (G.cm c) none)) dx (exd dx [(name, u)])) a (exo a (G.cm c) (some dx))) a) dx (.xd [(name, u)]) = upd H1 dx (.xd [(name, u)]) := by
        funext b
        by_cases h1 : b = dx
        · subst h1; rw [upd_same, upd_same]
        · rw [upd_ne h1, upd_ne h1]
          by_cases h2 : b = a
          · subst h2; rw [del_same, na]
          · rw [del_ne h2, upd_ne h2, upd_ne h1, upd_ne h2]
      rw [eq]
      have fr : Frm ρ1 H1 ρ1 (upd H1 dx (.xd [(name, u)])) := Frm.lay nd'
      exact p' ρ1 _ σ _ (some dx) (Le.refl _) fr (hr1.other nd') ((sl.mono le k.toKeep).mono (Le.refl _) fr.toKeep) ⟨rfl, dx, name, u, rfl, hn, hr1.fresh nd', upd_same, VR.mono (Le.refl _) fr.toKeep ru⟩

/-! ### except suites -/
theorem ER.move {ρ ρ' : List Addr} {H H' : Hp} {c : Nat} {fs : List (Nat × PV)} {cls : Value} {dd : Option Addr} (x : ER G ρ H c fs cls dd) (le : Le ρ ρ') (k : Frm ρ H ρ' H') : ER G ρ' H' c fs cls dd := by
  obtain ⟨h1, h2⟩ := x
  refine ⟨h1, ?_⟩
  match fs, h2 with
  | [], _ => trivial
  | [(f, p)], ⟨dx, name, v, e1, e2, e3, e4, e5⟩ =>
    refine ⟨dx, name, v, e1, e2, fun hm => ?_, (k.same dx e3 (by rw [e4]; exact fun z => nomatch z) (fun ps => by rw [e4]; exact fun z => nomatch z)).trans e4, VR.mono le k.toKeep e5⟩
    rcases k.new dx hm with z | z
    · exact e3 z
    · rw [e4] at z; cases z
  | _ :: _ :: _, h2 => exact h2.elim
/-- what is asked of a caught exception's class -/
structure HeOk (G : Glob) (K : PySem.W.Frag) : Prop where
  sub : ∀ c d b, G.P.sub c d = some b → PySem.W.exmOne K (.ref (G.cm c)) (.ref (G.cm d)) = some b ∧ PySem.W.kitOne K (.ref (G.cm c)) (.ref (G.cm d)) = some b
  ic : ∀ d : Nat, (∃ o : Nat, G.P.exi d = some (some o)) → ExcC K (G.cm d)
  xf : ∀ (d f : Nat), G.P.exi d = some (some f) → ∀ name : Str, G.nms[f]? = some name → XfC K (G.cm d) ∧ PySem.W.findIn K (.ref (G.cm d)) name = some none
/-- the reading of an except suite's value -/
def tHE (G : Glob) (nm : Option Nat) (a : Addr) (cls : Value) (dd : Option Addr) (m : HE) : TE := fun σ H Q => ∃ ρ h c fs v, HR G ρ h H ∧ ER G ρ H c fs cls dd ∧ evh G.P c fs m = some v ∧ (∀ i, nm = some i → σ[i]? = some (some (.ref a))) ∧
  ∀ ρ' H' w, Le ρ ρ' → Frm ρ H ρ' H' → HR G ρ' h H' → VR G.K ρ' H' v w → Q w H'
def cstsB : List PV → List Expr → Bool
  | [], [] => true
  | v :: vs, .Constant (.str x) _ _ :: es => pvb v (.str x) && cstsB vs es
  | v :: vs, .Constant (.int x) _ _ :: es => pvb v (.int x) && cstsB vs es
  | _, _ => false
theorem csts_ok {X : Cx} : ∀ {vs : List PV} {es : List Expr}, cstsB vs es = true → ∃ ws, PA X es (fun _ H Q => Q ws H) ∧ ∀ ρ H, VRs G.K ρ H vs ws
  | [], [], _ => ⟨[], pa_nil, fun _ _ => .nil⟩
  | [], _ :: _, h => by cases h
  | v :: vs, [], h => by cases h
  | v :: vs, e :: es, h => by
    unfold cstsB at h
    split at h
    · rename_i e1 e2; cases e1
    · rename_i e1 e2
      cases e1; cases e2
      rw [Bool.and_eq_true] at h
      obtain ⟨ws, h1, h2⟩ := csts_ok h.2
      rw [pvb_eq h.1]
      exact ⟨_, pa_cons pe_str h1 rfl, fun ρ H => .cons (.str _) (h2 ρ H)⟩
    · rename_i e1 e2
      cases e1; cases e2
      rw [Bool.and_eq_true] at h
      obtain ⟨ws, h1, h2⟩ := csts_ok h.2
      rw [pvb_eq h.1]
      exact ⟨_, pa_cons pe_int h1 rfl, fun ρ H => .cons (.int _) (h2 ρ H)⟩
    · cases h
/-- constants alone -/
def cst0 (v : PV) : Expr → Bool
  | .Constant (.int i) _ _ => pvb v (.int i)
  | .Constant (.bool b) _ _ => pvb v (.bl b)
  | .Constant .none _ _ => pvb v .non
  | .Constant (.str x) _ _ => pvb v (.str x)
  | _ => false
theorem cst0_ok {X : Cx} {v : PV} {e : Expr} (h : cst0 v e = true) : ∃ w, PE X e (tC w) ∧ ∀ ρ H, VR G.K ρ H v w := by
  unfold cst0 at h
  split at h
  · rw [pvb_eq h]; exact ⟨_, pe_int, fun _ _ => .int _⟩
  · rw [pvb_eq h]; exact ⟨_, pe_bl, fun _ _ => .bl _⟩
  · rw [pvb_eq h]; exact ⟨_, pe_non, fun _ _ => .non⟩
  · rw [pvb_eq h]; exact ⟨_, pe_str, fun _ _ => .str _⟩
  · cases h
def excB (T : Tb) (y : Str) (c : Nat) : Bool := match T.gv.lookup y with
  | some (.exc d) => decide (c = d)
  | _ => false
theorem excB_ok {T : Tb} {y : Str} {c : Nat} (h : excB T y c = true) : T.gv.lookup y = some (.exc c) := by
  unfold excB at h
  split at h
  · rename_i d e; rw [e, of_decide_eq_true h]
  · cases h
/-- isinstance(e, c), e the exception that the suite holds, of a class with one field -/
def rIsX (K : PySem.W.Frag) (C a : Addr) (cls : Value) (dd : Option Addr) : List V → Hp → VK → Prop := fun xs H Q => ∃ (c : V) (cv : Value) (b : Bool) (dx : Addr) (fs : List (Str × V)), xs = [.ref a, c] ∧ cls = .ref C ∧ dd = some dx ∧ H dx = some (.xd fs) ∧ (∀ u, L2.RelV c u → u = cv) ∧ PySem.W.kitOne K (.ref C) cv = some b ∧ Q (.bl b) H
theorem call_isX {X : Cx} {a C : Addr} {oe : Obj} {cls : Value} {dd : Option Addr} {pn : List (Addr × Obj)} (T : ExcC X.K C) (hz : Zc cls dd oe) (hf : ∃ vs, oe.data = .fields vs) : CallR (X.suite a ((a, oe) :: pn)) (.builtin "isinstance") (rIsX X.K C a cls dd) := by
  intro pins s σ H xs us Q I r h
  obtain ⟨c, cv, b, dx, fs, rfl, ec, ed, hd, hcv, e, q⟩ := h
  subst ec
  subst ed
  cases r with
  | cons rx rr =>
    cases rr with
    | cons rt rr =>
      cases rr
      cases rx
      have ec := hcv _ rt
      subst ec
      obtain ⟨hget, _⟩ := I.pin (a, oe) (List.mem_append.mpr (.inl List.mem_cons_self))
      obtain ⟨vs, hv⟩ := hf
      obtain ⟨mA, hns, hr⟩ := (show ObjOk X.prog X.w H s.heap dx (.xd fs) from I.hok dx _ hd)
      obtain ⟨od, ho, hl⟩ := lookIn_ns hns
      have J : PySem.W.InstAt s.heap a oe C (some od) := ⟨hget, hz.1, by unfold PySem.W.notCls; rw [hv] <;> rfl, by rw [hz.2]; exact ho⟩
      have hcl : (PySem.W.clsIn X.K C).isSome = true := by
        obtain ⟨cd, hc, _⟩ := PySem.W.any_some T.hd
        rw [hc]; rfl
      exact PySem.W.kia_one (PySem.W.kitx_exc hcl T.hg T.hk T.hs T.ha T.hn T.ht T.hm) I.kIn J e (fun z => nomatch z) fun tk => ⟨.bl b, H, I.kept (t' := tk) fun _ _ z => z, rfl, q⟩
def chkHE (T : Tb) (xi : Nat → Bool) (sc : Scope) (N : List Str) (nm : Option Nat) : HE → Expr → Bool
  | .cst v, e => cst0 v e
  | .ctup vs, e => match e with
    | .Tuple es _ _ => cstsB vs es && decide (vs.length ≤ 1000)
    | _ => false
  | .xfld d f, e => match e, nm with
    | .Attribute (.Name x _) n _, some i => atB N i x && visB sc x && nameB x && atB T.nms f n && decide (T.exi d = some (some f))
    | _, _ => false
  | .xis d c, e => match e, nm with
    | .Call (.Name g _) [.Name x _, .Name y _] [] _, some i => strB g "isinstance" && glbB sc g && biB T g && atB N i x && visB sc x && nameB x && glbB sc y && excB T y c && nameB y && xi d
    | _, _ => false
  | .eq a b, e => match e with
    | .Compare x [.Eq] [y] _ => !behindInMarks .Eq y && chkHE T xi sc N nm a x && chkHE T xi sc N nm b y
    | _ => false
  | .and a b, e => match e with
    | .BoolOp .And [x, y] _ => chkHE T xi sc N nm a x && chkHE T xi sc N nm b y
    | _ => false
  | .not a, e => match e with
    | .UnaryOp .Not x _ => chkHE T xi sc N nm a x
    | _ => false
theorem suiteN {a : Addr} {pn : List (Addr × Obj)} : (X.suite a pn).N = X.N := rfl
theorem he_ok {T : Tb} {N : List Str} {xi : Nat → Bool} {nm : Option Nat} {a : Addr} {oe : Obj} {cls : Value} {dd : Option Addr} {pn : List (Addr × Obj)} (hT : TOk G T X.mg) (hN : X.N = N) (hK : X.K = G.K) (ho : HeOk G G.K) (hxi : ∀ d, xi d = true → ∃ o, G.P.exi d = some (some o)) (hz : Zc cls dd oe) (hf : ∃ vs, oe.data = .fields vs) :
    ∀ (m : HE) {e : Expr}, chkHE T xi X.env.scope N nm m e = true → PE (X.suite a ((a, oe) :: pn)) e (tHE G nm a cls dd m)
  | .cst v, e, h => by
    obtain ⟨w, h1, h2⟩ := cst0_ok (G := G) (X := X.suite a ((a, oe) :: pn)) (show cst0 v e = true from h)
    exact PE.weak h1 fun σ H Q ⟨ρ, hh, c, fs, v', hr, er, ev, _, q⟩ => by
      cases ev
      exact q ρ H w (Le.refl _) (Frm.refl _ _) hr (h2 ρ H)
  | .ctup vs, e, h => by
    unfold chkHE at h
    split at h
    · rw [Bool.and_eq_true] at h
      obtain ⟨ws, h1, h2⟩ := csts_ok (G := G) (X := X.suite a ((a, oe) :: pn)) h.1
      refine PE.weak (pe_tup h1) fun σ H Q ⟨ρ, hh, c, fs, v', hr, er, ev, _, q⟩ => ?_
      cases ev
      have hl := of_decide_eq_true h.2
      refine ⟨by rw [← (h2 ρ H).length, ← LINE_eq]; unfold LINE; omega, fun p n => q ρ _ _ (Le.refl _) (Frm.lay n) (hr.other n) (.tup (.inl (.inl upd_same)) (h2 _ _))⟩
    · cases h
  | .xfld d f, e, h => by
    unfold chkHE at h
    split at h
    · rename_i x p n _ i
      simp only [Bool.and_eq_true] at h
      obtain ⟨⟨⟨⟨h1, h2⟩, h3⟩, h4⟩, h5⟩ := h
      have hn : G.nms[f]? = some n := by rw [hT.nms]; exact atB_ok h4
      obtain ⟨T1, hno⟩ := ho.xf d f ((hT.exi d).trans (of_decide_eq_true h5)) n hn
      rw [← hK] at T1 hno
      have hv : PE (X.suite a ((a, oe) :: pn)) (.Name x p) (tVar i) := pe_var (by show X.N[i]? = some x; rw [hN]; exact atB_ok h1) (visB_ok h2) (nameB_ok h3).1 (nameB_ok h3).2
      refine PE.weak (pe_xf T1 hno hz hf hv (base_eq rfl _ _ _)) fun σ H Q ⟨ρ, hh, c, fs, v', hr, er, ev, hs, q⟩ => ⟨.ref a, hs i rfl, rfl, ?_⟩
      unfold evh at ev
      split at ev
      · rename_i hc
        subst hc
        obtain ⟨h6, h7⟩ := er
        refine ⟨h6, ?_⟩
        match fs, h7, ev with
        | [], _, ev => cases ev
        | [(g, pv)], ⟨dx, name, v, e1, e2, e3, e4, e5⟩, ev =>
          rw [List.lookup_cons] at ev
          by_cases hg : f = g
          · subst hg
            rw [beq_self_eq_true] at ev
            cases ev
            rw [hn] at e2
            cases e2
            exact ⟨dx, [(n, v)], v, e1, e4, by simp [List.lookup_cons], q ρ H v (Le.refl _) (Frm.refl _ _) hr e5⟩
          · rw [beq_eq_false_iff_ne.mpr hg] at ev
            cases ev
        | _ :: _ :: _, h7, _ => exact h7.elim
      · cases ev
    · cases h
  | .xis d c, e, h => by
    unfold chkHE at h
    split at h
    · rename_i x p1 y p2 y' p3 pos i
      simp only [Bool.and_eq_true] at h
      obtain ⟨⟨⟨⟨⟨⟨⟨⟨⟨h1, h2⟩, h3⟩, h4⟩, h5⟩, h6⟩, h7⟩, h8⟩, h9⟩, h10⟩ := h
      have e0 := of_decide_eq_true h1
      subst e0
      have T1 := ho.ic d (hxi d h10)
      rw [← hK] at T1
      have hbi : X.mg "isinstance" = none := by
        unfold biB at h3
        split at h3
        · rename_i e; exact hT.gv _ _ e
        · cases h3
      have hv : PE (X.suite a ((a, oe) :: pn)) (.Name y p2) (tVar i) := pe_var (by show X.N[i]? = some y; rw [hN]; exact atB_ok h4) (visB_ok h5) (nameB_ok h6).1 (nameB_ok h6).2
      have hm2 : X.mg y' = some (.ref (G.cm c)) := hT.gv _ _ (excB_ok h8)
      have hy : PE (X.suite a ((a, oe) :: pn)) (.Name y' p3) (tC (.ref (G.cm c))) := pe_glob (glbB_ok h7) hm2 rfl (nameB_ok h9).1
      have ha : PA (X.suite a ((a, oe) :: pn)) [.Name y p2, .Name y' p3] (tCons (tVar i) (tCons (tC (.ref (G.cm c))) tNil)) := pa_cons hv (pa_cons hy pa_nil rfl) rfl
      refine PE.weak (pe_callB (call_isX T1 hz hf) (glbB_ok h2) hbi boot_isinstance ha (by decide) (by decide) rfl rfl) fun σ H Q ⟨ρ, hh, c', fs, v', hr, er, ev, hs, q⟩ => ⟨.ref a, hs i rfl, ?_⟩
      unfold evh at ev
      split at ev
      · split at ev
        · rename_i hc
          subst hc
          obtain ⟨b, eb, rfl⟩ := Option.map_eq_some_iff.mp ev
          obtain ⟨h11, dx, name, v, e1, _, _, e4, _⟩ := er
          exact ⟨.ref (G.cm c), .ref (G.cm c), b, dx, _, rfl, h11, e1, e4, fun u hu => hu, by rw [hK]; exact (ho.sub _ _ _ eb).2, q ρ H _ (Le.refl _) (Frm.refl _ _) hr (.bl b)⟩
        · cases ev
      · cases ev
    · cases h
  | .eq m1 m2, e, h => by
    unfold chkHE at h
    split at h
    · simp only [Bool.and_eq_true] at h
      have A := he_ok (a := a) (pn := pn) hT hN hK ho hxi hz hf m1 h.1.2
      have B := he_ok (a := a) (pn := pn) hT hN hK ho hxi hz hf m2 h.2
      refine PE.weak (pe_cmpR op_eq A B (by simpa using h.1.1)) fun σ H Q ⟨ρ, hh, c, fs, v', hr, er, ev, hs, q⟩ => ?_
      unfold evh at ev
      split at ev
      · rename_i x y e1 e2
        obtain ⟨b, eb, rfl⟩ := Option.map_eq_some_iff.mp ev
        refine ⟨ρ, hh, c, fs, x, hr, er, e1, hs, fun ρ1 H1 w1 le1 k1 hr1 r1 => ⟨ρ1, hh, c, fs, y, hr1, er.move le1 k1, e2, hs, fun ρ2 H2 w2 le2 k2 hr2 r2 => ?_⟩⟩
        obtain ⟨s1, s2⟩ := eqS_rel (VR.mono le2 k2.toKeep r1) r2 eb
        exact ⟨s1, by rw [s2]; exact q ρ2 H2 _ (le1.trans le2) (k1.trans k2) hr2 (.bl b)⟩
      · cases ev
    · cases h
  | .and m1 m2, e, h => by
    unfold chkHE at h
    split at h
    · rw [Bool.and_eq_true] at h
      have A := he_ok (a := a) (pn := pn) hT hN hK ho hxi hz hf m1 h.1
      have B := he_ok (a := a) (pn := pn) hT hN hK ho hxi hz hf m2 h.2
      refine PE.weak (pe_andT A (pe_one B)) fun σ H Q ⟨ρ, hh, c, fs, v', hr, er, ev, hs, q⟩ => ?_
      unfold evh at ev
      split at ev
      · rename_i e1
        refine ⟨ρ, hh, c, fs, _, hr, er, e1, hs, fun ρ1 H1 w1 le1 k1 hr1 r1 => ⟨true, by rw [VR.bl_inv r1]; rfl, ?_⟩⟩
        exact ⟨ρ1, hh, c, fs, v', hr1, er.move le1 k1, ev, hs, fun ρ2 H2 w2 le2 k2 hr2 r2 => q ρ2 H2 w2 (le1.trans le2) (k1.trans k2) hr2 r2⟩
      · rename_i e1
        cases ev
        refine ⟨ρ, hh, c, fs, _, hr, er, e1, hs, fun ρ1 H1 w1 le1 k1 hr1 r1 => ⟨false, by rw [VR.bl_inv r1]; rfl, ?_⟩⟩
        exact q ρ1 H1 w1 le1 k1 hr1 r1
      · cases ev
    · cases h
  | .not m1, e, h => by
    unfold chkHE at h
    split at h
    · have A := he_ok (a := a) (pn := pn) hT hN hK ho hxi hz hf m1 h
      refine PE.weak (pe_notT A) fun σ H Q ⟨ρ, hh, c, fs, v', hr, er, ev, hs, q⟩ => ?_
      unfold evh at ev
      split at ev
      · rename_i b e1
        cases ev
        exact ⟨ρ, hh, c, fs, _, hr, er, e1, hs, fun ρ1 H1 w1 le1 k1 hr1 r1 => ⟨b, by rw [VR.bl_inv r1]; rfl, q ρ1 H1 _ le1 k1 hr1 (.bl _)⟩⟩
      · cases ev
    · cases h

/-- the reading of an except suite -/
def tHS (G : Glob) (nm : Option Nat) (m : HS) (a : Addr) (cls : Value) (dd : Option Addr) : TS := fun D σ H => ∃ ρ h c fs, HR G ρ h H ∧ ER G ρ H c fs cls dd ∧ (∀ i, nm = some i → σ[i]? = some (some (.ref a))) ∧ match m with
  | .pass => D.nx σ H
  | .ret e => ∃ v, evh G.P c fs e = some v ∧ ∀ ρ' H' w, Le ρ ρ' → Frm ρ H ρ' H' → HR G ρ' h H' → VR G.K ρ' H' v w → D.rt w H'
def chkHS (T : Tb) (xi : Nat → Bool) (sc : Scope) (N : List Str) (nm : Option Nat) : HS → List Stmt → Bool
  | .pass, ss => match ss with
    | [.Pass _] => true
    | _ => false
  | .ret m, ss => match ss with
    | [.Return (some e) _] => chkHE T xi sc N nm m e
    | _ => false
theorem hs_ok {T : Tb} {N : List Str} {xi : Nat → Bool} {nm : Option Nat} {a : Addr} {oe : Obj} {cls : Value} {dd : Option Addr} {pn : List (Addr × Obj)} (hT : TOk G T X.mg) (hN : X.N = N) (hK : X.K = G.K) (ho : HeOk G G.K) (hxi : ∀ d, xi d = true → ∃ o, G.P.exi d = some (some o)) (hz : Zc cls dd oe) (hf : ∃ vs, oe.data = .fields vs) {m : HS} {ss : List Stmt} (h : chkHS T xi X.env.scope N nm m ss = true) :
    PSs (X.suite a ((a, oe) :: pn)) ss (tHS G nm m a cls dd) := by
  cases m with
  | pass =>
    have h' : (match (generalizing := false) ss with | [.Pass _] => true | _ => false) = true := h
    split at h'
    · exact PSs.weak (pss_cons ps_pass pss_nil) fun D σ H ⟨ρ, hh, c, fs, hr, er, hs, q⟩ => q
    · cases h'
  | ret m =>
    have h' : (match (generalizing := false) ss with | [.Return (some e) _] => chkHE T xi X.env.scope N nm m e | _ => false) = true := h
    split at h'
    · exact PSs.weak (pss_cons (ps_ret (he_ok (a := a) (pn := pn) (cls := cls) (dd := dd) hT hN hK ho hxi hz hf m h')) pss_nil) fun D σ H ⟨ρ, hh, c, fs, hr, er, hs, v, ev, q⟩ => ⟨ρ, hh, c, fs, v, hr, er, ev, hs, q⟩
    · cases h'
/-- the unnamed clauses, as they are written -/
def chkHs (T : Tb) (xi : Nat → Bool) (sc : Scope) (N : List Str) : List (Nat × HS) → List ExceptHandler → Bool
  | [], es => es.isEmpty
  | (c, m) :: hs, es => match es with
    | .ExceptHandler (some (.Name x _)) none (s :: ss) _ :: es => glbB sc x && nameB x && excB T x c && chkHS T xi sc N none m (s :: ss) && chkHs T xi sc N hs es
    | _ => false
def hsL (G : Glob) : List (Nat × HS) → List (Value × (Addr → Value → Option Addr → TS))
  | [] => []
  | (c, m) :: hs => (.ref (G.cm c), tHS G none m) :: hsL G hs
theorem hds_ok {T : Tb} {N : List Str} {xi : Nat → Bool} (hT : TOk G T X.mg) (hN : X.N = N) (hK : X.K = G.K) (ho : HeOk G G.K) (hxi : ∀ d, xi d = true → ∃ o, G.P.exi d = some (some o)) : ∀ {hs : List (Nat × HS)} {es : List ExceptHandler}, chkHs T xi X.env.scope N hs es = true → HdsOk X es (hsL G hs)
  | [], [], _ => .nil
  | [], _ :: _, h => by cases h
  | (c, m) :: hs, es, h => by
    unfold chkHs at h
    split at h
    · simp only [Bool.and_eq_true] at h
      obtain ⟨⟨⟨⟨h1, h2⟩, h3⟩, h5⟩, h6⟩ := h
      exact .cons ⟨glbB_ok h1, (nameB_ok h2).1, .inl (hT.gv _ _ (excB_ok h3))⟩ (fun a oe cls dd pn hz hf => hs_ok hT hN hK ho hxi hz hf h5) (hds_ok hT hN hK ho hxi h6)
    · cases h
theorem many_of {K : PySem.W.Frag} (hK : K = G.K) (ho : HeOk G G.K) {c : Nat} {fs : List (Nat × PV)} {sp : Sl} {h : PH} {σ : L2.St} {cls : Value} {dd : Option Addr} (hr : HR G ρ h H) (sl : SlR G ρ H sp σ) (er : ER G ρ H c fs cls dd) : ∀ {hs : List (Nat × HS)},
    PostS G W D ρ H (handle G.P c fs none sp h hs) → wMany K W D (hsL G hs) cls dd σ H
  | [], p => p ρ H σ cls dd (Le.refl _) (Frm.refl _ _) hr sl er
  | (d, m) :: hs, p => by
    unfold handle at p
    have ec : cls = .ref (G.cm c) := er.1
    split at p
    · rename_i e
      refine ⟨true, by rw [hK, ec]; exact (ho.sub _ _ _ e).1, fun _ a na => ⟨ρ, h, c, fs, hr, er, fun i q => (nomatch q), ?_⟩, fun z => nomatch z⟩
      cases m with
      | pass => exact p ρ H σ (Le.refl _) (Frm.refl _ _) hr sl
      | ret m =>
        have p' : PostS G W D ρ H (match evh G.P c fs m with | some v => .rt v h | none => .no) := p
        split at p'
        · rename_i v ev
          exact ⟨v, ev, p'⟩
        · exact False.elim p'
    · rename_i e
      exact ⟨false, by rw [hK, ec]; exact (ho.sub _ _ _ e).1, fun z => (nomatch z), fun _ => many_of hK ho hr sl er p⟩
    · exact False.elim p
theorem one_of {K : PySem.W.Frag} (hK : K = G.K) (ho : HeOk G G.K) {c d i : Nat} {m : HS} {fs : List (Nat × PV)} {sp : Sl} {h : PH} {σ : L2.St} {cls : Value} {dd : Option Addr} (hi : i < σ.length) (hr : HR G ρ h H) (sl : SlR G ρ H sp σ) (er : ER G ρ H c fs cls dd)
    (p : PostS G W D ρ H (handle G.P c fs (some i) sp h [(d, m)])) : wAs K (.ref (G.cm d)) i (tHS G (some i) m) W D cls dd σ H := by
  unfold handle at p
  have ec : cls = .ref (G.cm c) := er.1
  split at p
  · rename_i e
    refine ⟨true, by rw [hK, ec]; exact (ho.sub _ _ _ e).1, fun _ a na => ⟨ρ, h, c, fs, hr, er, fun j q => by cases q; exact List.getElem?_set_self hi, ?_⟩, fun z => nomatch z⟩
    cases m with
    | pass =>
      show D.nx ((σ.set i (some (.ref a))).set i none) H
      rw [List.set_set]
      exact p ρ H _ (Le.refl _) (Frm.refl _ _) hr (sl.wipe i)
    | ret m =>
      have p' : PostS G W D ρ H (match evh G.P c fs m with | some v => .rt v h | none => .no) := p
      split at p'
      · rename_i v ev
        exact ⟨v, ev, p'⟩
      · exact False.elim p'
  · rename_i e
    refine ⟨false, by rw [hK, ec]; exact (ho.sub _ _ _ e).1, fun z => (nomatch z), fun _ => ?_⟩
    unfold handle at p
    exact p ρ H σ cls dd (Le.refl _) (Frm.refl _ _) hr sl er
  · exact False.elim p
theorem try_post {nm : Option Nat} {hs : List (Nat × HS)} {W' : WX} {r : SR} (p : PostS G W D ρ H (tryK G.P nm hs r))
    (k : ∀ {ρ1 : List Addr} {H1 : Hp} {c : Nat} {fs : List (Nat × PV)} {sp : Sl} {h1 : PH} {σ1 : L2.St} {cls : Value} {dd : Option Addr}, nmOk nm sp = true → HR G ρ1 h1 H1 → SlR G ρ1 H1 sp σ1 → ER G ρ1 H1 c fs cls dd → PostS G W D ρ1 H1 (handle G.P c fs nm sp h1 hs) → W' cls dd σ1 H1) : PostS G W' D ρ H r := by
  cases r with
  | nx sp h => exact p
  | bk sp h => exact p
  | ct sp h => exact p
  | rt sp h => exact p
  | ex c fs sp h =>
    have p' : PostS G W D ρ H (if nmOk nm sp = true then handle G.P c fs nm sp h hs else .no) := p
    split at p'
    · rename_i hn
      exact fun ρ' H' σ' cls d le kp hr sl er => k hn hr sl er (PostS.base p' le kp)
    · exact False.elim p'
  | no => exact p
end
end Fx

/-! Statements as they are written; defs. -/
namespace Fx
open PySem PySem.Spec PyProof.Rows L2
def isTupE : Expr → Bool
  | .Tuple .. => true
  | _ => false
def isLC : Expr → Bool
  | .ListComp .. => true
  | _ => false
def someB (o : Option (Option Nat)) : Bool := match o with
  | some (some _) => true
  | _ => false
theorem someB_ok {o : Option (Option Nat)} (h : someB o = true) : ∃ f, o = some (some f) := by
  unfold someB at h
  split at h
  · exact ⟨_, rfl⟩
  · cases h
def oneH (T : Tb) (sc : Scope) (N : List Str) (x : Str) (i : Nat) (ss : List Stmt) : List (Nat × HS) → Bool
  | [(c, m)] => excB T x c && chkHS T (fun d => someB (T.exi d)) sc N (some i) m ss
  | _ => false
mutual
def chkS (T : Tb) (N : List Str) : S → Scope → Stmt → Bool
  | .pass, _, s => match s with
    | .Pass _ => true
    | _ => false
  | .brk, _, s => match s with
    | .Break _ => true
    | _ => false
  | .cont, _, s => match s with
    | .Continue _ => true
    | _ => false
  | .retN, _, s => match s with
    | .Return none _ => true
    | _ => false
  | .expr m, sc, s => match s with
    | .Expr e _ => !isComp e && chk T N m sc e
    | _ => false
  | .set i m, sc, s => match s with
    | .Assign [.Name x _] e _ => atB N i x && lclB sc x && (!isComp e || isLC e) && chk T N m sc e
    | _ => false
  | .fset o f m, sc, s => match s with
    | .Assign [.Attribute x name _] e _ => atB T.nms f name && chk T N o sc x && chk T N m sc e
    | _ => false
  | .iset _ _ _, _, _ => false
  | .tset is m, sc, s => match s with
    | .Assign [te] e _ => tgB N sc (.names is) te && !isComp e && !isTupE e && chk T N m sc e
    | _ => false
  | .par _ _, _, _ => false
  | .ftset _ _ _ _ _, _, _ => false
  | .ret m, sc, s => match s with
    | .Return (some e) _ => chk T N m sc e
    | _ => false
  | .ite c a b, sc, s => match s with
    | .If t x y _ => !isIf t && chk T N c sc t && chkSs T N a sc x && chkSs T N b sc y
    | _ => false
  | .forr tg it b, sc, s => match s with
    | .For tge iter body [] _ => !isSet iter && chki T N it sc tge iter && tgB N sc tg tge && chkSs T N b sc body
    | _ => false
  | .whl c b, sc, s => match s with
    | .While t body [] _ => !isIf t && chk T N c sc t && chkSs T N b sc body
    | _ => false
  | .whlw _ _ _, _, _ => false
  | .raise c es, sc, s => match s, es with
    | .Raise (some (.Call (.Name x _) [] [] _)) none _, .nil => glbB sc x && nameB x && excB T x c && decide (T.exi c = some none)
    | .Raise (some (.Call (.Name x _) [e] [] _)) none _, .cons m .nil => glbB sc x && nameB x && excB T x c && someB (T.exi c) && !isStar e && chk T N m sc e
    | _, _ => false
  | .mtch m cs, sc, s => match s with
    | .Match e cases _ => chk T N m sc e && chkC T N cs sc cases
    | _ => false
  | .tryx b nm hs, sc, s => match s, nm with
    | .Try body (e :: es) [] [] _, none => chkSs T N b sc body && chkHs T (fun d => someB (T.exi d)) sc N hs (e :: es)
    | .Try body [.ExceptHandler (some (.Name x _)) (some n) (s0 :: ss) _] [] [] _, some i => chkSs T N b sc body && (glbB sc x && nameB x && atB N i n && lclB sc n && oneH T sc N x i (s0 :: ss) hs)
    | _, _ => false
def chkSs (T : Tb) (N : List Str) : Ss → Scope → List Stmt → Bool
  | .nil, _, l => l.isEmpty
  | .cons m r, sc, l => match l with
    | s :: ss => chkS T N m sc s && chkSs T N r sc ss
    | [] => false
def chkC (T : Tb) (N : List Str) : Cs → Scope → List MatchCase → Bool
  | .nil, _, l => l.isEmpty
  | .cons q b r, sc, l => match l with
    | ⟨pat, none, body⟩ :: rest => chkm T N sc q pat && chkSs T N b sc body && chkC T N r sc rest
    | _ => false
end
structure SCtx (G : Glob) (T : Tb) (N : List Str) (rc rm : Rn) (X : Cx) : Prop extends CtxOk G T N rc rm X where
  kind : X.env.scope.kind = .function
  own : PassesOwn (model X.prog X.w) X.A X.env X.xe
  stk : X.stack = X.env :: X.outer
  frm : X.env.frame = some X.env.locals
  fl : FlOk G G.K
  he : HeOk G G.K
  exs : ∀ x c, T.gv.lookup x = some (.exc c) → ExOk G G.K c
  rm2 : Room 2 X.A
theorem SCtx.tr {G : Glob} {T : Tb} {N : List Str} {rc rm : Rn} {X : Cx} (C : SCtx G T N rc rm X) (pn : List (Addr × Obj)) (xe : Value → Shared → Prop) (po : PassesOwn (model X.prog X.w) X.A X.env xe) : SCtx G T N rc rm (X.tr pn xe) :=
  ⟨⟨C.K, C.calm, C.nd, C.N, C.cap_, C.capm_, C.t, C.gx⟩, C.kind, po, C.stk, C.frm, C.fl, C.he, C.exs, C.rm2⟩
section
variable {G : Glob} {T : Tb} {N : List Str} {rc rm : Rn}
theorem lc_parts {X : Cx} {own : List Nat} {tg : Tg} {it : It} {cnd : Oe} {elt : E} {el tge iter : Expr} {ifs : List Expr} {as : Int} {gs : List Comprehension} {scope : Scope} {pos : Pos} {W : WX} (C : CtxOk G T N rc rm X) (tk : Takes X W)
    (h : chk T N (.lc own tg it cnd elt) X.env.scope (.ListComp el gs scope pos) = true) : ∃ tge iter ifs, gs = [⟨tge, iter, ifs, 0⟩] ∧ PI X tge iter (tDI G W (evi G.P rc rm it)) ∧ BlkOk X.N X.env.scope scope (ownOf N own) ∧
      (∀ (s : Shared) (H : Hp) (C : Addr) (cl : List (Str × Addr)) (fp : List Addr), PG (X.blk s H scope (compEnvC scope cl C X.env) fp) tge (gT G.K tg)) ∧
      (∀ (s : Shared) (H : Hp) (C : Addr) (cl : List (Str × Addr)) (fp : List Addr), PTs (X.blk s H scope (compEnvC scope cl C X.env) fp) ifs (tDT G WF (evt G.P rc rm cnd))) ∧
      (∀ (s : Shared) (H : Hp) (C : Addr) (cl : List (Str × Addr)) (fp : List Addr), PE (X.blk s H scope (compEnvC scope cl C X.env) fp) el (tD G WF (ev G.P rc rm elt))) ∧
      (∀ i ∈ tgSlots tg, i ∈ slots (ownOf N own)) ∧ ∀ x, foldedSetIterable iter X.env x = pure x := by
  unfold chk at h
  split at h
  · rename_i el' tge iter ifs scope' pos' heq
    cases heq
    simp only [Bool.and_eq_true] at h
    obtain ⟨⟨⟨⟨⟨⟨h1, h2⟩, h3⟩, h4⟩, h5⟩, h6⟩, h7⟩ := h
    have ok := blkOk_by h1
    rw [← C.N] at ok
    refine ⟨tge, iter, ifs, rfl, chki_ok it C tk h4, C.N ▸ ok, fun s H Cl cl fp => pg_tgt C.K C.calm C.nd (by rw [show (X.blk s H _ (compEnvC _ cl Cl X.env) fp).N = N from C.N]; exact h5),
      fun s H Cl cl fp => chkf_ok cnd (C.blk s H _ cl Cl fp) takesF h6, fun s H Cl cl fp => (chk_ok elt (C.blk s H _ cl Cl fp) takesF h7).pe, fun i hi => ?_, notSet (by simpa using h3) _⟩
    rw [slots_own]
    have := List.all_eq_true.mp h2 i hi
    simpa using this
  · cases h
theorem set_ok {X : Cx} {i : Nat} {x : Str} {m : E} {e : Expr} {p1 pos : Pos} {W : WX} (C : SCtx G T N rc rm X) (tk : Takes X W) (h1 : atB N i x = true) (h2 : lclB X.env.scope x = true) (h3 : (!isComp e || isLC e) = true) (h4 : chk T N m X.env.scope e = true) :
    PS X (.Assign [.Name x p1] e pos) (tS G W fun σ h => ofRes σ (ev G.P rc rm m σ h) fun v h1 => .nx (σ.set i (some v)) h1) := by
  have hi : X.N[i]? = some x := by rw [C.N]; exact atB_ok h1
  have hx := lclB_ok h2
  cases e with
  | ListComp el gs scope p2 =>
    have hs := swap_eq (el := el) (gs := gs) (s := scope) (q := p2) (p := p1) (l := pos.line) C.kind hx
    cases hb : swapB X.env.scope x p1 (.ListComp el gs scope p2) with
    | false => rw [hb] at hs; exact sd_set C.nd hi hx (chk_ok m C.toCtxOk tk h4).pe hs
    | true =>
      rw [hb] at hs
      cases m with
      | lc own tg it cnd elt =>
        obtain ⟨tge, iter, ifs, rfl, a1, a2, a3, a4, a5, a6, a7⟩ := lc_parts (as := 0) (tge := el) (iter := el) (ifs := []) C.toCtxOk tk h4
        have key := sd_setLc (G := G) (W := W) C.calm C.nd hi hx hs a1 a2 a3 a4 a5 a6 a7
        rw [slots_own] at key
        exact key
      | _ => unfold chk at h4; first | cases h4 | (unfold cstB at h4; cases h4)
  | SetComp _ _ _ _ => cases h3
  | DictComp _ _ _ _ _ => cases h3
  | _ => exact sd_set C.nd hi hx (chk_ok m C.toCtxOk tk h4).pe (swapNo rfl _ _ _)
mutual
theorem chkS_ok : ∀ (m : S) {X : Cx} {s : Stmt} {W : WX}, SCtx G T N rc rm X → Takes X W → chkS T N m X.env.scope s = true → PS X s (tS G W (xs G.P rc rm m))
  | .pass, X, s, W, C, tk, h => by
    unfold chkS at h
    split at h
    · exact sd_pass
    · cases h
  | .brk, X, s, W, C, tk, h => by
    unfold chkS at h
    split at h
    · exact sd_brk
    · cases h
  | .cont, X, s, W, C, tk, h => by
    unfold chkS at h
    split at h
    · exact sd_cont
    · cases h
  | .retN, X, s, W, C, tk, h => by
    unfold chkS at h
    split at h
    · exact sd_retN
    · cases h
  | .expr m, X, s, W, C, tk, h => by
    unfold chkS at h
    split at h
    · rw [Bool.and_eq_true] at h
      exact sd_expr (chk_ok m C.toCtxOk tk h.2).pe (by simpa using h.1)
    · cases h
  | .set i m, X, s, W, C, tk, h => by
    unfold chkS at h
    split at h
    · simp only [Bool.and_eq_true] at h
      obtain ⟨⟨⟨h1, h2⟩, h3⟩, h4⟩ := h
      exact set_ok C tk h1 h2 h3 h4
    · cases h
  | .fset o f m, X, s, W, C, tk, h => by
    unfold chkS at h
    split at h
    · simp only [Bool.and_eq_true] at h
      obtain ⟨⟨h1, h2⟩, h3⟩ := h
      exact sd_fset C.K (by rw [C.t.nms]; exact atB_ok h1) C.fl (chk_ok o C.toCtxOk tk h2).pe (chk_ok m C.toCtxOk tk h3).pe
    · cases h
  | .iset _ _ _, X, s, W, C, tk, h => by unfold chkS at h; cases h
  | .tset is m, X, s, W, C, tk, h => by
    unfold chkS at h
    split at h
    · simp only [Bool.and_eq_true] at h
      obtain ⟨⟨⟨h1, h2⟩, h3⟩, h4⟩ := h
      refine sd_tset C.K C.calm C.nd (by rw [C.N]; exact h1) (chk_ok m C.toCtxOk tk h4).pe (by simpa using h2) ?_
      rename_i te e _
      unfold tgB at h1
      cases te <;> first | (cases h1; done) | (cases e <;> first | rfl | (cases h3; done))
    · cases h
  | .par _ _, X, s, W, C, tk, h => by unfold chkS at h; cases h
  | .ftset _ _ _ _ _, X, s, W, C, tk, h => by unfold chkS at h; cases h
  | .ret m, X, s, W, C, tk, h => by
    unfold chkS at h
    split at h
    · exact sd_ret (chk_ok m C.toCtxOk tk h).pe
    · cases h
  | .ite c a b, X, s, W, C, tk, h => by
    unfold chkS at h
    split at h
    · simp only [Bool.and_eq_true] at h
      obtain ⟨⟨⟨h1, h2⟩, h3⟩, h4⟩ := h
      exact sd_if ((chk_ok c C.toCtxOk tk h2).pt (by simpa using h1)) (chkSs_ok a C tk h3) (chkSs_ok b C tk h4)
    · cases h
  | .forr tg it b, X, s, W, C, tk, h => by
    unfold chkS at h
    split at h
    · simp only [Bool.and_eq_true] at h
      obtain ⟨⟨⟨h1, h2⟩, h3⟩, h4⟩ := h
      exact sd_for C.K C.own C.calm C.nd (chki_ok it C.toCtxOk tk h2) (by rw [C.N]; exact h3) (chkSs_ok b C tk h4) (by simpa using h1)
    · cases h
  | .whl c b, X, s, W, C, tk, h => by
    unfold chkS at h
    split at h
    · simp only [Bool.and_eq_true] at h
      obtain ⟨⟨h1, h2⟩, h3⟩ := h
      exact sd_whl C.own ((chk_ok c C.toCtxOk tk h2).pt (by simpa using h1)) (chkSs_ok b C tk h3)
    · cases h
  | .whlw _ _ _, X, s, W, C, tk, h => by unfold chkS at h; cases h
  | .raise c es, X, s, W, C, tk, h => by
    unfold chkS at h
    split at h
    · simp only [Bool.and_eq_true] at h
      obtain ⟨⟨⟨h1, h2⟩, h3⟩, h4⟩ := h
      have ex := C.exs _ _ (excB_ok h3)
      exact sd_raise0 C.calm tk (C.K ▸ ex) (glbB_ok h1) (C.t.gv _ _ (excB_ok h3)) (nameB_ok h2).1 (by rw [C.t.exi]; exact of_decide_eq_true h4)
    · rename_i m
      simp only [Bool.and_eq_true] at h
      obtain ⟨⟨⟨⟨⟨h1, h2⟩, h3⟩, h4⟩, h5⟩, h6⟩ := h
      have ex := C.exs _ _ (excB_ok h3)
      obtain ⟨f, ef⟩ := someB_ok h4
      exact sd_raise1 (ds := evs G.P rc rm (.cons m .nil)) C.calm tk (C.K ▸ ex) (glbB_ok h1) (C.t.gv _ _ (excB_ok h3)) (nameB_ok h2).1 ((C.t.exi _).trans ef) C.rm2 (pd_cons (by simpa using h5) (chk_ok m C.toCtxOk tk h6).pe pd_nil) (by simpa using h5)
    · cases h
  | .mtch m cs, X, s, W, C, tk, h => by
    unfold chkS at h
    split at h
    · rw [Bool.and_eq_true] at h
      exact sd_match (chk_ok m C.toCtxOk tk h.1).pe (chkC_ok cs C tk h.2)
    · cases h
  | .tryx b nm hs, X, s, W, C, tk, h => by
    have hxi : ∀ d, someB (T.exi d) = true → ∃ o, G.P.exi d = some (some o) := fun d e => by rw [C.t.exi]; exact someB_ok e
    unfold chkS at h
    split at h
    · rw [Bool.and_eq_true] at h
      refine PS.weak (ps_try_many (l := hsL G hs) C.stk C.frm tk (fun W' pn xe tk' po => chkSs_ok b (C.tr pn xe po) tk' h.1) (hds_ok C.t C.N C.K C.he hxi h.2)) fun D σ H ⟨ρ, sp, hh, sl, hr, p⟩ => ⟨ρ, sp, hh, sl, hr, try_post p fun _ hr1 sl1 er1 p1 => many_of C.K C.he hr1 sl1 er1 p1⟩
    · rename_i i
      simp only [Bool.and_eq_true] at h
      obtain ⟨h0, ⟨⟨⟨h1, h2⟩, h3⟩, h4⟩, h5⟩ := h
      have hx := lclB_ok h4
      match hs, h5 with
      | [(c, m)], h5 =>
        have h5' := Bool.and_eq_true_iff.mp (show (excB T _ c && chkHS T (fun d => someB (T.exi d)) X.env.scope N (some i) m _) = true from h5)
        refine PS.weak (ps_try_as (i := i) C.stk C.frm C.nd (by rw [C.N]; exact atB_ok h3) hx ⟨glbB_ok h1, (nameB_ok h2).1, .inl (C.t.gv _ _ (excB_ok h5'.1))⟩ tk (fun W' pn xe tk' po => chkSs_ok b (C.tr pn xe po) tk' h0) (fun a oe cls dd pn hz hf => hs_ok C.t C.N C.K C.he hxi hz hf h5'.2)) fun D σ H ⟨ρ, sp, hh, sl, hr, p⟩ => ⟨ρ, sp, hh, sl, hr, try_post p fun hn hr1 sl1 er1 p1 => one_of C.K C.he (by rw [← sl1.1]; exact of_decide_eq_true hn) hr1 sl1 er1 p1⟩
    · cases h
theorem chkSs_ok : ∀ (m : Ss) {X : Cx} {ss : List Stmt} {W : WX}, SCtx G T N rc rm X → Takes X W → chkSs T N m X.env.scope ss = true → PSs X ss (tS G W (xss G.P rc rm m))
  | .nil, X, ss, W, C, tk, h => by
    unfold chkSs at h
    cases ss with
    | nil => exact ssd_nil
    | cons _ _ => cases h
  | .cons m r, X, ss, W, C, tk, h => by
    unfold chkSs at h
    split at h
    · rw [Bool.and_eq_true] at h
      exact ssd_cons (chkS_ok m C tk h.1) (chkSs_ok r C tk h.2)
    · cases h
theorem chkC_ok : ∀ (m : Cs) {X : Cx} {cases : List MatchCase} {W : WX}, SCtx G T N rc rm X → Takes X W → chkC T N m X.env.scope cases = true → PCs G W X cases (xcs G.P rc rm m)
  | .nil, X, ss, W, C, tk, h => by
    unfold chkC at h
    cases ss with
    | nil => exact pcs_nil
    | cons _ _ => cases h
  | .cons q b r, X, ss, W, C, tk, h => by
    unfold chkC at h
    split at h
    · simp only [Bool.and_eq_true] at h
      obtain ⟨⟨h1, h2⟩, h3⟩ := h
      exact pcs_cons C.toCtxOk h1 (chkSs_ok b C tk h2) (chkC_ok r C tk h3)
    · cases h
end
end

/-! ### defs -/
/-- a def of the program: what the module knows of it, and its body's form -/
structure FdOk (G : Glob) (T : Tb) (K : PySem.W.Frag) (f : Nat) (fd : FD) : Prop where
  ex : ∃ name qual params body scope dvs kws N gd, FunD K name qual params body scope dvs kws (G.fa f) (G.fd f) ∧ FnScope N (G.ps f) scope ∧ N.length = fd.ns ∧ (G.ps f).length = fd.np ∧ fd.np ≤ fd.ns ∧ chkSs { T with gd := gd } N fd.body scope body = true ∧ gd ≤ 1 ∧ (gd = 0 ∨ ∃ p, G.fa f = He.fAd K p ∧ p ∈ G.tf)
section
variable {G : Glob} {T : Tb} {P : Program} {w : World} {mg : Str → Option Value} {base : Heap}
abbrev FnK (P : Program) (w : World) (mg : Str → Option Value) (base : Heap) (G : Glob) (k : Nat) (R : Rn) (f : Nat) : Prop := FnOk P w G.K mg base (L2.CX P w) k (G.fa f) (G.fd f) (G.ps f) (spOf G R f)
theorem fn_no {k f : Nat} {R : Rn} (h : ∀ args hp, R f args hp = .no) : FnK P w mg base G k R f :=
  ⟨fun vs H Q E ⟨ρ, args, hp, _, _, p⟩ => by rw [h] at p; exact False.elim p, fun A outer s H args us vs Q E _ _ _ _ ⟨ρ, args', hp, _, _, p⟩ => by rw [h] at p; exact False.elim p⟩
theorem fin_post {E : XK} {ρ : List Addr} {H : Hp} {r : SR} {Q : VK} (p : Post G E ρ H (relV G) (fin r) Q) : PostS G (fun cls d _ H => E cls d H) { nx := fun _ H' => Q .non H', rt := Q } ρ H r := by
  cases r with
  | nx sp h => exact fun ρ' H' σ' le k hr _ => p ρ' H' .non le k hr .non
  | rt v h => exact p
  | bk _ _ => exact False.elim p
  | ct _ _ => exact False.elim p
  | ex c fs sp h => exact fun ρ' H' σ' cls d le k hr _ er => p ρ' H' cls d le k hr er
  | no => exact False.elim p
theorem start_rel {ρ : List Addr} {H : Hp} {args : List PV} {vs : List V} (r : VRs G.K ρ H args vs) (N : List Str) (n : Nat) (hn : N.length = n) (hl : args.length ≤ n) : SlR G ρ H (args.map some ++ List.replicate (n - args.length) none) (L2.start N vs) := by
  subst hn
  unfold L2.start
  refine ⟨by simp [r.length], fun i p e => ?_⟩
  rcases Nat.lt_or_ge i args.length with hi | hi
  · rw [List.getElem?_append_left (by simpa using hi), List.getElem?_map] at e
    obtain ⟨q, e1, e2⟩ := Option.map_eq_some_iff.mp e
    cases e2
    obtain ⟨v, h1, h2⟩ := r.get e1
    have hi2 : i < vs.length := by rw [← r.length]; exact hi
    exact ⟨v, by rw [List.getElem?_append_left (by simpa using hi2), List.getElem?_map, h1]; rfl, h2⟩
  · rw [List.getElem?_append_right (by simpa using hi), List.getElem?_replicate] at e
    split at e <;> cases e
/-- a def's body, its code object told -/
theorem fn_code {K : PySem.W.Frag} {CX : CXT} {name qual : Str} {params : Arguments} {body : List Stmt} {scope : Scope} {dvs : List V} {kws : List (Str × V)} {f : Addr} {fd : FuncData} {N ps : List Str} {k : Nat} {sp : Sp} (F : FunD K name qual params body scope dvs kws f fd) (S : FnScope N ps scope) (len : ∀ vs H Q E, sp vs H Q E → vs.length = ps.length)
    (hbody : ∀ (c : Addr) (A : Around) (outer : List Env) (s : Shared) (H : Hp) (vs : List V) (Q : VK) (E : XK), (∀ p, f = He.fAd K p → (He.cT K p).1 = c) → Room k (A.deeper (envOfC qual scope s.heap.objs.size f (.ref c))) → sp vs H Q E →
      ∃ t, PSs (cxOf CX P w K mg base N qual scope f (.ref c) A outer s H E) body t ∧ t { nx := fun _ H' => Q .non H', rt := Q } (start N vs) H) : FnOk P w K mg base CX (k + 1) f fd ps sp := by
  obtain ⟨oc, od, dV, kV, doc, pm, an, cdv, ct, osl, rfl, lk, hcd, _, _⟩ := F.ex
  obtain ⟨c, rfl⟩ := He.codeIn_ref hcd
  refine fn_of lk hcd S len fun A outer s H vs Q E hr hsp => hbody c A outer s H vs Q E (fun p e => ?_) hr hsp
  subst e
  exact He.codeOf_eq lk rfl
theorem fns_ok (hT : TOk G T mg) (fl : FlOk G G.K) (he : HeOk G G.K) (exs : ∀ x c, T.gv.lookup x = some (.exc c) → ExOk G G.K c) (tb : ∀ p ∈ G.tf, GxR.TabB base mg (He.cT G.K p).1 (He.cT G.K p).2) (hF : ∀ f fd, G.P.fn f = some fd → FdOk G T G.K f fd) : ∀ (k f : Nat), FnK P w mg base G (5 * k + 1) (run G.P k) f
  | 0, f => fn_no fun _ _ => rfl
  | 1, f => fn_no fun _ _ => rfl
  | k + 2, f => by
    cases hf : G.P.fn f with
    | none => exact fn_no fun args hp => by show runF _ _ _ f args hp = .no; unfold runF; rw [hf]
    | some fd =>
      obtain ⟨name, qual, params, body, scope, dvs, kws, N, gd, F, S, hN, hps, hle, hc, hg1, hg⟩ := (hF f fd hf).ex
      have len : ∀ vs H Q E, spOf G (run G.P (k + 2)) f vs H Q E → vs.length = (G.ps f).length := fun vs H Q E ⟨ρ, args, hp, _, rs, p⟩ => by
        have p' : Post G E ρ H (relV G) (runF G.P (run G.P (k + 1)) (run G.P k) f args hp) Q := p
        unfold runF at p'
        rw [hf] at p'
        have p2 : Post G E ρ H (relV G) (if args.length = fd.np then fin (xss G.P (run G.P (k + 1)) (run G.P k) fd.body (args.map some ++ List.replicate (fd.ns - fd.np) none) hp) else .no) Q := p'
        split at p2
        · rename_i hl; rw [← rs.length, hl, hps]
        · exact False.elim p2
      have e5 : 5 * (k + 2) + 1 = (5 * k + 10) + 1 := by omega
      rw [e5]
      refine fn_code F S len fun c A outer s H vs Q E hcode hr ⟨ρ, args, hp, hr2, rs, p⟩ => ?_
      have p' : Post G E ρ H (relV G) (runF G.P (run G.P (k + 1)) (run G.P k) f args hp) Q := p
      unfold runF at p'
      rw [hf] at p'
      have p2 : Post G E ρ H (relV G) (if args.length = fd.np then fin (xss G.P (run G.P (k + 1)) (run G.P k) fd.body (args.map some ++ List.replicate (fd.ns - fd.np) none) hp) else .no) Q := p'
      split at p2
      · rename_i hl
        refine ⟨_, chkSs_ok (G := G) (T := { T with gd := gd }) (N := N) (rc := run G.P (k + 1)) (rm := run G.P k) fd.body (W := fun cls d _ H => E cls d H) ⟨⟨rfl, rfl, S.nd, rfl, ⟨5 * (k + 1) + 1, hr.mono (show 5 * (k + 1) + 1 + 4 * gd ≤ _ by omega), fun g => fns_ok hT fl he exs tb hF (k + 1) g⟩, ⟨5 * k + 1, hr.mono (show 5 * k + 1 + 1 + 4 * gd ≤ _ by omega), fun g => fns_ok hT fl he exs tb hF k g⟩, ⟨hT.nms, hT.mns, hT.exi, hT.gv, hT.mt⟩, hg.imp id fun ⟨p, e1, e2⟩ => ⟨c, (He.cT G.K p).2, by rw [← hcode p e1]; exact tb p e2, rfl, List.mem_map.mpr ⟨p, e2, rfl⟩⟩⟩, S.kind, passes_of rfl, rfl, rfl, fl, he, exs, hr.mono (by omega)⟩ (takes_of rfl rfl rfl rfl) hc, ?_⟩
        refine ⟨ρ, _, hp, ?_, hr2, fin_post p2⟩
        rw [← hl]
        exact start_rel rs N fd.ns hN (by rw [hl]; exact hle)
      · exact False.elim p2
end
end Fx

/-! A program's description: what the head is asked, what its defs then keep. -/
namespace Fx
open PySem PySem.Spec PyProof.Rows L2
theorem lookup_zip_some {α β : Type} [BEq α] [LawfulBEq α] : ∀ {ks : List α} {vs : List β}, ks.length = vs.length → ∀ k ∈ ks, ((ks.zip vs).lookup k).isSome = true
  | [], _, _, k, h => by cases h
  | a :: ks, [], e, k, h => by cases e
  | a :: ks, v :: vs, e, k, h => by
    rw [List.zip_cons_cons, List.lookup_cons]
    by_cases hk : k = a
    · subst hk; simp
    · rw [beq_eq_false_iff_ne.mpr hk]
      exact lookup_zip_some (Nat.succ.inj e) k ((List.mem_cons.mp h).resolve_left hk)
theorem filterMap_zip {α β : Type} [BEq α] [LawfulBEq α] : ∀ {ks : List α} {vs : List β}, ks.length = vs.length → ks.Nodup → ks.filterMap (fun n => ((ks.zip vs).lookup n).map (n, ·)) = ks.zip vs
  | [], _, _, _ => rfl
  | a :: ks, [], e, _ => by cases e
  | a :: ks, v :: vs, e, nd => by
    obtain ⟨h1, h2⟩ := List.nodup_cons.mp nd
    rw [List.zip_cons_cons, List.filterMap_cons]
    have e1 : (List.lookup a ((a, v) :: ks.zip vs)).map (a, ·) = some (a, v) := by rw [List.lookup_cons]; simp
    rw [e1]
    show (a, v) :: _ = _
    congr 1
    conv => rhs; rw [← filterMap_zip (Nat.succ.inj e) h2]
    have gen : ∀ (l : List α), (∀ n ∈ l, n ≠ a) → l.filterMap (fun n => (List.lookup n ((a, v) :: ks.zip vs)).map (n, ·)) = l.filterMap (fun n => ((ks.zip vs).lookup n).map (n, ·)) := by
      intro l
      induction l with
      | nil => intro _; rfl
      | cons n l ih =>
        intro hn
        rw [List.filterMap_cons, List.filterMap_cons, ih fun m hm => hn m (List.mem_cons_of_mem _ hm), List.lookup_cons, beq_eq_false_iff_ne.mpr (hn n List.mem_cons_self)]
    exact gen ks fun n hn z => h1 (z ▸ hn)
theorem bind_plain {x qual : Str} {args : List Arg} {body : List Stmt} {scope : Scope} {kV doc pm cdv ct : Value} {an : Option Addr} {us : List Value} (hl : us.length = args.length) (nd : (args.map (·.arg)).Nodup) :
    bindArgs (PySem.W.fnOf x qual ⟨[], args, none, [], [], none, []⟩ body scope .none kV doc pm an cdv ct) ⟨us, []⟩ = pure ((args.map (·.arg)).zip us) := by
  have hl2 : (args.map (·.arg)).length = us.length := by simp [hl]
  have e1 : ((args.map (·.arg)).take (args.map (·.arg)).length).filter (fun n => (((args.map (·.arg)).zip us).lookup n).isNone) = [] := by
    rw [List.take_length, List.filter_eq_nil_iff]
    intro n hn
    have := lookup_zip_some hl2 n hn
    cases q : ((args.map (·.arg)).zip us).lookup n with
    | none => rw [q] at this; cases this
    | some _ => simp
  have e2 := filterMap_zip hl2 nd
  have e0 : seqItems? Value.none = pure none := rfl
  unfold bindArgs
  simp only [PySem.W.fnOf, List.map_nil, List.nil_append, List.append_nil, e0, pure_bind, List.forIn_nil, Option.getD_none, List.drop_nil, Array.toList_empty, List.length_nil, Nat.sub_zero, hl2, Nat.lt_irrefl, gt_iff_lt, decide_false, Bool.false_and, Bool.false_eq_true, if_false, List.drop_length, List.zip_nil_left, List.isEmpty_nil, Bool.not_true]
  rw [← hl2, e1]
  simp only [List.isEmpty_nil, Bool.not_true, Bool.false_eq_true, if_false, List.zip_nil_right, List.forIn_nil, pure_bind]
  rw [e2]

structure DF where
  at_ : Str × Option Str
  qual : Str
  st : Stmt
  N : List Str
  ps : List Str
  fd : Option FD
  gd : Nat := 0
structure Desc where
  defs : List (Nat × DF)
  cls : List (Nat × Str)
  gv : List (Str × GV)
  nms : List Str
  mns : List Str
  mts : List ((Nat × Nat) × Nat)
  inis : List (Nat × Nat)
  fls : List (Nat × Nat)
  exi : List (Nat × Option (Nat × Nat))
  subs : List ((Nat × Nat) × Bool)
def Desc.pg (D : Desc) : Pg where
  fn := fun f => (D.defs.lookup f).bind (·.fd)
  mt := fun c m => D.mts.lookup (c, m)
  ini := fun c => D.inis.lookup c
  exi := fun c => (D.exi.lookup c).map fun o => o.map (·.1)
  sub := fun c d => D.subs.lookup (c, d)
  fl := fun c f => D.fls.contains (c, f)
def Desc.tb (D : Desc) : Tb := ⟨D.gv, D.nms, D.mns, fun c => (D.exi.lookup c).map fun o => o.map (·.1), 0⟩
/-- the defs with a generator expression -/
def Desc.tf (D : Desc) : List He.Defn := D.defs.filterMap fun q => if q.2.gd = 0 then none else some q.2.at_
def defNm : Stmt → Str
  | .FunctionDef n _ _ _ _ _ _ _ _ _ => n
  | _ => Str.empty
def DF.d (x : DF) : He.DefD := ⟨x.at_, defNm x.st, x.qual, defArgs x.st, defBody x.st, defScope x.st, [], []⟩
def Desc.fn (D : Desc) : List He.DefD := D.defs.map fun q => q.2.d
def Desc.cn (D : Desc) (c : Nat) : Str := (D.cls.lookup c).getD Str.empty
def gvFa (x : Str) : GV → List He.Fa
  | .fn _ _ => [He.Fa.glo x, He.Fa.keep x]
  | .cls _ _ _ => [He.Fa.glo x, He.Fa.cls x, He.Fa.mkr x]
  | .val (.int i) => [He.Fa.int x i]
  | .val (.str z) => [He.Fa.str x z]
  | .val _ => [He.Fa.glo x]
  | .exc _ => [He.Fa.glo x]
  | .bi => [He.Fa.free x]
def Desc.fa (D : Desc) : List He.Fa := D.gv.flatMap (fun q => gvFa q.1 q.2)
  ++ (D.mts.map (fun q => He.Fa.meth (D.cn q.1.1) (D.mns[q.1.2]?.getD Str.empty)) ++ D.fls.map (fun q => He.Fa.noat (D.cn q.1) (D.nms[q.2]?.getD Str.empty)))
mutual
def pvK (K : PySem.W.Frag) : PV → Value → Bool
  | .non, .none => true
  | .bl a, .bool b => a == b
  | .int i, .int j _ => decide (i = j)
  | .str x, .str y _ => decide (x = y)
  | .tup l, .ref a => match K.lookup a with
    | some ⟨.type c, none, .seq its _, _⟩ => decide (c = "tuple") && (decide (its.size ≤ sizeLine) && pvsK K l its.toList)
    | _ => false
  | _, _ => false
def pvsK (K : PySem.W.Frag) : List PV → List Value → Bool
  | [], [] => true
  | p :: l, v :: r => pvK K p v && pvsK K l r
  | _, _ => false
end
mutual
theorem pvK_ok {K : PySem.W.Frag} : ∀ {p : PV} {u : Value}, pvK K p u = true → ∃ a, L2.RelV a u ∧ ∀ ρ H, VR K ρ H p a
  | .non, u, h => by cases u <;> first | exact ⟨.non, rfl, fun _ _ => .non⟩ | cases h
  | .bl a, u, h => by
    cases u with
    | bool b => exact ⟨.bl a, by rw [eq_of_beq (show (a == b) = true from h)]; rfl, fun _ _ => .bl a⟩
    | _ => cases h
  | .int i, u, h => by
    cases u with
    | int j t => exact ⟨.int i, ⟨t, by rw [of_decide_eq_true (show decide (i = j) = true from h)]⟩, fun _ _ => .int i⟩
    | _ => cases h
  | .str i, u, h => by
    cases u with
    | str j t => exact ⟨.str i, ⟨t, by rw [of_decide_eq_true (show decide (i = j) = true from h)]⟩, fun _ _ => .str i⟩
    | _ => cases h
  | .tup l, u, h => by
    cases u with
    | ref a =>
      have h' : (match K.lookup a with
        | some ⟨.type c, none, .seq its _, _⟩ => decide (c = "tuple") && (decide (its.size ≤ sizeLine) && pvsK K l its.toList)
        | _ => false) = true := h
      split at h'
      · rename_i c its n sl e
        simp only [Bool.and_eq_true] at h'
        obtain ⟨h1, h2, h3⟩ := h'
        obtain ⟨vs, rv, hv⟩ := pvsK_ok h3
        exact ⟨.ref a, rfl, fun ρ H => .tup (.inr ⟨_, its, n, e, congrArg Value.type (of_decide_eq_true h1), rfl, of_decide_eq_true h2, rv⟩) (hv ρ H)⟩
      · cases h'
    | _ => cases h
  | .ref _, u, h => by cases u <;> cases h
theorem pvsK_ok {K : PySem.W.Frag} : ∀ {l : List PV} {us : List Value}, pvsK K l us = true → ∃ vs, Vals vs us ∧ ∀ ρ H, VRs K ρ H l vs
  | [], us, h => by cases us <;> first | exact ⟨[], .nil, fun _ _ => .nil⟩ | cases h
  | p :: l, us, h => by
    cases us with
    | nil => cases h
    | cons v r =>
      have h' : (pvK K p v && pvsK K l r) = true := h
      rw [Bool.and_eq_true] at h'
      obtain ⟨a, r1, v1⟩ := pvK_ok h'.1
      obtain ⟨vs, r2, v2⟩ := pvsK_ok h'.2
      exact ⟨a :: vs, .cons r1 r2, fun ρ H => .cons (v1 ρ H) (v2 ρ H)⟩
end
theorem tupK_of {K : PySem.W.Frag} {l : List PV} {a : Addr} (h : pvK K (.tup l) (.ref a) = true) : TupK K a := by
  have h' : (match K.lookup a with
    | some ⟨.type c, none, .seq its _, _⟩ => decide (c = "tuple") && (decide (its.size ≤ sizeLine) && pvsK K l its.toList)
    | _ => false) = true := h
  split at h'
  · rename_i c its n sl e
    simp only [Bool.and_eq_true] at h'
    exact ⟨_, e, congrArg Value.type (of_decide_eq_true h'.1), rfl⟩
  · cases h'
def noList (K : PySem.W.Frag) : Bool := K.all fun q => match q.2.cls with
  | .type c => !decide (c = "list")
  | _ => true
def tupFact (K : PySem.W.Frag) (x : Str) (g : GV) : Bool := match g with
  | .val (.int _) => true
  | .val (.str _) => true
  | .val v => pvK K v (.ref (He.ga K x))
  | _ => true
/-! ### the text's own check -/
def plainArgs : Arguments → Option (List Str)
  | ⟨[], args, none, [], [], none, []⟩ => some (args.map (·.arg))
  | _ => none
def DF.ok (D : Desc) (x : DF) : Bool := decide (plainArgs (defArgs x.st) = some x.ps) && decide x.ps.Nodup && match x.fd with
  | none => true
  | some fd => C8.scC x.N x.ps (defScope x.st) && decide (x.N.length = fd.ns) && decide (x.ps.length = fd.np) && decide (fd.np ≤ fd.ns) && decide (x.gd ≤ 1) && chkSs { D.tb with gd := x.gd } x.N fd.body (defScope x.st) (defBody x.st)
def allNil (dss : List (List PV)) : Bool := dss.all List.isEmpty
def gvW (D : Desc) (x : Str) (g : GV) : Bool := match g with
  | .fn f dss => (match D.defs.lookup f with
    | some d => decide (d.at_ = (x, none))
    | none => false) && allNil dss
  | .cls c f dss => (match D.defs.lookup f with
    | some d => decide (d.at_ = (x, some ("__init__" : Str)))
    | none => false) && (decide (D.cls.lookup c = some x) && (decide (D.inis.lookup c = some f) && allNil dss))
  | .exc c => decide (D.cls.lookup c = some x) && (D.exi.lookup c).isSome
  | _ => true
def mtW (D : Desc) (q : (Nat × Nat) × Nat) : Bool := match D.cls.lookup q.1.1, D.mns[q.1.2]?, D.defs.lookup q.2 with
  | some c, some m, some d => decide (d.at_ = (c, some m))
  | _, _, _ => false
/-- the text of an __init__ that keeps its one argument -/
def initB (me pn F : Str) : List Stmt → Bool
  | [.Assign [.Attribute (.Name a _) G _] (.Name b _) _] => decide (a = me) && (decide (G = F) && decide (b = pn))
  | _ => false
def exiW (D : Desc) (q : Nat × Option (Nat × Nat)) : Bool := match q.2 with
  | none => true
  | some (f, g) => (match D.defs.lookup g, D.nms[f]? with
    | some d, some F => (match d.ps, d.fd with
      | [me, pn], none => decide (d.N = d.ps) && C8.scC d.N d.ps (defScope d.st) && initB me pn F (defBody d.st) && (visB (defScope d.st) me && visB (defScope d.st) pn && nameB me && nameB pn)
      | _, _ => false)
    | _, _ => false)
def Desc.wf (D : Desc) : Bool := D.exi.all (exiW D) && decide D.nms.Nodup && D.defs.all (fun q => DF.ok D q.2) && D.gv.all (fun q => gvW D q.1 q.2) && D.mts.all (mtW D)
def dumF : FuncData := PySem.W.fnOf Str.empty Str.empty ⟨[], [], none, [], [], none, []⟩ [] ⟨.function, [], false, false, []⟩ .none .none .none .none none .none .none
def fdAt (K : PySem.W.Frag) (a : Addr) : FuncData := match K.lookup a with
  | some ⟨_, _, .func fd, _⟩ => fd
  | _ => dumF
def Desc.fad (D : Desc) (K : PySem.W.Frag) (f : Nat) : Addr := match D.defs.lookup f with
  | some d => He.fAd K d.at_
  | none => 0
def Desc.glob (D : Desc) (K : PySem.W.Frag) (nd : D.nms.Nodup) : Glob where
  K := K
  P := D.pg
  nms := D.nms
  mns := D.mns
  cm := fun c => He.ga K (D.cn c)
  fa := D.fad K
  fd := fun f => fdAt K (D.fad K f)
  ps := fun f => match D.defs.lookup f with
    | some d => d.ps
    | none => []
  nd := nd
  tf := D.tf
def eqO2 (a b : Option (Option Value)) : Bool := decide (a = b)
/-- an own exception class whose __init__ keeps a field: its object's shape -/
def oexB (K : PySem.W.Frag) (C : Addr) : Bool := (match K.lookup C with
  | some o => (match o.cls, o.data, o.slots.toList with
    | .type t, .cls cd, [_, _, _, _, some (.builtin n), _] => (match cd.mro with
      | .ref E :: bm => decide (t = "type") && decide (E = C) && decide (n = "ValueError.__new__") && (!cd.hasDel && (cd.hasDict && PySem.HandSPX.refsVE bm))
      | _ => false)
    | _, _, _ => false)
  | none => false) && (eqO2 (PySem.W.findIn K (.ref C) "__setattr__") (some (some (.builtin "object.__setattr__"))) && (decide (PySem.W.subIn K (.ref C) (.type "BaseException") = some true) && (decide (PySem.W.typeIn K (.ref C) = some (.type "type")) && PySem.W.keepIn K (.ref C))))
theorem oexB_ok {K : PySem.W.Frag} {C : Addr} (h : oexB K C = true) : OexC K C := by
  unfold oexB at h
  simp only [Bool.and_eq_true] at h
  obtain ⟨h0, h1, h2, h3, h4⟩ := h
  refine ⟨?_, of_decide_eq_true h1, of_decide_eq_true h2, of_decide_eq_true h3, h4⟩
  split at h0
  · rename_i o ho
    obtain ⟨oc, od, oda, osl⟩ := o
    obtain ⟨sl⟩ := osl
    split at h0
    · rename_i t cd k0 k1 k2 k3 n k5 e1 e2 e3
      have e1' : oc = _ := e1
      have e2' : oda = _ := e2
      subst e1' e2'
      split at h0
      · rename_i E bm em
        simp only [Bool.and_eq_true] at h0
        obtain ⟨⟨⟨h5, h6⟩, h7⟩, h8, h9, h10⟩ := h0
        have a1 := of_decide_eq_true h5
        have a2 := of_decide_eq_true h6
        have a3 := of_decide_eq_true h7
        obtain ⟨nm, bs, mro, ns, qn, hd, sn, sub, ab, col, del⟩ := cd
        dsimp only at em h8 h9
        subst a1 a2 a3 em h9
        have h8' : del = false := by simpa using h8
        subst h8'
        have e3' : sl = _ := e3
        subst e3'
        exact ⟨nm, qn, ns, bs, bm, sn, sub, ab, col, od, k0, k1, k2, k3, k5, ho, h10⟩
      · cases h0
    · cases h0
  · cases h0
/-- what isinstance asks of a caught exception's class -/
def excCB (K : PySem.W.Frag) (C : Addr) : Bool := xfB K C && (eqO2 (PySem.W.findIn K (.ref C) "__class__") (some (some (.builtin "object.__class__"))) && (eqO2 (PySem.W.specialIn K (.builtin "object.__class__") "__get__") (some (some (.builtin "getset_descriptor.__get__"))) && (decide (PySem.W.takesIn K (.builtin "object.__class__") = some true) && decide (PySem.W.mroIn K C (.type "object") = some true))))
theorem excCB_ok {K : PySem.W.Frag} {C : Addr} (h : excCB K C = true) : ExcC K C ∧ XfC K C := by
  unfold excCB at h
  simp only [Bool.and_eq_true] at h
  obtain ⟨h0, h1, h2, h3, h4⟩ := h
  have x := xfB_ok h0
  exact ⟨⟨x.ga, x.gg, x.exC, x.hdC, of_decide_eq_true h1, of_decide_eq_true h2, of_decide_eq_true h3, of_decide_eq_true h4⟩, x⟩
def exiFact (D : Desc) (K : PySem.W.Frag) (q : Nat × Option (Nat × Nat)) : Bool := match q.2 with
  | none => (He.Fa.exc (D.cn q.1)).ok K
  | some (f, g) => let C := He.ga K (D.cn q.1)
    oexB K C && excCB K C && (eqO2 (PySem.W.findIn K (.ref C) (D.nms[f]?.getD Str.empty)) (some none) && (eqO2 (PySem.W.findIn K (.ref C) "__init__") (some (some (.ref (D.fad K g)))) && decide (PySem.W.typeIn K (.ref (D.fad K g)) = some (.type "function"))))
def subFact (D : Desc) (K : PySem.W.Frag) (q : (Nat × Nat) × Bool) : Bool := decide (PySem.W.exmOne K (.ref (He.ga K (D.cn q.1.1))) (.ref (He.ga K (D.cn q.1.2))) = some q.2) && decide (PySem.W.kitOne K (.ref (He.ga K (D.cn q.1.1))) (.ref (He.ga K (D.cn q.1.2))) = some q.2)
def Desc.ex (D : Desc) (K : PySem.W.Frag) : Bool := noList K && (D.gv.all (fun q => tupFact K q.1 q.2) && (D.exi.all (exiFact D K) && D.subs.all (subFact D K)))
section
variable {D : Desc} {K : PySem.W.Frag} {h : Heap} {mg : Str → Option Value} {nd : D.nms.Nodup}
theorem wf_parts (h : D.wf = true) : D.nms.Nodup ∧ (∀ d ∈ D.defs, DF.ok D d.2 = true) ∧ (∀ q ∈ D.gv, gvW D q.1 q.2 = true) ∧ (∀ q ∈ D.mts, mtW D q = true) ∧ ∀ q ∈ D.exi, exiW D q = true := by
  unfold Desc.wf at h
  simp only [Bool.and_eq_true] at h
  obtain ⟨⟨⟨⟨h0, h1⟩, h2⟩, h3⟩, h4⟩ := h
  exact ⟨of_decide_eq_true h1, List.all_eq_true.mp h2, List.all_eq_true.mp h3, List.all_eq_true.mp h4, List.all_eq_true.mp h0⟩
theorem lookup_in {α β : Type} [BEq α] [LawfulBEq α] {k : α} {v : β} : ∀ {l : List (α × β)}, l.lookup k = some v → (k, v) ∈ l
  | [], e => by cases e
  | (a, b) :: l, e => by
    rw [List.lookup_cons] at e
    by_cases hk : k = a
    · subst hk
      rw [beq_self_eq_true] at e
      cases e
      exact List.mem_cons_self
    · rw [beq_eq_false_iff_ne.mpr hk] at e
      exact List.mem_cons_of_mem _ (lookup_in e)
theorem funD_at {x qual : Str} {params : Arguments} {body : List Stmt} {scope : Scope} {dvs : List V} {kws : List (Str × V)} {f : Addr} {fd : FuncData} (F : FunD K x qual params body scope dvs kws f fd) : FunD K x qual params body scope dvs kws f (fdAt K f) := by
  obtain ⟨oc, od, dV, kV, doc, pm, an, cdv, ct, osl, e, lk, r⟩ := F.ex
  have : fdAt K f = fd := by unfold fdAt; rw [lk]
  rw [this]
  exact F
theorem def_at (sd : He.SaysD D.fa D.fn K) {f : Nat} {d : DF} (e : D.defs.lookup f = some d) : FunD K (defNm d.st) d.qual (defArgs d.st) (defBody d.st) (defScope d.st) [] [] (D.fad K f) (fdAt K (D.fad K f)) := by
  have hm : d.d ∈ D.fn := List.mem_map.mpr ⟨(f, d), lookup_in e, rfl⟩
  obtain ⟨fd, F⟩ := sd.defs hm
  have ea : D.fad K f = He.fAd K d.at_ := by unfold Desc.fad; rw [e]
  rw [ea]
  exact funD_at F
theorem binds_at (sd : He.SaysD D.fa D.fn K) (wf : D.wf = true) {f : Nat} {d : DF} (e : D.defs.lookup f = some d) : L2.Binds K (fdAt K (D.fad K f)) d.ps [] ∧ ∀ (s : Shared) (us : List Value), us.length = d.ps.length → BindsTo s (fdAt K (D.fad K f)) ⟨us, []⟩ (d.ps.zip us) := by
  have F := def_at sd e
  have ok := (wf_parts wf).2.1 (f, d) (lookup_in e)
  unfold DF.ok at ok
  simp only [Bool.and_eq_true] at ok
  obtain ⟨⟨h1, h2⟩, _⟩ := ok
  have h1' := of_decide_eq_true h1
  have h2' := of_decide_eq_true h2
  have key : ∀ (kV doc pm : Value) (an : Option Addr) (cdv ct : Value) (us : List Value), us.length = d.ps.length → bindArgs (PySem.W.fnOf (defNm d.st) d.qual (defArgs d.st) (defBody d.st) (defScope d.st) .none kV doc pm an cdv ct) ⟨us, []⟩ = pure (d.ps.zip us) := fun kV doc pm an cdv ct us hl => by
    generalize defArgs d.st = as at h1' ⊢
    unfold plainArgs at h1'
    split at h1'
    · rename_i args
      have ea := Option.some.inj h1'
      rw [← ea]
      exact bind_plain (by rw [hl, ← ea, List.length_map]) (by rw [ea]; exact h2')
    · cases h1'
  exact ⟨FunD.bindsN F key, fun s us hl => FunD.bindsA F key s us hl⟩
theorem dfl_at (sd : He.SaysD D.fa D.fn K) (wf : D.wf = true) {f : Nat} {d : DF} (e : D.defs.lookup f = some d) : Dfl (D.glob K nd) K f [] := by
  have ep : (D.glob K nd).ps f = d.ps := by show (match D.defs.lookup f with | some d => d.ps | none => []) = _; rw [e]
  exact ⟨[], [], by rw [ep]; exact (binds_at sd wf e).1, .nil, fun _ _ => .nil⟩
theorem all_nil {dss : List (List PV)} (h : allNil dss = true) : ∀ ds ∈ dss, ds = [] := fun ds hd => by
  have := List.all_eq_true.mp h ds hd
  simpa using this
theorem fact_in (sd : He.SaysD D.fa D.fn K) {x : Str} {g : GV} (hg : (x, g) ∈ D.gv) {f : He.Fa} (hf : f ∈ gvFa x g) : f.ok K = true :=
  sd.facts (List.mem_append_left _ (List.mem_flatMap.mpr ⟨(x, g), hg, hf⟩))
theorem tok_of (KX : K.In h) (G : h.Ns mainGlobals mg) (wf : D.wf = true) (sd : He.SaysD D.fa D.fn K) (ex : D.ex K = true) : TOk (D.glob K nd) D.tb mg := by
  obtain ⟨_, w2, w3, w4, w5⟩ := wf_parts wf
  unfold Desc.ex at ex
  simp only [Bool.and_eq_true] at ex
  refine ⟨rfl, rfl, fun _ => rfl, fun x g e => ?_, fun c m f e => ?_⟩
  · have hm := lookup_in e
    have hw := w3 _ hm
    have hx := List.all_eq_true.mp ex.2.1 _ hm
    have fi : ∀ {f : He.Fa}, f ∈ gvFa x g → f.ok K = true := fun {f} => fact_in sd hm (f := f)
    cases g with
    | fn f dss =>
      have hw' : ((match D.defs.lookup f with | some d => decide (d.at_ = (x, none)) | none => false) && allNil dss) = true := hw
      rw [Bool.and_eq_true] at hw'
      cases ed : D.defs.lookup f with
      | none => rw [ed] at hw'; cases hw'.1
      | some d =>
        rw [ed] at hw'
        have ea : d.at_ = (x, none) := of_decide_eq_true hw'.1
        have ef : (D.glob K nd).fa f = He.ga K x := by show D.fad K f = _; unfold Desc.fad; rw [ed]; show He.fAd K d.at_ = _; rw [ea]; rfl
        refine ⟨by rw [ef]; exact He.glo_ok KX G (fi (f := He.Fa.glo x) (by simp [gvFa])), by rw [ef]; exact He.keep_ok (fi (f := He.Fa.keep x) (by simp [gvFa])), fun ds hd => ?_⟩
        rw [all_nil hw'.2 ds hd]
        exact dfl_at sd wf ed
    | cls c f dss =>
      have hw' : ((match D.defs.lookup f with | some d => decide (d.at_ = (x, some ("__init__" : Str))) | none => false) && (decide (D.cls.lookup c = some x) && (decide (D.inis.lookup c = some f) && allNil dss))) = true := hw
      simp only [Bool.and_eq_true] at hw'
      obtain ⟨h1, h2, h3, h4⟩ := hw'
      cases ed : D.defs.lookup f with
      | none => rw [ed] at h1; cases h1
      | some d =>
        rw [ed] at h1
        have ea : d.at_ = (x, some ("__init__" : Str)) := of_decide_eq_true h1
        have ec : D.cn c = x := by unfold Desc.cn; rw [of_decide_eq_true h2]; rfl
        have eC : (D.glob K nd).cm c = He.ga K x := by show He.ga K (D.cn c) = _; rw [ec]
        have ef : (D.glob K nd).fa f = He.ma K (He.ga K x) "__init__" := by show D.fad K f = _; unfold Desc.fad; rw [ed]; show He.fAd K d.at_ = _; rw [ea]; rfl
        refine ⟨by rw [eC]; exact He.glo_ok KX G (fi (f := He.Fa.glo x) (by simp [gvFa])), fun ds hd => ?_⟩
        rw [all_nil h4 ds hd]
        exact ⟨of_decide_eq_true h3, by rw [eC, ef]; exact He.mkr_ok (fi (f := He.Fa.mkr x) (by simp [gvFa])), by rw [eC]; exact He.cls_ok (fi (f := He.Fa.cls x) (by simp [gvFa])), dfl_at sd wf ed⟩
    | val v =>
      have tup : ∀ {v : PV}, pvK K v (.ref (He.ga K x)) = true → (He.Fa.glo x).ok K = true → GvOk (D.glob K nd) K mg x (.val v) := fun {v} h1 h2 => by
        obtain ⟨a, r, hv⟩ := pvK_ok h1
        exact ⟨a, _, He.glo_ok KX G h2, r, hv, fun ⟨l, e⟩ => ⟨_, rfl, by subst e; exact tupK_of h1⟩⟩
      cases v with
      | int i =>
        obtain ⟨t, et⟩ := He.int_ok KX G (fi (f := He.Fa.int x i) (by simp [gvFa]))
        exact ⟨.int i, _, et, ⟨t, rfl⟩, fun _ _ => .int i, fun ⟨l, e⟩ => by cases e⟩
      | str z =>
        obtain ⟨t, et⟩ := He.str_ok KX G (fi (f := He.Fa.str x z) (by simp [gvFa]))
        exact ⟨.str z, _, et, ⟨t, rfl⟩, fun _ _ => .str z, fun ⟨l, e⟩ => by cases e⟩
      | non => cases hx
      | bl b => cases hx
      | tup l => exact tup hx (fi (f := He.Fa.glo x) (by simp [gvFa]))
      | ref n => cases hx
    | exc c =>
      have ec : D.cn c = x := by unfold Desc.cn; rw [of_decide_eq_true (Bool.and_eq_true_iff.mp (show (decide (D.cls.lookup c = some x) && (D.exi.lookup c).isSome) = true from hw)).1]; rfl
      have eC : (D.glob K nd).cm c = He.ga K x := by show He.ga K (D.cn c) = _; rw [ec]
      show mg x = some (.ref ((D.glob K nd).cm c))
      rw [eC]
      exact He.glo_ok KX G (fi (f := He.Fa.glo x) (by simp [gvFa]))
    | bi => exact He.free_ok KX G (fi (f := He.Fa.free x) (by simp [gvFa]))
  · have hm := lookup_in (show D.mts.lookup (c, m) = some f from e)
    have hw := w4 _ hm
    unfold mtW at hw
    split at hw
    · rename_i cn mn d e1 e2 e3
      have ea : d.at_ = (cn, some mn) := of_decide_eq_true hw
      have ec : D.cn c = cn := by unfold Desc.cn; rw [show D.cls.lookup c = some cn from e1]; rfl
      have eC : (D.glob K nd).cm c = He.ga K cn := by show He.ga K (D.cn c) = _; rw [ec]
      have e3' : D.defs.lookup f = some d := e3
      have ef : (D.glob K nd).fa f = He.ma K (He.ga K cn) mn := by show D.fad K f = _; unfold Desc.fad; rw [e3']; show He.fAd K d.at_ = _; rw [ea]; rfl
      have ep : (D.glob K nd).ps f = d.ps := by show (match D.defs.lookup f with | some d => d.ps | none => []) = _; rw [e3']
      have fm : (He.Fa.meth (D.cn c) (D.mns[m]?.getD Str.empty)).ok K = true := sd.facts (List.mem_append_right _ (List.mem_append_left _ (List.mem_map.mpr ⟨((c, m), f), hm, rfl⟩)))
      rw [ec, show D.mns[m]? = some mn from e2] at fm
      refine ⟨mn, e2, by rw [eC, ef]; exact He.meth_ok fm, ?_⟩
      rw [ep]
      exact (binds_at sd wf e3').1
    · cases hw
theorem fl_of (sd : He.SaysD D.fa D.fn K) : FlOk (D.glob K nd) K := fun c f e name hn => by
  have hm : (c, f) ∈ D.fls := by simpa [Desc.glob, Desc.pg] using e
  have fm : (He.Fa.noat (D.cn c) (D.nms[f]?.getD Str.empty)).ok K = true := sd.facts (List.mem_append_right _ (List.mem_append_right _ (List.mem_map.mpr ⟨(c, f), hm, rfl⟩)))
  rw [show D.nms[f]? = some name from hn] at fm
  exact He.noat_ok fm
theorem fd_of (wf : D.wf = true) (sd : He.SaysD D.fa D.fn K) : ∀ f fd, D.pg.fn f = some fd → FdOk (D.glob K nd) D.tb K f fd := fun f fd e => by
  obtain ⟨d, e1, e2⟩ := Option.bind_eq_some_iff.mp (show (D.defs.lookup f).bind (·.fd) = some fd from e)
  have ok := (wf_parts wf).2.1 (f, d) (lookup_in e1)
  unfold DF.ok at ok
  rw [e2] at ok
  simp only [Bool.and_eq_true] at ok
  obtain ⟨_, ⟨⟨⟨⟨h1, h2⟩, h3⟩, h4⟩, h6⟩, h5⟩ := ok
  have ep : (D.glob K nd).ps f = d.ps := by show (match D.defs.lookup f with | some d => d.ps | none => []) = _; rw [e1]
  have ea : (D.glob K nd).fa f = He.fAd K d.at_ := by show D.fad K f = _; unfold Desc.fad; rw [e1]
  refine ⟨_, _, _, _, _, _, _, d.N, d.gd, def_at sd e1, ?_, of_decide_eq_true h2, ?_, of_decide_eq_true h4, h5, of_decide_eq_true h6, ?_⟩
  · rw [ep]; exact C8.fnScope_by h1
  · rw [ep]; exact of_decide_eq_true h3
  · by_cases hg : d.gd = 0
    · exact .inl hg
    · exact .inr ⟨d.at_, ea, List.mem_filterMap.mpr ⟨(f, d), lookup_in e1, by simp [hg]⟩⟩
theorem he_of (ex : D.ex K = true) : HeOk (D.glob K nd) K := by
  unfold Desc.ex at ex
  simp only [Bool.and_eq_true] at ex
  obtain ⟨_, _, h3, h4⟩ := ex
  have get : ∀ d f, (D.glob K nd).P.exi d = some (some f) → ∃ g, (d, some (f, g)) ∈ D.exi := fun d f e => by
    obtain ⟨o, e1, e2⟩ := Option.map_eq_some_iff.mp (show (D.exi.lookup d).map (fun o => o.map (·.1)) = some (some f) from e)
    obtain ⟨⟨a, g⟩, rfl, e4⟩ := Option.map_eq_some_iff.mp e2
    exact ⟨g, by rw [← e4]; exact lookup_in e1⟩
  have fct : ∀ d f, (D.glob K nd).P.exi d = some (some f) → excCB K (He.ga K (D.cn d)) = true ∧ PySem.W.findIn K (.ref (He.ga K (D.cn d))) (D.nms[f]?.getD Str.empty) = some none := fun d f e => by
    obtain ⟨g, hm⟩ := get d f e
    have hx : (oexB K (He.ga K (D.cn d)) && excCB K (He.ga K (D.cn d)) && (eqO2 (PySem.W.findIn K (.ref (He.ga K (D.cn d))) (D.nms[f]?.getD Str.empty)) (some none) && (eqO2 (PySem.W.findIn K (.ref (He.ga K (D.cn d))) "__init__") (some (some (.ref (D.fad K g)))) && decide (PySem.W.typeIn K (.ref (D.fad K g)) = some (.type "function"))))) = true := List.all_eq_true.mp h3 _ hm
    simp only [Bool.and_eq_true] at hx
    exact ⟨hx.1.2, of_decide_eq_true hx.2.1⟩
  refine ⟨fun c d b e => ?_, fun d ⟨f, e⟩ => (excCB_ok (fct d f e).1).1, fun d f e name hn => ⟨(excCB_ok (fct d f e).1).2, ?_⟩⟩
  · have hm := lookup_in (show D.subs.lookup (c, d) = some b from e)
    have hx : (decide (PySem.W.exmOne K (.ref (He.ga K (D.cn c))) (.ref (He.ga K (D.cn d))) = some b) && decide (PySem.W.kitOne K (.ref (He.ga K (D.cn c))) (.ref (He.ga K (D.cn d))) = some b)) = true := List.all_eq_true.mp h4 _ hm
    simp only [Bool.and_eq_true] at hx
    exact ⟨of_decide_eq_true hx.1, of_decide_eq_true hx.2⟩
  · have := (fct d f e).2
    rw [show D.nms[f]? = some name from hn] at this
    exact this
theorem exs_of (wf : D.wf = true) (sd : He.SaysD D.fa D.fn K) (ex : D.ex K = true) : ∀ x c, D.tb.gv.lookup x = some (.exc c) → ExOk (D.glob K nd) K c := fun x c e => by
  have wp := wf_parts wf
  unfold Desc.ex at ex
  simp only [Bool.and_eq_true] at ex
  obtain ⟨_, _, h3, h4⟩ := ex
  have hw : (decide (D.cls.lookup c = some x) && (D.exi.lookup c).isSome) = true := wp.2.2.1 (x, .exc c) (lookup_in e)
  obtain ⟨o, eo⟩ := Option.isSome_iff_exists.mp (Bool.and_eq_true_iff.mp hw).2
  have hm := lookup_in eo
  have hx := List.all_eq_true.mp h3 _ hm
  have hp : (D.glob K nd).P.exi c = some (o.map (·.1)) := by show (D.exi.lookup c).map (fun o => o.map (·.1)) = _; rw [eo]; rfl
  cases o with
  | none =>
    obtain ⟨a1, a2, a3, a4⟩ := He.exc_ok (show (He.Fa.exc (D.cn c)).ok K = true from hx)
    exact ⟨a2, a3, a4, fun _ => a1, fun f ef => by rw [hp] at ef; cases ef⟩
  | some fg =>
    obtain ⟨f, g⟩ := fg
    have hx' : (oexB K (He.ga K (D.cn c)) && excCB K (He.ga K (D.cn c)) && (eqO2 (PySem.W.findIn K (.ref (He.ga K (D.cn c))) (D.nms[f]?.getD Str.empty)) (some none) && (eqO2 (PySem.W.findIn K (.ref (He.ga K (D.cn c))) "__init__") (some (some (.ref (D.fad K g)))) && decide (PySem.W.typeIn K (.ref (D.fad K g)) = some (.type "function"))))) = true := hx
    simp only [Bool.and_eq_true] at hx'
    obtain ⟨⟨b1, b2⟩, b3, b4, b5⟩ := hx'
    have O := oexB_ok b1
    refine ⟨O.kC, O.exC, O.tyC, fun z => (by rw [hp] at z; cases z), fun f' ef => ?_⟩
    rw [hp] at ef
    cases ef
    have hw2 := wp.2.2.2.2 _ hm
    unfold exiW at hw2
    dsimp only at hw2
    split at hw2
    · rename_i d F ed en
      split at hw2
      · rename_i me pn eps efd
        simp only [Bool.and_eq_true] at hw2
        obtain ⟨⟨⟨c1, c2⟩, c3⟩, ⟨⟨c4, c5⟩, c6⟩, c7⟩ := hw2
        have FD := def_at sd ed
        have S := C8.fnScope_by c2
        rw [of_decide_eq_true c1, eps] at S
        unfold initB at c3
        split at c3
        · rename_i a q1 G q2 b q3 q4 eb
          simp only [Bool.and_eq_true] at c3
          obtain ⟨d1, d2, d3⟩ := c3
          have d1 := of_decide_eq_true d1
          have d2 := of_decide_eq_true d2
          have d3 := of_decide_eq_true d3
          subst d1 d2 d3
          have hno := of_decide_eq_true b3
          rw [en] at hno
          refine ⟨G, D.fad K g, fdAt K (D.fad K g), d.ps, en, O, of_decide_eq_true b4, of_decide_eq_true b5, fun P w mg base => ?_, (binds_at sd wf ed).1⟩
          rw [eps]
          exact init_ok FD S eb (visB_ok c4) (visB_ok c5) (nameB_ok c6) (nameB_ok c7) O hno
        · cases c3
      · cases hw2
    · cases hw2
end
/-- no list but the script is tracked, none is the module's -/
theorem noList_no {K : PySem.W.Frag} (hn : noList K = true) {a : Addr} {o : Obj} (e : K.lookup a = some o) (hc : o.cls = .type "list") : False := by
  have hm := lookup_in e
  have := List.all_eq_true.mp hn _ hm
  simp [hc] at this
/-- the heap of a law's beginning: the script -/
def scriptH (ns : List Int) : PH := ⟨fun i => if i = 0 then some (.rol (ns.map PV.int)) else none, 1, fun i hi => if_neg (by omega)⟩
/-- the law's end: the promise, told of the small program -/
theorem promise {D : Desc} {K : PySem.W.Frag} {nd : D.nms.Nodup} (hn : noList K = true) {k f : Nat} {H : Hp} {a : Addr} {ns : List Int} (hT : ∀ p ∈ D.tf.map (He.cT K), H p.2 = some (.tbl #[])) (hS : SqL K H a (ns.map V.int))
    (law : ∃ h', run D.pg k f [.ref 0] (scriptH ns) = .ok (.bl true) h') : spOf (D.glob K nd) (run D.pg k) f [.ref a] H (fun v _ => v = .bl true) fun _ _ _ => False := by
  obtain ⟨h', e⟩ := law
  have rd : Rd H a (.lst (ns.map V.int)) := by
    rcases hS with h | ⟨o, its, n, h1, h2, _⟩
    · exact h
    · exact (noList_no hn h1 h2).elim
  have na : H a ≠ none := by rcases rd with z | ⟨o, z⟩ <;> (rw [z]; exact fun q => nomatch q)
  refine ⟨[a], [.ref 0], scriptH ns, ⟨rfl, by simp, fun i po hi => ?_, fun b hb => ?_, fun p hp => ?_⟩, .cons (.ref rfl) .nil, ?_⟩
  · have hi' : (if i = 0 then some (PO.rol (ns.map PV.int)) else none) = some po := hi
    by_cases h0 : i = 0
    · rw [if_pos h0] at hi'
      cases hi'
      subst h0
      exact ⟨a, rfl, _, rd, VRs.of_ints ns⟩
    · rw [if_neg h0] at hi'; cases hi'
  · rw [List.mem_singleton.mp hb]; exact na
  · obtain ⟨q, hq, e1⟩ := List.mem_map.mp hp
    have hp' : H p = some (.tbl #[]) := by rw [← e1]; exact hT _ (List.mem_map.mpr ⟨q, hq, rfl⟩)
    refine ⟨fun z => ?_, #[], hp', ?_⟩
    · rw [List.mem_singleton.mp z] at hp'
      rcases rd with y | ⟨o, y⟩ <;> (rw [y] at hp'; cases hp')
    · first | exact TriplesOk.nil | exact trivial | simp [TriplesOk] | (unfold TriplesOk; trivial)
  · rw [e]
    exact fun ρ' H' b _ _ _ rb => VR.bl_inv rb
/-- the law's def keeps what the small program tells -/
theorem lawEnd {D : Desc} {l : PySem.W.OpenLaw} {m k f : Nat} {x : DF} {q : Program} {lo : List Str} {XP : (Str → Option Value) → Heap → Prop} {d : DefRec} {y : Str} (hm : l.most = some m) (hz : m ≤ sizeLine) (hd : d.params.defaults = []) (room : Room (5 * k + 1) callerA) (wf : D.wf = true)
    (hf : D.defs.lookup f = some x) (hx : x.at_ = (("law" : Str), none)) (hp : x.ps = [y]) (hg : D.gv.lookup ("law" : Str) = some (.fn f [[]])) (hn : d.name = ("law" : Str))
    (law : ∀ ns : List Int, ns.length ≤ m → ∃ h', run D.pg k f [.ref 0] (scriptH ns) = .ok (.bl true) h') :
    PySem.W.WalkO q lo XP (fun w h => ∃ K : PySem.W.Frag, K.In h ∧ He.SaysX D.fa D.fn [] D.tf D.ex w h K) l.row.toRowW d [] fun f vs => PySem.call f vs := by
  refine Att.attach_callB hm hd ?_
  intro w s0 s1 mg mb at_ o pm cd doc a vs ns gr ⟨K, inK, sx⟩ ho hdd hcd hmg hobj hints hlen hbits hgens
  have nd := (wf_parts wf).1
  have sd := sx.t.d
  have t := tok_of (nd := nd) inK gr.T.g wf sd sx.more
  have e1 := (t.gv _ _ hg).1
  rw [hn, e1] at hmg
  cases hmg
  have ep : (D.glob K nd).ps f = [y] := by show (match D.defs.lookup f with | some d => d.ps | none => []) = _; rw [hf]; exact hp
  have nl : noList K = true := by
    have := sx.more
    unfold Desc.ex at this
    rw [Bool.and_eq_true] at this
    exact this.1
  refine LamX.law_callTs (K := K) (CX := L2.CX l.prog w) (k := 5 * k + 1) (cs := D.tf.map (He.cT K)) (fd := (D.glob K nd).fd f) (x := y) (sp := spOf (D.glob K nd) (run D.pg k) f) inK gr.T.g gr.T.b gr.T.builtins gr.T.nolimit hgens (fun p hp => ?_) (fun p hp => ?_) (fun p hp => ?_) gr.T.bmain hobj hints (Nat.le_trans hlen hz) room (fun base inB nsB tb => ?_) (fun s u => ?_) (fun H hH hS => promise nl hH hS (law ns hlen)) ?_
  · obtain ⟨q, hq, rfl⟩ := List.mem_map.mp hp
    exact sx.empty q hq
  · obtain ⟨q, hq, rfl⟩ := List.mem_map.mp hp
    exact sx.out q hq
  · obtain ⟨q, hq, rfl⟩ := List.mem_map.mp hp
    exact PySem.W.codeHd_of_K inK (sx.hd q hq)
  · have F := fns_ok (P := l.prog) (w := w) (mg := mg) (base := base) (T := D.tb) t (fl_of sd) (he_of sx.more) (exs_of wf sd sx.more) (fun p hp => by
      have T := tb (He.cT K p) (List.mem_map.mpr ⟨p, hp, rfl⟩)
      exact ⟨T.code, T.bm, T.gP⟩) (fd_of wf sd) k f
    unfold FnK at F
    rw [ep] at F
    exact F
  · have := (binds_at sd wf hf).2 s [u] (by rw [hp]; rfl)
    rw [hp] at this
    exact this
  · rintro H e s' ⟨_, _, _, _, _, _, _, _, _, _, _, _, no⟩
    exact no
end Fx

/-! Plain laws of the small language: runs, loops, the laws' helpers. -/
namespace Fx
open PySem L2
theorem run2 (P : Pg) (k : Nat) (f : Nat) (args : List PV) (h : PH) : run P (k + 2) f args h = runF P (run P (k + 1)) (run P k) f args h := rfl
theorem run_def {P : Pg} {k f : Nat} {fd : FD} {args : List PV} {h : PH} (e : P.fn f = some fd) (hl : args.length = fd.np) : run P (k + 2) f args h = fin (xss P (run P (k + 1)) (run P k) fd.body (args.map some ++ List.replicate (fd.ns - fd.np) none) h) := by
  rw [run2]
  unfold runF
  rw [e]
  show (if args.length = fd.np then _ else _) = _
  rw [if_pos hl]
/-- the heap grew, nothing else -/
structure Ext (h h' : PH) : Prop where
  n : h.n ≤ h'.n
  same : ∀ a, a < h.n → h'.get a = h.get a
theorem Ext.refl (h : PH) : Ext h h := ⟨Nat.le_refl _, fun _ _ => rfl⟩
theorem Ext.trans {h h1 h2 : PH} (a : Ext h h1) (b : Ext h1 h2) : Ext h h2 := ⟨Nat.le_trans a.n b.n, fun x hx => (b.same x (Nat.lt_of_lt_of_le hx a.n)).trans (a.same x hx)⟩
theorem Ext.new (h : PH) (o : PO) : Ext h (h.new o) := ⟨by rw [PH.new_n]; omega, fun a ha => PH.get_new_lt ha⟩
theorem Ext.get {h h' : PH} (e : Ext h h') {a : Nat} {o : PO} (q : h.get a = some o) : h'.get a = some o := (e.same a (PH.get_lt q)).trans q
/-- .. but for the object at a, that was not there before h0 -/
structure ExtBut (a : Nat) (h h' : PH) : Prop where
  n : h.n ≤ h'.n
  same : ∀ b, b ≠ a → b < h.n → h'.get b = h.get b
theorem ExtBut.refl (a : Nat) (h : PH) : ExtBut a h h := ⟨Nat.le_refl _, fun _ _ _ => rfl⟩
theorem ExtBut.trans {a : Nat} {h h1 h2 : PH} (x : ExtBut a h h1) (y : ExtBut a h1 h2) : ExtBut a h h2 := ⟨Nat.le_trans x.n y.n, fun b hb hl => (y.same b hb (Nat.lt_of_lt_of_le hl x.n)).trans (x.same b hb hl)⟩
theorem ExtBut.set (h : PH) (a : Nat) (o : PO) : ExtBut a h (h.set a o) := ⟨Nat.le_refl _, fun b hb _ => PH.get_set_ne hb⟩
theorem Ext.but {h h' : PH} (e : Ext h h') (a : Nat) : ExtBut a h h' := ⟨e.n, fun b _ hl => e.same b hl⟩
theorem ExtBut.ext {a : Nat} {h0 h h' : PH} (x : ExtBut a h h') (e : Ext h0 h) (ha : h0.n ≤ a) : Ext h0 h' := ⟨Nat.le_trans e.n x.n, fun b hb => (x.same b (by omega) (Nat.lt_of_lt_of_le hb e.n)).trans (e.same b hb)⟩

/-! ### loops -/
/-- a for over values, an invariant -/
theorem loopF_rule {body : PV → Sl → PH → SR} {s : Src} {l : List PV} (I : Nat → Sl → PH → Prop) (hn : ∀ i σ h, I i σ h → nxt s i h = some l[i]?)
    (step : ∀ i x σ h, l[i]? = some x → I i σ h → ∃ σ1 h1, (body x σ h = .nx σ1 h1 ∨ body x σ h = .ct σ1 h1) ∧ I (i + 1) σ1 h1) :
    ∀ (n i : Nat) (σ : Sl) (h : PH), n + i = l.length → I i σ h → ∃ σ' h', loopF body s n i σ h = .nx σ' h' ∧ I l.length σ' h'
  | 0, i, σ, h, e, q => by
    have e1 := hn i σ h q
    have e2 : l[i]? = none := List.getElem?_eq_none_iff.mpr (by omega)
    rw [e2] at e1
    have : i = l.length := by omega
    subst this
    exact ⟨σ, h, by unfold loopF; rw [e1], q⟩
  | n + 1, i, σ, h, e, q => by
    have e1 := hn i σ h q
    have hi : i < l.length := by omega
    rw [List.getElem?_eq_getElem hi] at e1
    obtain ⟨σ1, h1, hb, q1⟩ := step i _ σ h (List.getElem?_eq_getElem hi) q
    obtain ⟨σ', h', e2, q2⟩ := loopF_rule I hn step n (i + 1) σ1 h1 (by omega) q1
    refine ⟨σ', h', ?_, q2⟩
    unfold loopF
    rw [e1]
    rcases hb with hb | hb <;> (simp only [hb]; exact e2)
/-- .. that may end with an answer -/
theorem loopF_ret {body : PV → Sl → PH → SR} {s : Src} {l : List PV} (I : Nat → Sl → PH → Prop) (R : PV → PH → Prop) (hn : ∀ i σ h, I i σ h → nxt s i h = some l[i]?)
    (step : ∀ i x σ h, l[i]? = some x → I i σ h → (∃ σ1 h1, (body x σ h = .nx σ1 h1 ∨ body x σ h = .ct σ1 h1) ∧ I (i + 1) σ1 h1) ∨ ∃ v h1, body x σ h = .rt v h1 ∧ R v h1) :
    ∀ (n i : Nat) (σ : Sl) (h : PH), n + i = l.length → I i σ h → (∃ σ' h', loopF body s n i σ h = .nx σ' h' ∧ I l.length σ' h') ∨ ∃ v h', loopF body s n i σ h = .rt v h' ∧ R v h'
  | 0, i, σ, h, e, q => by
    have e1 := hn i σ h q
    have e2 : l[i]? = none := List.getElem?_eq_none_iff.mpr (by omega)
    rw [e2] at e1
    have : i = l.length := by omega
    subst this
    exact .inl ⟨σ, h, by unfold loopF; rw [e1], q⟩
  | n + 1, i, σ, h, e, q => by
    have e1 := hn i σ h q
    have hi : i < l.length := by omega
    rw [List.getElem?_eq_getElem hi] at e1
    rcases step i _ σ h (List.getElem?_eq_getElem hi) q with ⟨σ1, h1, hb, q1⟩ | ⟨v, h1, hb, q1⟩
    · have ih := loopF_ret I R hn step n (i + 1) σ1 h1 (by omega) q1
      have eq : loopF body s (n + 1) i σ h = loopF body s n (i + 1) σ1 h1 := by
        rw [loopF, e1]
        rcases hb with hb | hb <;> simp only [hb]
      rw [eq]
      exact ih
    · refine .inr ⟨v, h1, ?_, q1⟩
      rw [loopF, e1]
      simp only [hb]
/-- a comprehension, an invariant over what is made -/
theorem loopC_rule {body : PV → PH → Res (Option PV)} {s : Src} {l : List PV} (I : Nat → List PV → PH → Prop) (hn : ∀ i acc h, I i acc h → nxt s i h = some l[i]?)
    (step : ∀ i x acc h, l[i]? = some x → I i acc h → ∃ r h1, body x h = .ok r h1 ∧ match r with
      | none => I (i + 1) acc h1
      | some v => acc.length < LINE ∧ I (i + 1) (acc ++ [v]) h1) :
    ∀ (n i : Nat) (acc : List PV) (h : PH), n + i = l.length → I i acc h → ∃ acc' h', loopC body s n i acc h = .ok acc' h' ∧ I l.length acc' h'
  | 0, i, acc, h, e, q => by
    have e1 := hn i acc h q
    have e2 : l[i]? = none := List.getElem?_eq_none_iff.mpr (by omega)
    rw [e2] at e1
    have : i = l.length := by omega
    subst this
    exact ⟨acc, h, by unfold loopC; rw [e1], q⟩
  | n + 1, i, acc, h, e, q => by
    have e1 := hn i acc h q
    have hi : i < l.length := by omega
    rw [List.getElem?_eq_getElem hi] at e1
    obtain ⟨r, h1, hb, q1⟩ := step i _ acc h (List.getElem?_eq_getElem hi) q
    cases r with
    | none =>
      obtain ⟨acc', h', e2, q2⟩ := loopC_rule I hn step n (i + 1) acc h1 (by omega) q1
      refine ⟨acc', h', ?_, q2⟩
      rw [loopC, e1]
      simp only [hb, Res.bind_ok]
      exact e2
    | some v =>
      obtain ⟨acc', h', e2, q2⟩ := loopC_rule I hn step n (i + 1) (acc ++ [v]) h1 (by omega) q1.2
      refine ⟨acc', h', ?_, q2⟩
      rw [loopC, e1]
      simp only [hb, Res.bind_ok, if_pos q1.1]
      exact e2
theorem nxt_vals {l : List PV} {i : Nat} {h : PH} : nxt (.vals l) i h = some l[i]? := rfl
theorem rngV_length (i j : Int) : (rngV i j).length = (j - i).toNat := by simp [rngV]
theorem rngV_get {i j : Int} {n : Nat} {x : PV} (h : (rngV i j)[n]? = some x) : x = .int (i + n) ∧ (n : Int) < j - i := by
  unfold rngV at h
  rw [List.getElem?_map] at h
  obtain ⟨c, ec, rfl⟩ := Option.map_eq_some_iff.mp h
  obtain ⟨hl, hc⟩ := List.getElem?_eq_some_iff.mp ec
  rw [List.getElem_range] at hc
  subst hc
  simp at hl
  exact ⟨rfl, by omega⟩
@[simp] theorem forB_name {i : Nat} {f : Sl → PH → SR} {x : PV} {σ : Sl} {h : PH} : forB (.name i) f x σ h = f (σ.set i (some x)) h := (rfl)
@[simp] theorem forB_names {is : List Nat} {f : Sl → PH → SR} {l : List PV} {σ : Sl} {h : PH} : forB (.names is) f (.tup l) σ h = match setAll is l σ with
  | some σ2 => f σ2 h
  | none => .no := rfl
@[simp] theorem opt_some {α : Type} (a : α) (h : PH) : opt (some a) h = .ok a h := (rfl)
@[simp] theorem opt_none {α : Type} (h : PH) : (opt none h : Res α) = .no := (rfl)
@[simp] theorem bind_ok {α β : Type} (a : α) (h : PH) (f : α → PH → Res β) : (Res.ok a h).bind f = f a h := (rfl)
@[simp] theorem ofRes_ok {α : Type} (σ : Sl) (a : α) (h : PH) (f : α → PH → SR) : ofRes σ (.ok a h) f = f a h := (rfl)
@[simp] theorem seq_nx (σ : Sl) (h : PH) (f : Sl → PH → SR) : (SR.nx σ h).seq f = f σ h := (rfl)
@[simp] theorem seq_rt (v : PV) (h : PH) (f : Sl → PH → SR) : (SR.rt v h).seq f = .rt v h := (rfl)
@[simp] theorem fin_rt (v : PV) (h : PH) : fin (.rt v h) = .ok v h := (rfl)
@[simp] theorem fin_nx (σ : Sl) (h : PH) : fin (.nx σ h) = .ok .non h := (rfl)
@[simp] theorem tru_bl (b : Bool) (h : PH) : tru (.ok (.bl b) h) = .ok b h := (rfl)
@[simp] theorem quiet_ok {α : Type} (a : α) (h : PH) : (Res.ok a h).quiet = .ok a h := (rfl)
@[simp] theorem seqOf_tup (h : PH) (l : List PV) : seqOf h (.tup l) = some l := (rfl)
theorem seqOf_lst {h : PH} {a : Nat} {l : List PV} (e : h.get a = some (.lst l)) : seqOf h (.ref a) = some l := by simp only [seqOf, e]
theorem seqOf_rol {h : PH} {a : Nat} {l : List PV} (e : h.get a = some (.rol l)) : seqOf h (.ref a) = some l := by simp only [seqOf, e]
theorem seqOf_ext {h h' : PH} (x : Ext h h') {v : PV} {l : List PV} (e : seqOf h v = some l) : seqOf h' v = some l := by
  cases v with
  | tup r => exact e
  | ref a =>
    simp only [seqOf] at e ⊢
    cases q : h.get a with
    | none => rw [q] at e; cases e
    | some o =>
      rw [q] at e
      rw [x.get q]
      exact e
  | _ => cases e
def kBin (o : Bop) (eb : PH → Res PV) (x : PV) (h : PH) : Res PV := (eb h).bind (bop o x)
@[simp] theorem kBin_app (o : Bop) (eb : PH → Res PV) (x : PV) (h : PH) : kBin o eb x h = (eb h).bind (bop o x) := (rfl)
def kNot  (b : Bool) (h : PH) : Res PV := .ok (.bl (!b)) h
@[simp] theorem kNot_app  (b : Bool) (h : PH) : kNot b h = .ok (.bl (!b)) h := (rfl)
def kAnd2 (eb : PH → Res PV) (x : PV) (t : Bool) (h : PH) : Res PV := if t = true then eb h else .ok x h
@[simp] theorem kAnd2_app (eb : PH → Res PV) (x : PV) (t : Bool) (h : PH) : kAnd2 eb x t h = if t = true then eb h else .ok x h := (rfl)
def kAnd (eb : PH → Res PV) (x : PV) (h : PH) : Res PV := (opt (truth h x) h).bind (kAnd2 eb x)
@[simp] theorem kAnd_app (eb : PH → Res PV) (x : PV) (h : PH) : kAnd eb x h = (opt (truth h x) h).bind (kAnd2 eb x) := (rfl)
def kOr2 (eb : PH → Res PV) (x : PV) (t : Bool) (h : PH) : Res PV := if t = true then .ok x h else eb h
@[simp] theorem kOr2_app (eb : PH → Res PV) (x : PV) (t : Bool) (h : PH) : kOr2 eb x t h = if t = true then .ok x h else eb h := (rfl)
def kOr (eb : PH → Res PV) (x : PV) (h : PH) : Res PV := (opt (truth h x) h).bind (kOr2 eb x)
@[simp] theorem kOr_app (eb : PH → Res PV) (x : PV) (h : PH) : kOr eb x h = (opt (truth h x) h).bind (kOr2 eb x) := (rfl)
def kBl  (t : Bool) (h : PH) : Res PV := .ok (.bl t) h
@[simp] theorem kBl_app  (t : Bool) (h : PH) : kBl t h = .ok (.bl t) h := (rfl)
def kCmp2 (o : Cop) (x : PV) (y : PV) (h : PH) : Res PV := (opt (cop o x y h) h).bind kBl
@[simp] theorem kCmp2_app (o : Cop) (x : PV) (y : PV) (h : PH) : kCmp2 o x y h = (opt (cop o x y h) h).bind kBl := (rfl)
def kCmp (o : Cop) (eb : PH → Res PV) (x : PV) (h : PH) : Res PV := (eb h).bind (kCmp2 o x)
@[simp] theorem kCmp_app (o : Cop) (eb : PH → Res PV) (x : PV) (h : PH) : kCmp o eb x h = (eb h).bind (kCmp2 o x) := (rfl)
def kCh4 (p : Cop) (y : PV) (z : PV) (h : PH) : Res PV := (opt (cop p y z h) h).bind kBl
@[simp] theorem kCh4_app (p : Cop) (y : PV) (z : PV) (h : PH) : kCh4 p y z h = (opt (cop p y z h) h).bind kBl := (rfl)
def kCh3 (p : Cop) (ec : PH → Res PV) (y : PV) (t : Bool) (h : PH) : Res PV := if t = true then (ec h).bind (kCh4 p y) else .ok (.bl false) h
@[simp] theorem kCh3_app (p : Cop) (ec : PH → Res PV) (y : PV) (t : Bool) (h : PH) : kCh3 p ec y t h = if t = true then (ec h).bind (kCh4 p y) else .ok (.bl false) h := (rfl)
def kCh2 (o p : Cop) (ec : PH → Res PV) (x : PV) (y : PV) (h : PH) : Res PV := (opt (cop o x y h) h).bind (kCh3 p ec y)
@[simp] theorem kCh2_app (o p : Cop) (ec : PH → Res PV) (x : PV) (y : PV) (h : PH) : kCh2 o p ec x y h = (opt (cop o x y h) h).bind (kCh3 p ec y) := (rfl)
def kCh (o p : Cop) (eb ec : PH → Res PV) (x : PV) (h : PH) : Res PV := (eb h).bind (kCh2 o p ec x)
@[simp] theorem kCh_app (o p : Cop) (eb ec : PH → Res PV) (x : PV) (h : PH) : kCh o p eb ec x h = (eb h).bind (kCh2 o p ec x) := (rfl)
def kIte (ea eb : PH → Res PV) (t : Bool) (h : PH) : Res PV := if t = true then ea h else eb h
@[simp] theorem kIte_app (ea eb : PH → Res PV) (t : Bool) (h : PH) : kIte ea eb t h = if t = true then ea h else eb h := (rfl)
def kTup  (vs : List PV) (h : PH) : Res PV := if vs.length ≤ LINE then .ok (.tup vs) h else .no
@[simp] theorem kTup_app  (vs : List PV) (h : PH) : kTup vs h = if vs.length ≤ LINE then .ok (.tup vs) h else .no := (rfl)
def kLst  (vs : List PV) (h : PH) : Res PV := if vs.length ≤ LINE then alloc (.lst vs) h else .no
@[simp] theorem kLst_app  (vs : List PV) (h : PH) : kLst vs h = if vs.length ≤ LINE then alloc (.lst vs) h else .no := (rfl)
def kIdx2 (x : PV) (y : PV) (h : PH) : Res PV := opt (getIx h x y) h
@[simp] theorem kIdx2_app (x : PV) (y : PV) (h : PH) : kIdx2 x y h = opt (getIx h x y) h := (rfl)
def kIdx (eb : PH → Res PV) (x : PV) (h : PH) : Res PV := (eb h).bind (kIdx2 x)
@[simp] theorem kIdx_app (eb : PH → Res PV) (x : PV) (h : PH) : kIdx eb x h = (eb h).bind (kIdx2 x) := (rfl)
def kSl3 (x : PV) (l : Option Int) (u : Option Int) (h : PH) : Res PV := slice x l u h
@[simp] theorem kSl3_app (x : PV) (l : Option Int) (u : Option Int) (h : PH) : kSl3 x l u h = slice x l u h := (rfl)
def kSl2 (eh : PH → Res (Option Int)) (x : PV) (l : Option Int) (h : PH) : Res PV := (eh h).bind (kSl3 x l)
@[simp] theorem kSl2_app (eh : PH → Res (Option Int)) (x : PV) (l : Option Int) (h : PH) : kSl2 eh x l h = (eh h).bind (kSl3 x l) := (rfl)
def kSl (el eh : PH → Res (Option Int)) (x : PV) (h : PH) : Res PV := (el h).bind (kSl2 eh x)
@[simp] theorem kSl_app (el eh : PH → Res (Option Int)) (x : PV) (h : PH) : kSl el eh x h = (el h).bind (kSl2 eh x) := (rfl)
def kFld (f : Nat) (x : PV) (h : PH) : Res PV := opt (getFld x f h) h
@[simp] theorem kFld_app (f : Nat) (x : PV) (h : PH) : kFld f x h = opt (getFld x f h) h := (rfl)
def kCall (rc : Rn) (f : Nat) (ds : List PV) (vs : List PV) (h : PH) : Res PV := rc f (vs ++ ds) h
@[simp] theorem kCall_app (rc : Rn) (f : Nat) (ds : List PV) (vs : List PV) (h : PH) : kCall rc f ds vs h = rc f (vs ++ ds) h := (rfl)
def kMe3 (rc : Rn) (x : PV) (f : Nat) (vs : List PV) (h : PH) : Res PV := rc f (x :: vs) h
@[simp] theorem kMe3_app (rc : Rn) (x : PV) (f : Nat) (vs : List PV) (h : PH) : kMe3 rc x f vs h = rc f (x :: vs) h := (rfl)
def kMe2 (rc : Rn) (es : PH → Res (List PV)) (x : PV) (f : Nat) (h : PH) : Res PV := (es h).bind (kMe3 rc x f)
@[simp] theorem kMe2_app (rc : Rn) (es : PH → Res (List PV)) (x : PV) (f : Nat) (h : PH) : kMe2 rc es x f h = (es h).bind (kMe3 rc x f) := (rfl)
def kMe (P : Pg) (rc : Rn) (m : Nat) (es : PH → Res (List PV)) (x : PV) (h : PH) : Res PV := (opt (mfind P x m h) h).bind (kMe2 rc es x)
@[simp] theorem kMe_app (P : Pg) (rc : Rn) (m : Nat) (es : PH → Res (List PV)) (x : PV) (h : PH) : kMe P rc m es x h = (opt (mfind P x m h) h).bind (kMe2 rc es x) := (rfl)
def kMk (P : Pg) (rm : Rn) (c : Nat) (ds : List PV) (vs : List PV) (h : PH) : Res PV := mkObj P rm c (vs ++ ds) h
@[simp] theorem kMk_app (P : Pg) (rm : Rn) (c : Nat) (ds : List PV) (vs : List PV) (h : PH) : kMk P rm c ds vs h = mkObj P rm c (vs ++ ds) h := (rfl)
def kLm2 (m : Lm) (es : PH → Res (List PV)) (x : PV) (u : Unit) (h : PH) : Res PV := (es h).bind (lmeth m x)
@[simp] theorem kLm2_app (m : Lm) (es : PH → Res (List PV)) (x : PV) (u : Unit) (h : PH) : kLm2 m es x u h = (es h).bind (lmeth m x) := (rfl)
def kLm (m : Lm) (es : PH → Res (List PV)) (x : PV) (h : PH) : Res PV := (opt (lstAt h x) h).bind (kLm2 m es x)
@[simp] theorem kLm_app (m : Lm) (es : PH → Res (List PV)) (x : PV) (h : PH) : kLm m es x h = (opt (lstAt h x) h).bind (kLm2 m es x) := (rfl)
def kIsi (t : Ty) (x : PV) (h : PH) : Res PV := (opt (isT h t x) h).bind kBl
@[simp] theorem kIsi_app (t : Ty) (x : PV) (h : PH) : kIsi t x h = (opt (isT h t x) h).bind kBl := (rfl)
def kAl  (vs : List PV) (h : PH) : Res PV := alloc (.lst vs) h
@[simp] theorem kAl_app  (vs : List PV) (h : PH) : kAl vs h = alloc (.lst vs) h := (rfl)
def kLc (own : List Nat) (tg : Tg) (dt : Sl → PH → Res Bool) (de : Sl → PH → Res PV) (σ : Sl) (s : Src) (h : PH) : Res PV := (loopC (cBody own tg dt de σ) s (fuelOf s h) 0 [] h).bind kAl
@[simp] theorem kLc_app (own : List Nat) (tg : Tg) (dt : Sl → PH → Res Bool) (de : Sl → PH → Res PV) (σ : Sl) (s : Src) (h : PH) : kLc own tg dt de σ s h = (loopC (cBody own tg dt de σ) s (fuelOf s h) 0 [] h).bind kAl := (rfl)
def kCo2 (x : PV) (xs : List PV) (h : PH) : Res (List PV) := .ok (x :: xs) h
@[simp] theorem kCo2_app (x : PV) (xs : List PV) (h : PH) : kCo2 x xs h = .ok (x :: xs) h := (rfl)
def kCo (er : PH → Res (List PV)) (x : PV) (h : PH) : Res (List PV) := (er h).bind (kCo2 x)
@[simp] theorem kCo_app (er : PH → Res (List PV)) (x : PV) (h : PH) : kCo er x h = (er h).bind (kCo2 x) := (rfl)
def kSt3 (ys : List PV) (xs : List PV) (h : PH) : Res (List PV) := .ok (ys ++ xs) h
@[simp] theorem kSt3_app (ys : List PV) (xs : List PV) (h : PH) : kSt3 ys xs h = .ok (ys ++ xs) h := (rfl)
def kSt2 (er : PH → Res (List PV)) (ys : List PV) (h : PH) : Res (List PV) := (er h).bind (kSt3 ys)
@[simp] theorem kSt2_app (er : PH → Res (List PV)) (ys : List PV) (h : PH) : kSt2 er ys h = (er h).bind (kSt3 ys) := (rfl)
def kSt (er : PH → Res (List PV)) (x : PV) (h : PH) : Res (List PV) := (opt (seqOf h x) h).bind (kSt2 er)
@[simp] theorem kSt_app (er : PH → Res (List PV)) (x : PV) (h : PH) : kSt er x h = (opt (seqOf h x) h).bind (kSt2 er) := (rfl)
def kSq  (x : PV) (h : PH) : Res Src := opt (srcOf h x) h
@[simp] theorem kSq_app  (x : PV) (h : PH) : kSq x h = opt (srcOf h x) h := (rfl)
def kEn  (x : PV) (h : PH) : Res Src := opt (enumOf h x) h
@[simp] theorem kEn_app  (x : PV) (h : PH) : kEn x h = opt (enumOf h x) h := (rfl)
def kNx (σ : Sl) (x : PV) (h : PH) : SR := .nx σ h
@[simp] theorem kNx_app (σ : Sl) (x : PV) (h : PH) : kNx σ x h = .nx σ h := (rfl)
def kSet (σ : Sl) (i : Nat) (x : PV) (h : PH) : SR := .nx (σ.set i (some x)) h
@[simp] theorem kSet_app (σ : Sl) (i : Nat) (x : PV) (h : PH) : kSet σ i x h = .nx (σ.set i (some x)) h := (rfl)
def kRet  (x : PV) (h : PH) : SR := .rt x h
@[simp] theorem kRet_app  (x : PV) (h : PH) : kRet x h = .rt x h := (rfl)
def kIf (σ : Sl) (fa fb : Sl → PH → SR) (t : Bool) (h : PH) : SR := if t = true then fa σ h else fb σ h
@[simp] theorem kIf_app (σ : Sl) (fa fb : Sl → PH → SR) (t : Bool) (h : PH) : kIf σ fa fb t h = if t = true then fa σ h else fb σ h := (rfl)
def kFor (σ : Sl) (B : PV → Sl → PH → SR) (s : Src) (h : PH) : SR := loopF B s (fuelOf s h) 0 σ h
@[simp] theorem kFor_app (σ : Sl) (B : PV → Sl → PH → SR) (s : Src) (h : PH) : kFor σ B s h = loopF B s (fuelOf s h) 0 σ h := (rfl)
def kMt (σ : Sl) (fc : PV → Sl → PH → SR) (x : PV) (h : PH) : SR := fc x σ h
@[simp] theorem kMt_app (σ : Sl) (fc : PV → Sl → PH → SR) (x : PV) (h : PH) : kMt σ fc x h = fc x σ h := (rfl)
/-- a name of the slots -/
def nxO (o : Option PH) (σ : Sl) : SR := match o with
  | some h => .nx σ h
  | none => .no
@[simp] theorem nxO_some (h : PH) (σ : Sl) : nxO (some h) σ = .nx σ h := (rfl)
def slO (o : Option Sl) (h : PH) : SR := match o with
  | some σ => .nx σ h
  | none => .no
@[simp] theorem slO_some (h : PH) (σ : Sl) : slO (some σ) h = .nx σ h := (rfl)
def kTs (σ : Sl) (is : List Nat) (x : PV) (h : PH) : SR := match x with
  | .tup l => slO (setAll is l σ) h
  | _ => .no
@[simp] theorem kTs_app (σ : Sl) (is : List Nat) (l : List PV) (h : PH) : kTs σ is (.tup l) h = slO (setAll is l σ) h := (rfl)
def kFs2 (P : Pg) (σ : Sl) (f : Nat) (v : PV) (x : PV) (h : PH) : SR := nxO (setFld P x f v h) σ
@[simp] theorem kFs2_app (P : Pg) (σ : Sl) (f : Nat) (v : PV) (x : PV) (h : PH) : kFs2 P σ f v x h = nxO (setFld P x f v h) σ := (rfl)
def kFs (P : Pg) (σ : Sl) (f : Nat) (eo : PH → Res PV) (v : PV) (h : PH) : SR := ofRes σ (eo h) (kFs2 P σ f v)
@[simp] theorem kFs_app (P : Pg) (σ : Sl) (f : Nat) (eo : PH → Res PV) (v : PV) (h : PH) : kFs P σ f eo v h = ofRes σ (eo h) (kFs2 P σ f v) := (rfl)
def csO (o : Option (Option (List (Nat × PV)))) (fb : Sl → PH → SR) (fr : PV → Sl → PH → SR) (v : PV) (σ : Sl) (h : PH) : SR := match o with
  | some (some bs) => fb (bindAll bs σ) h
  | some none => fr v σ h
  | none => .no
@[simp] theorem csO_some (bs : List (Nat × PV)) (fb : Sl → PH → SR) (fr : PV → Sl → PH → SR) (v : PV) (σ : Sl) (h : PH) : csO (some (some bs)) fb fr v σ h = fb (bindAll bs σ) h := (rfl)
@[simp] theorem csO_none (fb : Sl → PH → SR) (fr : PV → Sl → PH → SR) (v : PV) (σ : Sl) (h : PH) : csO (some none) fb fr v σ h = fr v σ h := (rfl)
def kNeg (x : PV) (h : PH) : Res PV := match x with
  | .int i => .ok (.int (-i)) h
  | _ => .no
@[simp] theorem kNeg_app (i : Int) (h : PH) : kNeg (.int i) h = .ok (.int (-i)) h := (rfl)
def kPart (x : PV) (h : PH) : Res (Option Int) := match x with
  | .int i => .ok (some i) h
  | _ => .no
@[simp] theorem kPart_app (i : Int) (h : PH) : kPart (.int i) h = .ok (some i) h := (rfl)
def kRg1 (y : PV) (h : PH) : Res Src := match y with
  | .int j => if inR j = true then .ok (.vals (rngV 0 j)) h else .no
  | _ => .no
@[simp] theorem kRg1_app (j : Int) (h : PH) : kRg1 (.int j) h = if inR j = true then .ok (.vals (rngV 0 j)) h else .no := (rfl)
def kRg2 (x y : PV) (h : PH) : Res Src := match x, y with
  | .int i, .int j => if inR i = true ∧ inR j = true then .ok (.vals (rngV i j)) h else .no
  | _, _ => .no
@[simp] theorem kRg2_app (i j : Int) (h : PH) : kRg2 (.int i) (.int j) h = if inR i = true ∧ inR j = true then .ok (.vals (rngV i j)) h else .no := (rfl)
def kRg (eb : PH → Res PV) (x : PV) (h : PH) : Res Src := (eb h).bind (kRg2 x)
@[simp] theorem kRg_app (eb : PH → Res PV) (x : PV) (h : PH) : kRg eb x h = (eb h).bind (kRg2 x) := (rfl)
def kLr1 (y : PV) (h : PH) : Res PV := match y with
  | .int j => if inR j = true ∧ j.toNat ≤ LINE then alloc (.lst (rngV 0 j)) h else .no
  | _ => .no
@[simp] theorem kLr1_app (j : Int) (h : PH) : kLr1 (.int j) h = if inR j = true ∧ j.toNat ≤ LINE then alloc (.lst (rngV 0 j)) h else .no := (rfl)
def kLr2 (x y : PV) (h : PH) : Res PV := match x, y with
  | .int i, .int j => if inR i = true ∧ inR j = true ∧ (j - i).toNat ≤ LINE then alloc (.lst (rngV i j)) h else .no
  | _, _ => .no
@[simp] theorem kLr2_app (i j : Int) (h : PH) : kLr2 (.int i) (.int j) h = if inR i = true ∧ inR j = true ∧ (j - i).toNat ≤ LINE then alloc (.lst (rngV i j)) h else .no := (rfl)
def kLr (eb : PH → Res PV) (x : PV) (h : PH) : Res PV := (eb h).bind (kLr2 x)
@[simp] theorem kLr_app (eb : PH → Res PV) (x : PV) (h : PH) : kLr eb x h = (eb h).bind (kLr2 x) := (rfl)
def kTx (l : List PV) (x : PV) (h : PH) : Res PV := if flat x ∧ l.all flat then match indexP x l with
      | some j => .ok (.int j) h
      | none => .no
      else .no
def kAll (i : Nat) (de : Sl → PH → Res PV) (σ : Sl) (s : Src) (h : PH) : Res PV := (loopA (aBody i de σ) s (fuelOf s h) 0 h).bind kBl
@[simp] theorem kAll_app (i : Nat) (de : Sl → PH → Res PV) (σ : Sl) (s : Src) (h : PH) : kAll i de σ s h = (loopA (aBody i de σ) s (fuelOf s h) 0 h).bind kBl := (rfl)
def kRz (P : Pg) (c : Nat) (σ : Sl) (vs : List PV) (h : PH) : SR := raiseK P c σ vs h
@[simp] theorem kRz_app (P : Pg) (c : Nat) (σ : Sl) (vs : List PV) (h : PH) : kRz P c σ vs h = raiseK P c σ vs h := (rfl)
section
variable (P : Pg) (rc rm : Rn) (i f m : Nat) (v : PV) (σ : Sl) (h : PH) (o : Bop) (c c2 : Cop) (a b d : E) (es : Es) (lo hi : Oe) (ds l : List PV) (t : Blt) (lm : Lm) (ty : Ty) (own is : List Nat) (tg : Tg) (it : It) (cnd : Oe) (s : S) (sa sb : Ss) (cs : Cs) (p : Pt)
@[simp] theorem ev_var  : ev P rc rm (.var i) σ h = opt (σ[i]?.join) h := by rw [ev]; try rfl
@[simp] theorem ev_cst  : ev P rc rm (.cst v) σ h = .ok v h := by rw [ev]; try rfl
@[simp] theorem ev_bin  : ev P rc rm (.bin o a b) σ h = (ev P rc rm a σ h).bind (kBin o (ev P rc rm b σ)) := by rw [ev]; try rfl
@[simp] theorem ev_neg  : ev P rc rm (.neg a) σ h = (ev P rc rm a σ h).bind kNeg := by rw [ev]; try rfl
@[simp] theorem ev_not  : ev P rc rm (.not a) σ h = (tru (ev P rc rm a σ h)).bind kNot := by rw [ev]; try rfl
@[simp] theorem ev_and  : ev P rc rm (.and a b) σ h = (ev P rc rm a σ h).bind (kAnd (ev P rc rm b σ)) := by rw [ev]; try rfl
@[simp] theorem ev_or  : ev P rc rm (.or a b) σ h = (ev P rc rm a σ h).bind (kOr (ev P rc rm b σ)) := by rw [ev]; try rfl
@[simp] theorem ev_cmp  : ev P rc rm (.cmp c a b) σ h = (ev P rc rm a σ h).bind (kCmp c (ev P rc rm b σ)) := by rw [ev]; try rfl
@[simp] theorem ev_chain  : ev P rc rm (.chain c c2 a b d) σ h = (ev P rc rm a σ h).bind (kCh c c2 (ev P rc rm b σ) (ev P rc rm d σ)) := by rw [ev]; try rfl
@[simp] theorem ev_ite  : ev P rc rm (.ite d a b) σ h = (tru (ev P rc rm d σ h)).bind (kIte (ev P rc rm a σ) (ev P rc rm b σ)) := by rw [ev]; try rfl
@[simp] theorem ev_tup  : ev P rc rm (.tup es) σ h = (evs P rc rm es σ h).bind kTup := by rw [ev]; try rfl
@[simp] theorem ev_lst  : ev P rc rm (.lst es) σ h = (evs P rc rm es σ h).bind kLst := by rw [ev]; try rfl
@[simp] theorem ev_idx  : ev P rc rm (.idx a b) σ h = (ev P rc rm a σ h).bind (kIdx (ev P rc rm b σ)) := by rw [ev]; try rfl
@[simp] theorem ev_slc  : ev P rc rm (.slc a lo hi) σ h = (ev P rc rm a σ h).bind (kSl (evo P rc rm lo σ) (evo P rc rm hi σ)) := by rw [ev]; try rfl
@[simp] theorem ev_fld  : ev P rc rm (.fld a f) σ h = (ev P rc rm a σ h).bind (kFld f) := by rw [ev]; try rfl
@[simp] theorem ev_call  : ev P rc rm (.call f es ds) σ h = (evs P rc rm es σ h).bind (kCall rc f ds) := by rw [ev]; try rfl
@[simp] theorem ev_meth  : ev P rc rm (.meth a m es) σ h = (ev P rc rm a σ h).bind (kMe P rc m (evs P rc rm es σ)) := by rw [ev]; try rfl
@[simp] theorem ev_mk  : ev P rc rm (.mk f es ds) σ h = (evs P rc rm es σ h).bind (kMk P rm f ds) := by rw [ev]; try rfl
@[simp] theorem ev_blt  : ev P rc rm (.blt t es) σ h = (evs P rc rm es σ h).bind (blt t) := by rw [ev]; try rfl
@[simp] theorem ev_lm  : ev P rc rm (.lm lm a es) σ h = (ev P rc rm a σ h).bind (kLm lm (evs P rc rm es σ)) := by rw [ev]; try rfl
@[simp] theorem ev_isi  : ev P rc rm (.isi a ty) σ h = (ev P rc rm a σ h).bind (kIsi ty) := by rw [ev]; try rfl
@[simp] theorem ev_tidx  : ev P rc rm (.tidx l a) σ h = (ev P rc rm a σ h).bind (kTx l) := by rw [ev]; try rfl
@[simp] theorem ev_lc  : ev P rc rm (.lc own tg it cnd a) σ h = (evi P rc rm it σ h).bind (kLc own tg (evt P rc rm cnd) (ev P rc rm a) σ) := by rw [ev]; try rfl
@[simp] theorem ev_lr1  : ev P rc rm (.lrng1 a) σ h = (ev P rc rm a σ h).bind kLr1 := by rw [ev]; try rfl
@[simp] theorem ev_lr2  : ev P rc rm (.listrng a b) σ h = (ev P rc rm a σ h).bind (kLr (ev P rc rm b σ)) := by rw [ev]; try rfl
@[simp] theorem evs_nil  : evs P rc rm .nil σ h = .ok [] h := by rw [evs]; try rfl
@[simp] theorem evs_cons  : evs P rc rm (.cons a es) σ h = (ev P rc rm a σ h).bind (kCo (evs P rc rm es σ)) := by rw [evs]; try rfl
@[simp] theorem evs_star  : evs P rc rm (.star a es) σ h = (ev P rc rm a σ h).bind (kSt (evs P rc rm es σ)) := by rw [evs]; try rfl
@[simp] theorem evo_none  : evo P rc rm .none σ h = .ok none h := by rw [evo]; try rfl
@[simp] theorem evo_some  : evo P rc rm (.some a) σ h = (ev P rc rm a σ h).bind kPart := by rw [evo]; try rfl
@[simp] theorem evt_none  : evt P rc rm .none σ h = .ok true h := by rw [evt]; try rfl
@[simp] theorem evt_some  : evt P rc rm (.some a) σ h = tru (ev P rc rm a σ h) := by rw [evt]; try rfl
@[simp] theorem evi_seq  : evi P rc rm (.seq a) σ h = (ev P rc rm a σ h).bind kSq := by rw [evi]; try rfl
@[simp] theorem evi_enum  : evi P rc rm (.enum a) σ h = (ev P rc rm a σ h).bind kEn := by rw [evi]; try rfl
@[simp] theorem evi_rng1  : evi P rc rm (.rng1 a) σ h = (ev P rc rm a σ h).bind kRg1 := by rw [evi]; try rfl
@[simp] theorem evi_rng  : evi P rc rm (.rng a b) σ h = (ev P rc rm a σ h).bind (kRg (ev P rc rm b σ)) := by rw [evi]; try rfl
@[simp] theorem xs_pass  : xs P rc rm .pass σ h = .nx σ h := by rw [xs]; try rfl
@[simp] theorem xs_brk  : xs P rc rm .brk σ h = .bk σ h := by rw [xs]; try rfl
@[simp] theorem xs_cont  : xs P rc rm .cont σ h = .ct σ h := by rw [xs]; try rfl
@[simp] theorem xs_retN  : xs P rc rm .retN σ h = .rt .non h := by rw [xs]; try rfl
@[simp] theorem xs_expr  : xs P rc rm (.expr a) σ h = ofRes σ (ev P rc rm a σ h) (kNx σ) := by rw [xs]; try rfl
@[simp] theorem xs_set  : xs P rc rm (.set i a) σ h = ofRes σ (ev P rc rm a σ h) (kSet σ i) := by rw [xs]; try rfl
@[simp] theorem xs_fset  : xs P rc rm (.fset b f a) σ h = ofRes σ (ev P rc rm a σ h) (kFs P σ f (ev P rc rm b σ)) := by rw [xs]; try rfl
@[simp] theorem xs_tset  : xs P rc rm (.tset is a) σ h = ofRes σ (ev P rc rm a σ h) (kTs σ is) := by rw [xs]; try rfl
@[simp] theorem xs_ret  : xs P rc rm (.ret a) σ h = ofRes σ (ev P rc rm a σ h) kRet := by rw [xs]; try rfl
@[simp] theorem xs_ite  : xs P rc rm (.ite a sa sb) σ h = ofRes σ (tru (ev P rc rm a σ h)) (kIf σ (xss P rc rm sa) (xss P rc rm sb)) := by rw [xs]; try rfl
@[simp] theorem xs_for  : xs P rc rm (.forr tg it sa) σ h = ofRes σ (evi P rc rm it σ h) (kFor σ (forB tg (xss P rc rm sa))) := by rw [xs]; try rfl
@[simp] theorem xs_whl  : xs P rc rm (.whl a sa) σ h = loopW (whB (ev P rc rm a) (xss P rc rm sa)) FUEL σ h := by rw [xs]; try rfl
@[simp] theorem xs_mtch  : xs P rc rm (.mtch a cs) σ h = ofRes σ (ev P rc rm a σ h) (kMt σ (xcs P rc rm cs)) := by rw [xs]; try rfl
@[simp] theorem ev_all  : ev P rc rm (.all i it a) σ h = (evi P rc rm it σ h).bind (kAll i (ev P rc rm a) σ) := by rw [ev]; try rfl
@[simp] theorem xs_raise  : xs P rc rm (.raise f es) σ h = ofRes σ (evs P rc rm es σ h) (kRz P f σ) := by rw [xs]; try rfl
@[simp] theorem xs_try (nm : Option Nat) (hs : List (Nat × HS)) : xs P rc rm (.tryx sa nm hs) σ h = tryK P nm hs (xss P rc rm sa σ h) := by rw [xs]; try rfl
@[simp] theorem xss_nil  : xss P rc rm .nil σ h = .nx σ h := by rw [xss]; try rfl
@[simp] theorem xss_cons  : xss P rc rm (.cons s sa) σ h = (xs P rc rm s σ h).seq (xss P rc rm sa) := by rw [xss]; try rfl
@[simp] theorem xcs_nil  : xcs P rc rm .nil v σ h = .nx σ h := by rw [xcs]; try rfl
@[simp] theorem xcs_cons  : xcs P rc rm (.cons p sa cs) v σ h = csO (mtch p v) (xss P rc rm sa) (xcs P rc rm cs) v σ h := by rw [xcs]; try rfl
end

@[simp] theorem bop_add (i j : Int) (h : PH) : bop .add (.int i) (.int j) h = .ok (.int (i + j)) h := (rfl)
@[simp] theorem bop_sub (i j : Int) (h : PH) : bop .sub (.int i) (.int j) h = .ok (.int (i - j)) h := (rfl)
@[simp] theorem bop_mul (i j : Int) (h : PH) : bop .mul (.int i) (.int j) h = if smallI i = true ∨ smallI j = true then .ok (.int (i * j)) h else .no := (rfl)
@[simp] theorem bop_mod (i j : Int) (h : PH) : bop .mod (.int i) (.int j) h = if 0 < j then .ok (.int (i % j)) h else .no := (rfl)
@[simp] theorem bop_fdiv (i j : Int) (h : PH) : bop .fdiv (.int i) (.int j) h = if 0 < j ∧ j < 1073741824 then .ok (.int (i / j)) h else .no := (rfl)
@[simp] theorem bop_pow (i j : Int) (h : PH) : bop .pow (.int i) (.int j) h = if 0 ≤ j ∧ j ≤ 1000000 ∧ i.natAbs < 2 ^ 64 then .ok (.int (i ^ j.toNat)) h else .no := (rfl)
@[simp] theorem bop_addT (l r : List PV) (h : PH) : bop .add (.tup l) (.tup r) h = if l.length + r.length ≤ LINE then .ok (.tup (l ++ r)) h else .no := (rfl)
theorem bop_addL {a b : Nat} {l r : List PV} {h : PH} (e1 : h.get a = some (.lst l)) (e2 : h.get b = some (.lst r)) (hl : l.length + r.length ≤ LINE) : bop .add (.ref a) (.ref b) h = .ok (.ref h.n) (h.new (.lst (l ++ r))) := by
  simp only [bop, e1, e2, if_pos hl, alloc]
@[simp] theorem smallI_def (i : Int) : smallI i = (decide (-(2 ^ 64) < i) && decide (i < 2 ^ 64)) := (rfl)
@[simp] theorem LINE_val : LINE = 16777216 := (rfl)
@[simp] theorem cop_eq (x y : PV) (h : PH) : cop .eq x y h = eqX h x y := (rfl)
@[simp] theorem cop_ne (x y : PV) (h : PH) : cop .ne x y h = (eqX h x y).map fun b => !b := (rfl)
theorem eqX_S {x y : PV} {b : Bool} (e : eqS x y = some b) (h : PH) : eqX h x y = some b := by unfold eqX; rw [e]
@[simp] theorem eqX_int (i j : Int) (h : PH) : eqX h (.int i) (.int j) = some (decide (i = j)) := (rfl)
@[simp] theorem eqX_bl (i j : Bool) (h : PH) : eqX h (.bl i) (.bl j) = some (i == j) := (rfl)
@[simp] theorem eqX_str (i j : Str) (h : PH) : eqX h (.str i) (.str j) = some (decide (i = j)) := (rfl)
@[simp] theorem eqX_is (i : Int) (j : Str) (h : PH) : eqX h (.int i) (.str j) = some false := (rfl)
@[simp] theorem eqX_si (i : Int) (j : Str) (h : PH) : eqX h (.str j) (.int i) = some false := (rfl)
@[simp] theorem eqX_ni (i : Int) (h : PH) : eqX h .non (.int i) = some false := (rfl)
@[simp] theorem eqX_in (i : Int) (h : PH) : eqX h (.int i) .non = some false := (rfl)
@[simp] theorem eqX_ns (i : Str) (h : PH) : eqX h .non (.str i) = some false := (rfl)
@[simp] theorem eqX_sn (i : Str) (h : PH) : eqX h (.str i) .non = some false := (rfl)
@[simp] theorem eqX_nn (h : PH) : eqX h .non .non = some true := (rfl)
@[simp] theorem eqX_bs (i : Bool) (j : Str) (h : PH) : eqX h (.bl i) (.str j) = some false := (rfl)
@[simp] theorem cop_isin (x y : PV) (h : PH) : cop .isin x y h = inX h x y := (rfl)
@[simp] theorem cop_notin (x y : PV) (h : PH) : cop .notin x y h = (inX h x y).map fun b => !b := (rfl)
@[simp] theorem cop_lt (i j : Int) (h : PH) : cop .lt (.int i) (.int j) h = some (decide (i < j)) := (rfl)
@[simp] theorem cop_le (i j : Int) (h : PH) : cop .le (.int i) (.int j) h = some (decide (i ≤ j)) := (rfl)
@[simp] theorem cop_gt (i j : Int) (h : PH) : cop .gt (.int i) (.int j) h = some (decide (j < i)) := (rfl)
@[simp] theorem cop_ge (i j : Int) (h : PH) : cop .ge (.int i) (.int j) h = some (decide (j ≤ i)) := (rfl)
def isNon : PV → Bool
  | .non => true
  | _ => false
@[simp] theorem isNon_non : isNon .non = true := (rfl)
@[simp] theorem isNon_int (i : Int) : isNon (.int i) = false := (rfl)
@[simp] theorem isNon_bl (i : Bool) : isNon (.bl i) = false := (rfl)
@[simp] theorem isNon_str (i : Str) : isNon (.str i) = false := (rfl)
@[simp] theorem isNon_tup (i : List PV) : isNon (.tup i) = false := (rfl)
@[simp] theorem isNon_ref (i : Nat) : isNon (.ref i) = false := (rfl)
@[simp] theorem cop_isN (x : PV) (h : PH) : cop .is x .non h = some (isNon x) := by cases x <;> rfl
@[simp] theorem cop_notN (x : PV) (h : PH) : cop .isnot x .non h = some (!isNon x) := by cases x <;> rfl
def isBl (b : Bool) : PV → Bool
  | .bl a => a == b
  | _ => false
@[simp] theorem isBl_non (b : Bool) : isBl b .non = false := (rfl)
@[simp] theorem isBl_int (b : Bool) (i : Int) : isBl b (.int i) = false := (rfl)
@[simp] theorem isBl_bl (b i : Bool) : isBl b (.bl i) = (i == b) := (rfl)
@[simp] theorem isBl_str (b : Bool) (i : Str) : isBl b (.str i) = false := (rfl)
@[simp] theorem isBl_tup (b : Bool) (i : List PV) : isBl b (.tup i) = false := (rfl)
@[simp] theorem isBl_ref (b : Bool) (i : Nat) : isBl b (.ref i) = false := (rfl)
@[simp] theorem cop_isB (x : PV) (b : Bool) (h : PH) : cop .is x (.bl b) h = some (isBl b x) := by cases x <;> rfl
@[simp] theorem eqS_int (i j : Int) : eqS (.int i) (.int j) = some (decide (i = j)) := (rfl)
@[simp] theorem eqS_bl (i j : Bool) : eqS (.bl i) (.bl j) = some (i == j) := (rfl)
@[simp] theorem eqS_str (i j : Str) : eqS (.str i) (.str j) = some (decide (i = j)) := (rfl)
@[simp] theorem eqS_is (i : Int) (j : Str) : eqS (.int i) (.str j) = some false := (rfl)
@[simp] theorem eqS_si (i : Int) (j : Str) : eqS (.str j) (.int i) = some false := (rfl)
@[simp] theorem eqS_ni (i : Int) : eqS .non (.int i) = some false := (rfl)
@[simp] theorem eqS_in (i : Int) : eqS (.int i) .non = some false := (rfl)
@[simp] theorem eqS_ns (i : Str) : eqS .non (.str i) = some false := (rfl)
@[simp] theorem eqS_sn (i : Str) : eqS (.str i) .non = some false := (rfl)
@[simp] theorem truth_bl (b : Bool) (h : PH) : truth h (.bl b) = some b := (rfl)
@[simp] theorem truth_int (i : Int) (h : PH) : truth h (.int i) = some (i != 0) := (rfl)
@[simp] theorem truth_non (h : PH) : truth h .non = some false := (rfl)
@[simp] theorem truth_tup (l : List PV) (h : PH) : truth h (.tup l) = some (!l.isEmpty) := (rfl)
@[simp] theorem tru_ok (v : PV) (h : PH) : tru (.ok v h) = opt (truth h v) h := (rfl)
@[simp] theorem isT_int (t : Ty) (i : Int) (h : PH) : isT h t (.int i) = some (match t with | .int => true | _ => false) := (rfl)
@[simp] theorem isT_non (t : Ty) (h : PH) : isT h t .non = some false := (rfl)
@[simp] theorem isT_bl (t : Ty) (i : Bool) (h : PH) : isT h t (.bl i) = some (match t with | .int => true | .bool => true | _ => false) := (rfl)
@[simp] theorem isT_str (t : Ty) (i : Str) (h : PH) : isT h t (.str i) = some (match t with | .str => true | _ => false) := (rfl)
@[simp] theorem isT_tup (t : Ty) (i : List PV) (h : PH) : isT h t (.tup i) = some (match t with | .tuple => true | _ => false) := (rfl)
theorem isT_lst {a : Nat} {l : List PV} {h : PH} (e : h.get a = some (.lst l)) (t : Ty) : isT h t (.ref a) = some (match t with | .list => true | _ => false) := by simp only [isT, e] <;> cases t <;> rfl
@[simp] theorem blt_int (i : Int) (h : PH) : blt .int [.int i] h = .ok (.int i) h := (rfl)
@[simp] theorem blt_intb (i : Bool) (h : PH) : blt .int [.bl i] h = .ok (.int (if i then 1 else 0)) h := (rfl)
@[simp] theorem blt_lenT (l : List PV) (h : PH) : blt .len [.tup l] h = .ok (.int l.length) h := (rfl)
theorem blt_len {a : Nat} {l : List PV} {h : PH} (e : seqOf h (.ref a) = some l) : blt .len [.ref a] h = .ok (.int l.length) h := by simp only [blt, e]
@[simp] theorem blt_tupT (l : List PV) (h : PH) : blt .tuple [.tup l] h = .ok (.tup l) h := (rfl)
theorem blt_tup {a : Nat} {l : List PV} {h : PH} (e : seqOf h (.ref a) = some l) : blt .tuple [.ref a] h = .ok (.tup l) h := by simp only [blt, e]
@[simp] theorem blt_lstT (l : List PV) (h : PH) : blt .list [.tup l] h = .ok (.ref h.n) (h.new (.lst l)) := (rfl)
theorem blt_lst {a : Nat} {l : List PV} {h : PH} (e : seqOf h (.ref a) = some l) : blt .list [.ref a] h = .ok (.ref h.n) (h.new (.lst l)) := by simp only [blt, e, alloc]
@[simp] theorem blt_min (i j : Int) (h : PH) : blt .min2 [.int i, .int j] h = .ok (.int (if j < i then j else i)) h := (rfl)
@[simp] theorem blt_max (i j : Int) (h : PH) : blt .max2 [.int i, .int j] h = .ok (.int (if j > i then j else i)) h := (rfl)
@[simp] theorem alloc_def (o : PO) (h : PH) : alloc o h = .ok (.ref h.n) (h.new o) := (rfl)
@[simp] theorem fuel_vals (l : List PV) (h : PH) : fuelOf (.vals l) h = l.length := (rfl)
@[simp] theorem rng_len (i j : Int) : (rngV i j).length = (j - i).toNat := rngV_length i j
@[simp] theorem src_tup (l : List PV) (h : PH) : srcOf h (.tup l) = some (.vals l) := (rfl)
theorem src_lst {a : Nat} {l : List PV} {h : PH} (e : h.get a = some (.lst l)) : srcOf h (.ref a) = some (.live a) := by simp only [srcOf, e]
theorem enum_lst {a : Nat} {l : List PV} {h : PH} (e : h.get a = some (.lst l)) : enumOf h (.ref a) = some (.lenum a) := by simp only [enumOf, e]
theorem fuel_live {a : Nat} {l : List PV} {h : PH} (e : seqOf h (.ref a) = some l) : fuelOf (.live a) h = l.length := by simp only [fuelOf, e]; rfl
theorem fuel_enum {a : Nat} {l : List PV} {h : PH} (e : seqOf h (.ref a) = some l) : fuelOf (.lenum a) h = l.length := by simp only [fuelOf, e]; rfl
@[simp] theorem ix_tup (l : List PV) (i : Int) (h : PH) : getIx h (.tup l) (.int i) = atI l i := (rfl)
theorem ix_lst {a : Nat} {l : List PV} {h : PH} (e : seqOf h (.ref a) = some l) (i : Int) : getIx h (.ref a) (.int i) = atI l i := by simp only [getIx, e]
theorem atI_nat {α : Type} {l : List α} {n : Nat} {x : α} (e : l[n]? = some x) : atI l (n : Int) = some x := by
  obtain ⟨hl, _⟩ := List.getElem?_eq_some_iff.mp e
  unfold atI ixN
  rw [if_pos (by omega), if_pos (by omega)]
  simpa using e
@[simp] theorem slice_tup (l : List PV) (lo hi : Option Int) (h : PH) : slice (.tup l) lo hi h = .ok (.tup (cutP l lo hi)) h := (rfl)
theorem slice_lst {a : Nat} {l : List PV} {h : PH} (e : h.get a = some (.lst l)) (lo hi : Option Int) : slice (.ref a) lo hi h = .ok (.ref h.n) (h.new (.lst (cutP l lo hi))) := by simp only [slice, e, alloc]
theorem slice_rol {a : Nat} {l : List PV} {h : PH} (e : h.get a = some (.rol l)) (lo hi : Option Int) : slice (.ref a) lo hi h = .ok (.ref h.n) (h.new (.lst (cutP l lo hi))) := by simp only [slice, e, alloc]
@[simp] theorem mtch_atom (p : P1) (v : PV) : mtch (.atom p) v = m1 p v := (rfl)
@[simp] theorem mtch_seq (ps : List P1) (l : List PV) : mtch (.seq ps) (.tup l) = if l.length = ps.length then mEach ps l else some none := (rfl)
@[simp] theorem m1_wild (v : PV) : m1 .wild v = some (some []) := (rfl)
@[simp] theorem m1_cap (i : Nat) (v : PV) : m1 (.cap i) v = some (some [(i, v)]) := (rfl)
@[simp] theorem m1_val (c v : PV) : m1 (.val c) v = (eqS v c).map fun b => if b = true then some [] else none := (rfl)
@[simp] theorem mEach_nil : mEach [] [] = some (some []) := (rfl)
def mCat (o : Option (Option (List (Nat × PV)))) (f : Unit → Option (Option (List (Nat × PV)))) : Option (Option (List (Nat × PV))) := match o with
  | some (some b) => match f () with
    | some (some m) => some (some (b ++ m))
    | r => r
  | r => r
theorem mEach_cons (p : P1) (ps : List P1) (v : PV) (vs : List PV) : mEach (p :: ps) (v :: vs) = mCat (m1 p v) fun _ => mEach ps vs := rfl
@[simp] theorem bindAll_nil (σ : Sl) : bindAll [] σ = σ := (rfl)
@[simp] theorem bindAll_cons (b : Nat × PV) (bs : List (Nat × PV)) (σ : Sl) : bindAll (b :: bs) σ = bindAll bs (σ.set b.1 (some b.2)) := (rfl)
@[simp] theorem setAll_nil (σ : Sl) : setAll [] [] σ = some σ := (rfl)
@[simp] theorem setAll_cons (i : Nat) (is : List Nat) (v : PV) (vs : List PV) (σ : Sl) : setAll (i :: is) (v :: vs) σ = setAll is vs (σ.set i (some v)) := (rfl)
@[simp] theorem bindT_name (i : Nat) (v : PV) (σ : Sl) : bindT (.name i) v σ = some (σ.set i (some v)) := (rfl)
@[simp] theorem bindT_names (is : List Nat) (l : List PV) (σ : Sl) : bindT (.names is) (.tup l) σ = setAll is l σ := (rfl)
@[simp] theorem wipe_nil (σ : Sl) : wipeP σ [] = σ := (rfl)
@[simp] theorem wipe_cons (σ : Sl) (v : Nat) (vs : List Nat) : wipeP σ (v :: vs) = (wipeP σ vs).set v none := (rfl)

/-! ### exceptions -/
@[simp] theorem bind_exc {α β : Type} (c : Nat) (fs : List (Nat × PV)) (h : PH) (f : α → PH → Res β) : (Res.exc c fs h).bind f = .exc c fs h := (rfl)
@[simp] theorem ofRes_exc {α : Type} (σ : Sl) (c : Nat) (fs : List (Nat × PV)) (h : PH) (f : α → PH → SR) : ofRes σ (.exc c fs h : Res α) f = .ex c fs σ h := (rfl)
@[simp] theorem seq_ex (c : Nat) (fs : List (Nat × PV)) (σ : Sl) (h : PH) (f : Sl → PH → SR) : (SR.ex c fs σ h).seq f = .ex c fs σ h := (rfl)
@[simp] theorem seq_bk (σ : Sl) (h : PH) (f : Sl → PH → SR) : (SR.bk σ h).seq f = .bk σ h := (rfl)
@[simp] theorem seq_ct (σ : Sl) (h : PH) (f : Sl → PH → SR) : (SR.ct σ h).seq f = .ct σ h := (rfl)
@[simp] theorem fin_ex (c : Nat) (fs : List (Nat × PV)) (σ : Sl) (h : PH) : fin (.ex c fs σ h) = .exc c fs h := (rfl)
@[simp] theorem try_nx (P : Pg) (nm : Option Nat) (hs : List (Nat × HS)) (σ : Sl) (h : PH) : tryK P nm hs (.nx σ h) = .nx σ h := (rfl)
@[simp] theorem try_rt (P : Pg) (nm : Option Nat) (hs : List (Nat × HS)) (v : PV) (h : PH) : tryK P nm hs (.rt v h) = .rt v h := (rfl)
@[simp] theorem try_ex (P : Pg) (nm : Option Nat) (hs : List (Nat × HS)) (c : Nat) (fs : List (Nat × PV)) (σ : Sl) (h : PH) : tryK P nm hs (.ex c fs σ h) = if nmOk nm σ = true then handle P c fs nm σ h hs else .no := (rfl)
@[simp] theorem nmOk_none (σ : Sl) : nmOk none σ = true := (rfl)
@[simp] theorem nmOk_some (i : Nat) (σ : Sl) : nmOk (some i) σ = decide (i < σ.length) := (rfl)
theorem loopA_pure {body : PV → PH → Res PV} {l : List PV} {p : PV → Bool} {h : PH} (hb : ∀ x ∈ l, body x h = .ok (.bl (p x)) h) : ∀ (n i : Nat), n + i = l.length → loopA body (.vals l) n i h = .ok ((l.drop i).all p) h
  | 0, i, e => by
    have e2 : l[i]? = none := List.getElem?_eq_none_iff.mpr (by omega)
    unfold loopA
    show (match some l[i]? with | some none => Res.ok true h | _ => .no) = _
    rw [e2, List.drop_eq_nil_of_le (by omega)]
    rfl
  | n + 1, i, e => by
    have hi : i < l.length := by omega
    have e1 : nxt (.vals l) i h = some (some l[i]) := by show some l[i]? = _; rw [List.getElem?_eq_getElem hi]
    rw [loopA, e1]
    simp only [hb _ (List.getElem_mem hi), bind_ok]
    rw [List.drop_eq_getElem_cons hi, List.all_cons]
    cases hp : p l[i] with
    | true => simp only [Bool.true_and]; exact loopA_pure hb n (i + 1) (by omega)
    | false => simp

/-! ### loops over what does not change -/
def loopV (body : PV → Sl → PH → SR) : List PV → Sl → PH → SR
  | [], σ, h => .nx σ h
  | x :: r, σ, h => match body x σ h with
    | .nx σ1 h1 => loopV body r σ1 h1
    | .ct σ1 h1 => loopV body r σ1 h1
    | .bk σ1 h1 => .nx σ1 h1
    | r => r
theorem loopF_vals (body : PV → Sl → PH → SR) (l : List PV) : ∀ (n i : Nat) (σ : Sl) (h : PH), n + i = l.length → loopF body (.vals l) n i σ h = loopV body (l.drop i) σ h
  | 0, i, σ, h, e => by
    have e1 : nxt (.vals l) i h = some none := by show some l[i]? = _; rw [List.getElem?_eq_none (by omega)]
    unfold loopF
    rw [e1, List.drop_eq_nil_of_le (by omega)]
    rfl
  | n + 1, i, σ, h, e => by
    have hi : i < l.length := by omega
    have e1 : nxt (.vals l) i h = some (some l[i]) := by show some l[i]? = _; rw [List.getElem?_eq_getElem hi]
    rw [loopF, e1, List.drop_eq_getElem_cons hi, loopV]
    cases q : body l[i] σ h with
    | nx σ1 h1 => simp only [q]; exact loopF_vals body l n (i + 1) σ1 h1 (by omega)
    | ct σ1 h1 => simp only [q]; exact loopF_vals body l n (i + 1) σ1 h1 (by omega)
    | _ => simp only [q]
@[simp] theorem loopF_all (body : PV → Sl → PH → SR) (l : List PV) (σ : Sl) (h : PH) : loopF body (.vals l) l.length 0 σ h = loopV body l σ h := loopF_vals body l l.length 0 σ h (by omega)
theorem loopF_n (body : PV → Sl → PH → SR) (l : List PV) (n : Nat) (σ : Sl) (h : PH) (e : n = l.length) : loopF body (.vals l) n 0 σ h = loopV body l σ h := by subst e; exact loopF_all body l σ h
/-- a live list that the body leaves as it is -/
theorem loopF_live {body : PV → Sl → PH → SR} {a : Nat} {l : List PV} (keep : ∀ x ∈ l, ∀ σ h, seqOf h (.ref a) = some l → ∀ σ1 h1, (body x σ h = .nx σ1 h1 ∨ body x σ h = .ct σ1 h1) → seqOf h1 (.ref a) = some l) : ∀ (n i : Nat) (σ : Sl) (h : PH), seqOf h (.ref a) = some l → n + i = l.length →
    loopF body (.live a) n i σ h = loopV body (l.drop i) σ h
  | 0, i, σ, h, g, e => by
    have e1 : nxt (.live a) i h = some none := by show (seqOf h (.ref a)).map _ = _; rw [g]; show some l[i]? = _; rw [List.getElem?_eq_none (by omega)]
    unfold loopF
    rw [e1, List.drop_eq_nil_of_le (by omega)]
    rfl
  | n + 1, i, σ, h, g, e => by
    have hi : i < l.length := by omega
    have e1 : nxt (.live a) i h = some (some l[i]) := by show (seqOf h (.ref a)).map _ = _; rw [g]; show some l[i]? = _; rw [List.getElem?_eq_getElem hi]
    rw [loopF, e1, List.drop_eq_getElem_cons hi, loopV]
    cases q : body l[i] σ h with
    | nx σ1 h1 => simp only [q]; exact loopF_live keep n (i + 1) σ1 h1 (keep _ (List.getElem_mem hi) σ h g σ1 h1 (.inl q)) (by omega)
    | ct σ1 h1 => simp only [q]; exact loopF_live keep n (i + 1) σ1 h1 (keep _ (List.getElem_mem hi) σ h g σ1 h1 (.inr q)) (by omega)
    | _ => simp only [q]
/-- a loop over values, an invariant over what is behind -/
theorem loopV_inv {body : PV → Sl → PH → SR} (I : List PV → Sl → PH → Prop) (step : ∀ x r σ h, I (x :: r) σ h → ∃ σ1 h1, (body x σ h = .nx σ1 h1 ∨ body x σ h = .ct σ1 h1) ∧ I r σ1 h1) : ∀ (l : List PV) (σ : Sl) (h : PH), I l σ h → ∃ σ' h', loopV body l σ h = .nx σ' h' ∧ I [] σ' h'
  | [], σ, h, q => ⟨σ, h, rfl, q⟩
  | x :: r, σ, h, q => by
    obtain ⟨σ1, h1, e, q1⟩ := step x r σ h q
    obtain ⟨σ2, h2, e2, q2⟩ := loopV_inv I step r σ1 h1 q1
    refine ⟨σ2, h2, ?_, q2⟩
    rw [loopV]
    rcases e with e | e <;> (simp only [e]; exact e2)
/-- a comprehension over values whose element is plain -/
theorem loopC_pure {body : PV → PH → Res (Option PV)} {l : List PV} {f : PV → Option PV} {h : PH} (hb : ∀ x ∈ l, body x h = .ok (f x) h) : ∀ (n i : Nat) (acc : List PV), n + i = l.length → acc.length + n ≤ LINE → loopC body (.vals l) n i acc h = .ok (acc ++ (l.drop i).filterMap f) h
  | 0, i, acc, e, _ => by
    have e1 : nxt (.vals l) i h = some none := by show some l[i]? = _; rw [List.getElem?_eq_none (by omega)]
    unfold loopC
    rw [e1, List.drop_eq_nil_of_le (by omega)]
    simp
  | n + 1, i, acc, e, hl => by
    have hi : i < l.length := by omega
    have e1 : nxt (.vals l) i h = some (some l[i]) := by show some l[i]? = _; rw [List.getElem?_eq_getElem hi]
    rw [loopC, e1, List.drop_eq_getElem_cons hi]
    simp only [hb _ (List.getElem_mem hi), bind_ok]
    cases hf : f l[i] with
    | none =>
      simp only
      rw [loopC_pure hb n (i + 1) acc (by omega) (by omega), List.filterMap_cons_none hf]
    | some v =>
      simp only
      have hlt : acc.length < LINE := by omega
      rw [if_pos (by first | exact hlt | (rw [LINE_val] at hlt; exact hlt)), loopC_pure hb n (i + 1) (acc ++ [v]) (by omega) (by rw [List.length_append, List.length_singleton]; omega), List.filterMap_cons_some hf]
      simp
theorem loopC_map {body : PV → PH → Res (Option PV)} {l : List PV} {f : PV → PV} {h : PH} (hb : ∀ x ∈ l, body x h = .ok (some (f x)) h) (hl : l.length ≤ LINE) : loopC body (.vals l) l.length 0 [] h = .ok (l.map f) h := by
  have := loopC_pure (f := fun x => some (f x)) hb l.length 0 [] (by omega) (by simpa using hl)
  simpa using this
end Fx

/-! The draws of a law. -/
namespace Fx
open PySem L2
def b_draws : Ss := (.cons (.set 2 (.lst .nil)) (.cons (.set 3 (.blt .int (.cons (.var 0) .nil))) (.cons (.ite (.cmp .ge (.var 3) (.bin .pow (.cst (.int 10)) (.cst (.int 18)))) (.cons (.forr (.name 4) (.rng1 (.var 1)) (.cons (.ite (.cmp .gt (.var 3) (.cst (.int 0))) (.cons (.expr (.lm .append (.var 2) (.cons (.bin .mod (.blt .int (.cons (.var 3) .nil)) (.cst (.int 1000))) .nil))) (.cons (.set 3 (.bin .fdiv (.var 3) (.cst (.int 1000)))) .nil)) .nil) .nil)) .nil) .nil) (.cons (.set 5 (.bin .mod (.blt .int (.cons (.bin .add (.bin .mul (.blt .int (.cons (.var 0) .nil)) (.cst (.int 48271))) (.cst (.int 11))) .nil)) (.cst (.int 2147483647)))) (.cons (.forr (.name 4) (.rng1 (.var 1)) (.cons (.set 5 (.bin .mod (.blt .int (.cons (.bin .add (.bin .add (.bin .mul (.var 5) (.cst (.int 48271))) (.bin .mul (.var 4) (.cst (.int 69621)))) (.cst (.int 7))) .nil)) (.cst (.int 2147483647)))) (.cons (.ite (.cmp .lt (.blt .len (.cons (.var 2) .nil)) (.var 1)) (.cons (.expr (.lm .append (.var 2) (.cons (.bin .mod (.blt .int (.cons (.bin .mod (.blt .int (.cons (.bin .add (.bin .mul (.var 5) (.cst (.int 69621))) (.cst (.int 5))) .nil)) (.cst (.int 2147483629))) .nil)) (.cst (.int 1000))) .nil))) .nil) .nil) .nil))) (.cons (.ret (.var 2)) .nil))))))

/-- the digits of a great cell -/
def dr1 (c : Int) : Nat → List Int × Int
  | 0 => ([], c)
  | n + 1 => if 0 < (dr1 c n).2 then ((dr1 c n).1 ++ [(dr1 c n).2 % 1000], (dr1 c n).2 / 1000) else dr1 c n
def dr0 (c : Int) (m : Nat) : List Int := if (10 : Int) ^ 18 ≤ c then (dr1 c m).1 else []
def dr2 (c : Int) (m : Nat) : Nat → List Int × Int
  | 0 => (dr0 c m, (c * 48271 + 11) % 2147483647)
  | n + 1 => ((if (dr2 c m n).1.length < m then (dr2 c m n).1 ++ [((((dr2 c m n).2 * 48271 + n * 69621 + 7) % 2147483647) * 69621 + 5) % 2147483629 % 1000] else (dr2 c m n).1), ((dr2 c m n).2 * 48271 + n * 69621 + 7) % 2147483647)
def drawsF (c : Int) (m : Nat) : List Int := (dr2 c m m).1
def Dig (l : List Int) : Prop := ∀ d ∈ l, 0 ≤ d ∧ d < 1000
theorem dr1_ok (c : Int) : ∀ n, Dig (dr1 c n).1 ∧ (dr1 c n).1.length ≤ n
  | 0 => ⟨fun d h => by simp [dr1] at h, by simp [dr1]⟩
  | n + 1 => by
    obtain ⟨h1, h2⟩ := dr1_ok c n
    unfold dr1
    split
    · refine ⟨fun d hd => ?_, by simp; omega⟩
      rcases List.mem_append.mp hd with hd | hd
      · exact h1 d hd
      · rw [List.mem_singleton.mp hd]; omega
    · exact ⟨h1, by omega⟩
theorem dr2_ok (c : Int) (m : Nat) : ∀ n, Dig (dr2 c m n).1 ∧ (dr2 c m n).1.length ≤ m ∧ min m n ≤ (dr2 c m n).1.length
  | 0 => by
    unfold dr2 dr0
    split
    · exact ⟨(dr1_ok c m).1, (dr1_ok c m).2, by omega⟩
    · exact ⟨fun d h => by simp at h, by simp, by simp⟩
  | n + 1 => by
    obtain ⟨h1, h2, h3⟩ := dr2_ok c m n
    unfold dr2
    dsimp only
    split
    · refine ⟨fun d hd => ?_, by simp; omega, by simp; omega⟩
      rcases List.mem_append.mp hd with hd | hd
      · exact h1 d hd
      · rw [List.mem_singleton.mp hd]; omega
    · exact ⟨h1, h2, by omega⟩
theorem drawsF_len (c : Int) (m : Nat) : (drawsF c m).length = m := by
  have := dr2_ok c m m
  unfold drawsF
  omega
theorem drawsF_dig (c : Int) (m : Nat) : Dig (drawsF c m) := (dr2_ok c m m).1
theorem lm_app {h : PH} {a : Nat} {l : List PV} {v : PV} (e : h.get a = some (.lst l)) (hl : l.length < LINE) : lmeth .append (.ref a) [v] h = .ok .non (h.set a (.lst (l ++ [v]))) := by
  unfold lmeth
  simp only [e, if_pos hl]
theorem lstAt_of {h : PH} {a : Nat} {l : List PV} (e : h.get a = some (.lst l)) : lstAt h (.ref a) = some () := by
  unfold lstAt
  simp only [e]
theorem app_map (l : List Int) (d : Int) : l.map PV.int ++ [.int d] = (l ++ [d]).map .int := by simp
theorem draws_spec {P : Pg} {f k : Nat} (hf : P.fn f = some ⟨2, 6, b_draws⟩) (c : Int) (m : Nat) (hm : m ≤ 1000) (h : PH) :
    ∃ h', run P (k + 2) f [.int c, .int m] h = .ok (.ref h.n) h' ∧ Ext h h' ∧ h.n < h'.n ∧ h'.get h.n = some (.lst ((drawsF c m).map .int)) := by
  have hL : LINE = 16777216 := rfl
  have e0 : (h.new (.lst [])).get h.n = some (.lst (([] : List Int).map .int)) := PH.get_new_same
  have hin : inR (m : Int) = true := by simp [inR]; omega
  have hpow : (10 : Int) ^ 18 = 1000000000000000000 := rfl
  -- the first loop
  have l1 := loopF_rule (body := forB (.name 4) (xss P (run P (k + 1)) (run P k) (.cons (.ite (.cmp .gt (.var 3) (.cst (.int 0))) (.cons (.expr (.lm .append (.var 2) (.cons (.bin .mod (.blt .int (.cons (.var 3) .nil)) (.cst (.int 1000))) .nil))) (.cons (.set 3 (.bin .fdiv (.var 3) (.cst (.int 1000)))) .nil)) .nil) .nil))) (s := .vals (rngV 0 m)) (l := rngV 0 m)
    (fun i σ h1 => ∃ x4, σ = [some (.int c), some (.int m), some (.ref h.n), some (.int (dr1 c i).2), x4, none] ∧ ExtBut h.n (h.new (.lst [])) h1 ∧ h1.get h.n = some (.lst ((dr1 c i).1.map .int)))
    (fun i σ h1 _ => rfl) (fun i x σ h1 hx ⟨x4, hs, hE, hg⟩ => by
      obtain ⟨rfl, hi⟩ := rngV_get hx
      subst hs
      have hlen := (dr1_ok c i).2
      have hl : ((dr1 c i).1.map PV.int).length < LINE := by rw [List.length_map]; omega
      by_cases hr : 0 < (dr1 c i).2
      · refine ⟨_, _, .inl ?_, ⟨some (.int (0 + i)), rfl, hE.trans (ExtBut.set _ _ (.lst ((dr1 c (i + 1)).1.map .int))), PH.get_set_same hg⟩⟩
        simp [lstAt_of hg, lm_app hg hl, hr, dr1]
      · refine ⟨_, h1, .inl ?_, ⟨some (.int (0 + i)), rfl, hE, ?_⟩⟩
        · simp [hr, dr1]
        · simpa [dr1, hr] using hg) m 0 _ (h.new (.lst [])) (by rw [rngV_length]; simp) ⟨none, rfl, ExtBut.refl _ _, e0⟩
  have l2 : ∀ (rest : Int) (x4 : Option PV) (h1 : PH), ExtBut h.n (h.new (.lst [])) h1 → h1.get h.n = some (.lst ((dr0 c m).map .int)) → ∃ σ' h2, loopF (forB (.name 4) (xss P (run P (k + 1)) (run P k) (.cons (.set 5 (.bin .mod (.blt .int (.cons (.bin .add (.bin .add (.bin .mul (.var 5) (.cst (.int 48271))) (.bin .mul (.var 4) (.cst (.int 69621)))) (.cst (.int 7))) .nil)) (.cst (.int 2147483647)))) (.cons (.ite (.cmp .lt (.blt .len (.cons (.var 2) .nil)) (.var 1)) (.cons (.expr (.lm .append (.var 2) (.cons (.bin .mod (.blt .int (.cons (.bin .mod (.blt .int (.cons (.bin .add (.bin .mul (.var 5) (.cst (.int 69621))) (.cst (.int 5))) .nil)) (.cst (.int 2147483629))) .nil)) (.cst (.int 1000))) .nil))) .nil) .nil) .nil))))
      (.vals (rngV 0 m)) m 0 [some (.int c), some (.int m), some (.ref h.n), some (.int rest), x4, some (.int ((c * 48271 + 11) % 2147483647))] h1 = .nx σ' h2 ∧ ∃ x4 x5, σ' = [some (.int c), some (.int m), some (.ref h.n), some (.int rest), x4, x5] ∧ ExtBut h.n (h.new (.lst [])) h2 ∧ h2.get h.n = some (.lst ((dr2 c m m).1.map .int)) := by
    intro rest x4 h1 hE hg
    obtain ⟨σ', h2, e, x4', hs, hE', hg'⟩ := loopF_rule (body := forB (.name 4) (xss P (run P (k + 1)) (run P k) (.cons (.set 5 (.bin .mod (.blt .int (.cons (.bin .add (.bin .add (.bin .mul (.var 5) (.cst (.int 48271))) (.bin .mul (.var 4) (.cst (.int 69621)))) (.cst (.int 7))) .nil)) (.cst (.int 2147483647)))) (.cons (.ite (.cmp .lt (.blt .len (.cons (.var 2) .nil)) (.var 1)) (.cons (.expr (.lm .append (.var 2) (.cons (.bin .mod (.blt .int (.cons (.bin .mod (.blt .int (.cons (.bin .add (.bin .mul (.var 5) (.cst (.int 69621))) (.cst (.int 5))) .nil)) (.cst (.int 2147483629))) .nil)) (.cst (.int 1000))) .nil))) .nil) .nil) .nil)))) (s := .vals (rngV 0 m)) (l := rngV 0 m)
      (fun i σ h1 => ∃ x4, σ = [some (.int c), some (.int m), some (.ref h.n), some (.int rest), x4, some (.int (dr2 c m i).2)] ∧ ExtBut h.n (h.new (.lst [])) h1 ∧ h1.get h.n = some (.lst ((dr2 c m i).1.map .int)))
      (fun i σ h1 _ => rfl) (fun i x σ h1 hx ⟨x4, hs, hE, hg⟩ => by
        obtain ⟨rfl, hi⟩ := rngV_get hx
        subst hs
        obtain ⟨_, hlen, _⟩ := dr2_ok c m i
        have hl : ((dr2 c m i).1.map PV.int).length < LINE := by rw [List.length_map]; omega
        by_cases hr : (dr2 c m i).1.length < m
        · refine ⟨_, _, .inl ?_, ⟨some (.int (0 + i)), rfl, hE.trans (ExtBut.set _ _ (.lst ((dr2 c m (i + 1)).1.map .int))), PH.get_set_same hg⟩⟩
          simp [lstAt_of hg, lm_app hg hl, blt_len (seqOf_lst hg), hr, dr2]
        · refine ⟨_, h1, .inl ?_, ⟨some (.int (0 + i)), rfl, hE, ?_⟩⟩
          · simp [blt_len (seqOf_lst hg), hr, dr2]
          · simpa [dr2, hr] using hg) m 0 _ h1 (by rw [rngV_length]; simp) ⟨x4, rfl, hE, hg⟩
    rw [rngV_length, show ((m : Int) - 0).toNat = m by omega] at hs hg'
    exact ⟨σ', h2, e, x4', _, hs, hE', hg'⟩
  rw [run_def hf rfl]
  by_cases hc : (10 : Int) ^ 18 ≤ c
  · have hc2 : (1000000000000000000 : Int) ≤ c := by omega
    obtain ⟨σ1, h1, e1, x4, hs1, hE1, hg1⟩ := l1
    rw [rngV_length, show ((m : Int) - 0).toNat = m by omega] at hs1 hg1
    subst hs1
    obtain ⟨σ2, h2, e2, x4', x5, hs2, hE2, hg2⟩ := l2 (dr1 c m).2 x4 h1 hE1 (by unfold dr0; rw [if_pos hc]; exact hg1)
    subst hs2
    refine ⟨h2, ?_, hE2.ext (Ext.new h _) (Nat.le_refl _), ?_, hg2⟩
    · simp only [dr1] at e1
      simp [b_draws, hc2, hin, rngV_length, e1, e2]
    · have := hE2.n
      rw [PH.new_n] at this
      omega
  · have hc2 : ¬ (1000000000000000000 : Int) ≤ c := by omega
    obtain ⟨σ2, h2, e2, x4', x5, hs2, hE2, hg2⟩ := l2 c none (h.new (.lst [])) (ExtBut.refl _ _) (by unfold dr0; rw [if_neg hc]; exact e0)
    subst hs2
    refine ⟨h2, ?_, hE2.ext (Ext.new h _) (Nat.le_refl _), ?_, hg2⟩
    · simp [b_draws, hc2, hin, rngV_length, e2]
    · have := hE2.n
      rw [PH.new_n] at this
      omega
end Fx

/-! What a law's comparison says. -/
namespace Fx
open PySem L2
def b_same (f : Nat) : Ss := (.cons (.ite (.cmp .is (.var 1) (.cst .non)) (.cons (.ret (.cmp .is (.var 0) (.cst .non))) .nil) .nil) (.cons (.ite (.cmp .is (.var 1) (.cst (.bl true))) (.cons (.ret (.cmp .is (.var 0) (.cst (.bl true)))) .nil) .nil) (.cons (.ite (.cmp .is (.var 1) (.cst (.bl false))) (.cons (.ret (.cmp .is (.var 0) (.cst (.bl false)))) .nil) .nil) (.cons (.ite (.isi (.var 1) .int) (.cons (.ret (.and (.isi (.var 0) .int) (.and (.not (.isi (.var 0) .bool)) (.cmp .eq (.var 0) (.var 1))))) .nil) .nil) (.cons (.ite (.isi (.var 1) .str) (.cons (.ret (.and (.isi (.var 0) .str) (.cmp .eq (.var 0) (.var 1)))) .nil) .nil) (.cons (.ite (.and (.isi (.var 1) .tuple) (.not (.isi (.var 0) .tuple))) (.cons (.ret (.cst (.bl false))) .nil) .nil) (.cons (.ite (.and (.isi (.var 1) .list) (.not (.isi (.var 0) .list))) (.cons (.ret (.cst (.bl false))) .nil) .nil) (.cons (.ite (.cmp .ne (.blt .len (.cons (.var 0) .nil)) (.blt .len (.cons (.var 1) .nil))) (.cons (.ret (.cst (.bl false))) .nil) .nil) (.cons (.forr (.name 2) (.rng1 (.blt .len (.cons (.var 1) .nil))) (.cons (.ite (.not (.call f (.cons (.idx (.var 0) (.var 2)) (.cons (.idx (.var 1) (.var 2)) .nil)) [])) (.cons (.ret (.cst (.bl false))) .nil) .nil) .nil)) (.cons (.ret (.cst (.bl true))) .nil))))))))))
inductive Sm (h : PH) : Nat → PV → PV → Prop
  | non (d : Nat) : Sm h d .non .non
  | bl (d : Nat) (b : Bool) : Sm h d (.bl b) (.bl b)
  | int (d : Nat) (i : Int) : Sm h d (.int i) (.int i)
  | str (d : Nat) (x : Str) : Sm h d (.str x) (.str x)
  | tup {d : Nat} {l r : List PV} : l.length = r.length → r.length < 1000000 → (∀ (i : Nat) (x y : PV), l[i]? = some x → r[i]? = some y → Sm h d x y) → Sm h (d + 1) (.tup l) (.tup r)
  | lst {d : Nat} {a b : Nat} {l r : List PV} : h.get a = some (.lst l) → h.get b = some (.lst r) → l.length = r.length → r.length < 1000000 → (∀ (i : Nat) (x y : PV), l[i]? = some x → r[i]? = some y → Sm h d x y) → Sm h (d + 1) (.ref a) (.ref b)
theorem Sm.up {h : PH} {d : Nat} {v w : PV} (s : Sm h d v w) : Sm h (d + 1) v w := by
  induction s with
  | non d => exact .non _
  | bl d b => exact .bl _ b
  | int d i => exact .int _ i
  | str d x => exact .str _ x
  | tup e1 e2 _ ih => exact .tup e1 e2 ih
  | lst a1 a2 e1 e2 _ ih => exact .lst a1 a2 e1 e2 ih
theorem same_loop {P : Pg} {f k : Nat} {h : PH} {v w : PV} {l r : List PV} (e1 : l.length = r.length) (e2 : r.length < 1000000) (gx : ∀ i, getIx h v (.int i) = atI l i) (gy : ∀ i, getIx h w (.int i) = atI r i)
    (ih : ∀ (i : Nat) (x y : PV), l[i]? = some x → r[i]? = some y → run P (k + 1) f [x, y] h = .ok (.bl true) h) : ∃ x2, loopF (forB (.name 2) (xss P (run P (k + 1)) (run P k) (.cons (.ite (.not (.call f (.cons (.idx (.var 0) (.var 2)) (.cons (.idx (.var 1) (.var 2)) .nil)) [])) (.cons (.ret (.cst (.bl false))) .nil) .nil) .nil)))
      (.vals (rngV 0 (r.length : Int))) r.length 0 [some v, some w, none] h = .nx [some v, some w, x2] h := by
  obtain ⟨σ', h', e, x2, hs, hh⟩ := loopF_rule (body := forB (.name 2) (xss P (run P (k + 1)) (run P k) (.cons (.ite (.not (.call f (.cons (.idx (.var 0) (.var 2)) (.cons (.idx (.var 1) (.var 2)) .nil)) [])) (.cons (.ret (.cst (.bl false))) .nil) .nil) .nil))) (s := .vals (rngV 0 (r.length : Int))) (l := rngV 0 (r.length : Int))
    (fun i σ h1 => ∃ x2, σ = [some v, some w, x2] ∧ h1 = h) (fun i σ h1 _ => rfl) (fun i x σ h1 hx ⟨x2, hs, hh⟩ => by
      obtain ⟨rfl, hi⟩ := rngV_get hx
      subst hs; subst hh
      have hi' : i < r.length := by omega
      have y1 : l[i]? = some (l[i]'(by omega)) := List.getElem?_eq_getElem _
      have y2 : r[i]? = some r[i] := List.getElem?_eq_getElem _
      refine ⟨_, h1, .inl ?_, ⟨some (.int (0 + i)), rfl, rfl⟩⟩
      simp [gx, gy, atI_nat y1, atI_nat y2, ih i _ _ y1 y2]) r.length 0 _ h (by rw [rngV_length]; simp) ⟨none, rfl, rfl⟩
  subst hs; subst hh
  exact ⟨x2, e⟩
theorem same_spec {P : Pg} {f : Nat} (hf : P.fn f = some ⟨2, 3, b_same f⟩) {h : PH} {d : Nat} {v w : PV} (s : Sm h d v w) : ∀ k, run P (k + d + 2) f [v, w] h = .ok (.bl true) h := by
  induction s with
  | non d => intro k; rw [run_def hf rfl]; simp [b_same]
  | bl d b => intro k; rw [run_def hf rfl]; cases b <;> simp [b_same]
  | int d i => intro k; rw [run_def hf rfl]; simp [b_same]
  | str d x => intro k; rw [run_def hf rfl]; simp [b_same]
  | @tup d l r e1 e2 _ ih =>
    intro k
    rw [show k + (d + 1) + 2 = (k + d + 1) + 2 by omega, run_def hf rfl]
    obtain ⟨x2, e⟩ := same_loop (P := P) (f := f) (k := k + d + 1) (h := h) (v := .tup l) (w := .tup r) e1 e2 (fun i => rfl) (fun i => rfl) fun i x y h1 h2 => ih i x y h1 h2 k
    have hin : inR (r.length : Int) = true := by simp [inR]; omega
    simp [b_same, e1, hin, e]
  | @lst d a b l r a1 a2 e1 e2 _ ih =>
    intro k
    rw [show k + (d + 1) + 2 = (k + d + 1) + 2 by omega, run_def hf rfl]
    obtain ⟨x2, e⟩ := same_loop (P := P) (f := f) (k := k + d + 1) (h := h) (v := .ref a) (w := .ref b) e1 e2 (fun i => ix_lst (seqOf_lst a1) i) (fun i => ix_lst (seqOf_lst a2) i) fun i x y h1 h2 => ih i x y h1 h2 k
    have hin : inR (r.length : Int) = true := by simp [inR]; omega
    simp [b_same, e1, hin, e, isT_lst a1, isT_lst a2, blt_len (seqOf_lst a1), blt_len (seqOf_lst a2)]
end Fx
namespace Fx
open PySem L2
/-- the values that hold nothing -/
def flatS : PV → Bool
  | .non => true
  | .bl _ => true
  | .int _ => true
  | .str _ => true
  | _ => false
theorem sm_flat {h : PH} {v : PV} (f : flatS v = true) (d : Nat) : Sm h d v v := by
  cases v with
  | non => exact .non d
  | bl b => exact .bl d b
  | int i => exact .int d i
  | str x => exact .str d x
  | _ => cases f
theorem sm_tup {h : PH} {l : List PV} (f : l.all flatS = true) (hl : l.length < 1000000) (d : Nat) : Sm h (d + 1) (.tup l) (.tup l) := .tup rfl hl fun i x y e1 e2 => by
  rw [e1] at e2
  cases e2
  exact sm_flat (List.all_eq_true.mp f x (List.mem_of_getElem? e1)) d
theorem same_flat {P : Pg} {f : Nat} (hf : P.fn f = some ⟨2, 3, b_same f⟩) {v : PV} (fv : flatS v = true) (k : Nat) (h : PH) : run P (k + 2) f [v, v] h = .ok (.bl true) h := same_spec hf (sm_flat fv 0) k
theorem same_tup {P : Pg} {f : Nat} (hf : P.fn f = some ⟨2, 3, b_same f⟩) {l : List PV} (fl : l.all flatS = true) (hl : l.length < 1000000) (k : Nat) (h : PH) : run P (k + 3) f [.tup l, .tup l] h = .ok (.bl true) h := same_spec hf (sm_tup fl hl 0) k
theorem cut_mem {l : List PV} {lo hi : Option Int} {x : PV} (h : x ∈ cutP l lo hi) : x ∈ l := List.mem_of_mem_drop (List.mem_of_mem_take h)
theorem cut_len (l : List PV) (lo hi : Option Int) : (cutP l lo hi).length ≤ l.length := by
  unfold cutP
  rw [List.length_take, List.length_drop]
  omega
theorem mem_ints {l : List Int} {x : PV} (h : x ∈ l.map PV.int) : ∃ i ∈ l, x = .int i := by
  obtain ⟨i, hi, rfl⟩ := List.mem_map.mp h
  exact ⟨i, hi, rfl⟩
end Fx

/-! What a run must do, as a wish behind it. -/
namespace Fx
open PySem L2
abbrev XP := Nat → List (Nat × PV) → PH → Prop
def Res.sat {α : Type} (r : Res α) (Q : α → PH → Prop) (E : XP) : Prop := match r with
  | .ok a h => Q a h
  | .exc c fs h => E c fs h
  | .no => False
structure SQ where
  N : Sl → PH → Prop
  R : PV → PH → Prop
  B : Sl → PH → Prop
  C : Sl → PH → Prop
  X : Nat → List (Nat × PV) → Sl → PH → Prop
def SR.sat (r : SR) (Q : SQ) : Prop := match r with
  | .nx σ h => Q.N σ h
  | .rt v h => Q.R v h
  | .bk σ h => Q.B σ h
  | .ct σ h => Q.C σ h
  | .ex c fs σ h => Q.X c fs σ h
  | .no => False
section
variable {α β : Type} {Q : β → PH → Prop} {E : XP} {T : SQ}
@[simp] theorem sat_ok (a : β) (h : PH) : (Res.ok a h).sat Q E = Q a h := (rfl)
@[simp] theorem sat_exc (c : Nat) (fs : List (Nat × PV)) (h : PH) : (Res.exc c fs h : Res β).sat Q E = E c fs h := (rfl)
@[simp] theorem sat_no : (Res.no : Res β).sat Q E = False := (rfl)
@[simp] theorem sat_nx (σ : Sl) (h : PH) : (SR.nx σ h).sat T = T.N σ h := (rfl)
@[simp] theorem sat_rt (v : PV) (h : PH) : (SR.rt v h).sat T = T.R v h := (rfl)
@[simp] theorem sat_bk (σ : Sl) (h : PH) : (SR.bk σ h).sat T = T.B σ h := (rfl)
@[simp] theorem sat_ct (σ : Sl) (h : PH) : (SR.ct σ h).sat T = T.C σ h := (rfl)
@[simp] theorem sat_ex (c : Nat) (fs : List (Nat × PV)) (σ : Sl) (h : PH) : (SR.ex c fs σ h).sat T = T.X c fs σ h := (rfl)
def kQ (f : α → PH → Res β) (Q : β → PH → Prop) (E : XP) (a : α) (h : PH) : Prop := (f a h).sat Q E
@[simp] theorem kQ_app (f : α → PH → Res β) (Q : β → PH → Prop) (E : XP) (a : α) (h : PH) : kQ f Q E a h = (f a h).sat Q E := (rfl)
def tQ (Q : Bool → PH → Prop) (E : XP) (v : PV) (h : PH) : Prop := (opt (truth h v) h).sat Q E
@[simp] theorem tQ_app (Q : Bool → PH → Prop) (E : XP) (v : PV) (h : PH) : tQ Q E v h = (opt (truth h v) h).sat Q E := (rfl)
def oQ (f : α → PH → SR) (T : SQ) (a : α) (h : PH) : Prop := (f a h).sat T
@[simp] theorem oQ_app (f : α → PH → SR) (T : SQ) (a : α) (h : PH) : oQ f T a h = (f a h).sat T := (rfl)
def oE (σ : Sl) (T : SQ) : XP := fun c fs h => T.X c fs σ h
@[simp] theorem oE_app (σ : Sl) (T : SQ) (c : Nat) (fs : List (Nat × PV)) (h : PH) : oE σ T c fs h = T.X c fs σ h := (rfl)
def sQ (f : Sl → PH → SR) (T : SQ) : SQ := ⟨fun σ h => (f σ h).sat T, T.R, T.B, T.C, T.X⟩
@[simp] theorem sQ_N (f : Sl → PH → SR) (T : SQ) (σ : Sl) (h : PH) : (sQ f T).N σ h = (f σ h).sat T := (rfl)
@[simp] theorem sQ_R (f : Sl → PH → SR) (T : SQ) : (sQ f T).R = T.R := (rfl)
@[simp] theorem sQ_B (f : Sl → PH → SR) (T : SQ) : (sQ f T).B = T.B := (rfl)
@[simp] theorem sQ_C (f : Sl → PH → SR) (T : SQ) : (sQ f T).C = T.C := (rfl)
@[simp] theorem sQ_X (f : Sl → PH → SR) (T : SQ) : (sQ f T).X = T.X := (rfl)
def fQ (Q : PV → PH → Prop) (E : XP) : SQ := ⟨fun _ h => Q .non h, Q, fun _ _ => False, fun _ _ => False, fun c fs _ h => E c fs h⟩
@[simp] theorem fQ_N (Q : PV → PH → Prop) (E : XP) (σ : Sl) (h : PH) : (fQ Q E).N σ h = Q .non h := (rfl)
@[simp] theorem fQ_R (Q : PV → PH → Prop) (E : XP) (v : PV) (h : PH) : (fQ Q E).R v h = Q v h := (rfl)
@[simp] theorem fQ_X (Q : PV → PH → Prop) (E : XP) (c : Nat) (fs : List (Nat × PV)) (σ : Sl) (h : PH) : (fQ Q E).X c fs σ h = E c fs h := (rfl)
def yQ (P : Pg) (nm : Option Nat) (hs : List (Nat × HS)) (T : SQ) : SQ := ⟨T.N, T.R, T.B, T.C, fun c fs σ h => (if nmOk nm σ then handle P c fs nm σ h hs else .no).sat T⟩
@[simp] theorem yQ_N (P : Pg) (nm : Option Nat) (hs : List (Nat × HS)) (T : SQ) : (yQ P nm hs T).N = T.N := (rfl)
@[simp] theorem yQ_R (P : Pg) (nm : Option Nat) (hs : List (Nat × HS)) (T : SQ) : (yQ P nm hs T).R = T.R := (rfl)
@[simp] theorem yQ_B (P : Pg) (nm : Option Nat) (hs : List (Nat × HS)) (T : SQ) : (yQ P nm hs T).B = T.B := (rfl)
@[simp] theorem yQ_C (P : Pg) (nm : Option Nat) (hs : List (Nat × HS)) (T : SQ) : (yQ P nm hs T).C = T.C := (rfl)
@[simp] theorem yQ_X (P : Pg) (nm : Option Nat) (hs : List (Nat × HS)) (T : SQ) (c : Nat) (fs : List (Nat × PV)) (σ : Sl) (h : PH) : (yQ P nm hs T).X c fs σ h = (if nmOk nm σ = true then handle P c fs nm σ h hs else .no).sat T := (rfl)
def nE : XP := fun _ _ _ => False
@[simp] theorem nE_app (c : Nat) (fs : List (Nat × PV)) (h : PH) : nE c fs h = False := (rfl)
theorem sat_bind {r : Res α} {f : α → PH → Res β} (h : r.sat (kQ f Q E) E) : (r.bind f).sat Q E := by cases r <;> exact h
theorem sat_tru {r : Res PV} {Q : Bool → PH → Prop} (h : r.sat (tQ Q E) E) : (tru r).sat Q E := by cases r <;> exact h
theorem sat_quiet {r : Res β} (h : r.sat Q nE) : (r.quiet).sat Q E := by cases r <;> first | exact h | exact False.elim h
theorem sat_ofRes {r : Res α} {f : α → PH → SR} {σ : Sl} (h : r.sat (oQ f T) (oE σ T)) : (ofRes σ r f).sat T := by cases r <;> exact h
theorem sat_seq {r : SR} {f : Sl → PH → SR} (h : r.sat (sQ f T)) : (r.seq f).sat T := by cases r <;> exact h
theorem sat_fin {r : SR} {Q : PV → PH → Prop} (h : r.sat (fQ Q E)) : (fin r).sat Q E := by cases r <;> first | exact h | exact False.elim h
theorem sat_try {P : Pg} {nm : Option Nat} {hs : List (Nat × HS)} {r : SR} (h : r.sat (yQ P nm hs T)) : (tryK P nm hs r).sat T := by cases r <;> exact h
@[simp] theorem sat_bindE (r : Res α) (f : α → PH → Res β) : (r.bind f).sat Q E = r.sat (kQ f Q E) E := by cases r <;> rfl
@[simp] theorem sat_truE (r : Res PV) (Q : Bool → PH → Prop) : (tru r).sat Q E = r.sat (tQ Q E) E := by cases r <;> rfl
@[simp] theorem sat_quietE (r : Res β) : (r.quiet).sat Q E = r.sat Q nE := by cases r <;> rfl
@[simp] theorem sat_ofResE (r : Res α) (f : α → PH → SR) (σ : Sl) : (ofRes σ r f).sat T = r.sat (oQ f T) (oE σ T) := by cases r <;> rfl
@[simp] theorem sat_seqE (r : SR) (f : Sl → PH → SR) : (r.seq f).sat T = r.sat (sQ f T) := by cases r <;> rfl
@[simp] theorem sat_finE (r : SR) (Q : PV → PH → Prop) : (fin r).sat Q E = r.sat (fQ Q E) := by cases r <;> rfl
@[simp] theorem sat_tryE (P : Pg) (nm : Option Nat) (hs : List (Nat × HS)) (r : SR) : (tryK P nm hs r).sat T = r.sat (yQ P nm hs T) := by cases r <;> rfl
theorem Res.sat.mono {r : Res β} {Q' : β → PH → Prop} (h : r.sat Q E) (k : ∀ a h', Q a h' → Q' a h') : r.sat Q' E := by cases r <;> first | exact k _ _ h | exact h
theorem sat_of {r : Res β} {a : β} {h : PH} (e : r = .ok a h) (q : Q a h) : r.sat Q E := by rw [e]; exact q
theorem sat_ofS {r : SR} {r' : SR} (e : r = r') (q : r'.sat T) : r.sat T := by rw [e]; exact q
theorem Res.sat.get {r : Res β} (h : r.sat Q nE) : ∃ a h', r = .ok a h' ∧ Q a h' := by
  cases r with
  | ok a h' => exact ⟨a, h', rfl, h⟩
  | _ => exact False.elim h
end
theorem sat_run {P : Pg} {k f : Nat} {fd : FD} {args : List PV} {h : PH} {Q : PV → PH → Prop} {E : XP} (e : P.fn f = some fd) (hl : args.length = fd.np)
    (q : (xss P (run P (k + 1)) (run P k) fd.body (args.map some ++ List.replicate (fd.ns - fd.np) none) h).sat (fQ Q E)) : (run P (k + 2) f args h).sat Q E := by
  rw [run_def e hl]
  exact sat_fin q
/-- C(..) -/
def mQ (n : Nat) (Q : PV → PH → Prop) (v : PV) (h : PH) : Prop := match v with
  | .non => Q (.ref n) h
  | _ => False
@[simp] theorem mQ_app (n : Nat) (Q : PV → PH → Prop) (h : PH) : mQ n Q .non h = Q (.ref n) h := (rfl)
theorem sat_mk {P : Pg} {rm : Rn} {c f : Nat} {vs : List PV} {h : PH} {Q : PV → PH → Prop} {E : XP} (e : P.ini c = some f) (q : (rm f (.ref h.n :: vs) (h.new (.ins c []))).sat (mQ h.n Q) E) : (mkObj P rm c vs h).sat Q E := by
  unfold mkObj
  rw [e]
  show Res.sat ((rm f (.ref h.n :: vs) (h.new (.ins c []))).bind _) Q E
  generalize rm f (.ref h.n :: vs) (h.new (.ins c [])) = r at q ⊢
  cases r with
  | ok v h' =>
    cases v with
    | non => exact q
    | _ => exact False.elim q
  | _ => exact q
/-! ### loops -/
def lQ (I : Nat → Sl → PH → Prop) (i : Nat) (T : SQ) : SQ := ⟨I (i + 1), T.R, T.N, I (i + 1), T.X⟩
@[simp] theorem lQ_N (I : Nat → Sl → PH → Prop) (i : Nat) (T : SQ) (σ : Sl) (h : PH) : (lQ I i T).N σ h = I (i + 1) σ h := (rfl)
@[simp] theorem lQ_C (I : Nat → Sl → PH → Prop) (i : Nat) (T : SQ) (σ : Sl) (h : PH) : (lQ I i T).C σ h = I (i + 1) σ h := (rfl)
@[simp] theorem lQ_B (I : Nat → Sl → PH → Prop) (i : Nat) (T : SQ) : (lQ I i T).B = T.N := (rfl)
@[simp] theorem lQ_R (I : Nat → Sl → PH → Prop) (i : Nat) (T : SQ) : (lQ I i T).R = T.R := (rfl)
@[simp] theorem lQ_X (I : Nat → Sl → PH → Prop) (i : Nat) (T : SQ) : (lQ I i T).X = T.X := (rfl)
theorem sat_loop {body : PV → Sl → PH → SR} {s : Src} {l : List PV} {T : SQ} (I : Nat → Sl → PH → Prop) (hn : ∀ i σ h, I i σ h → nxt s i h = some l[i]?)
    (step : ∀ i x σ h, l[i]? = some x → I i σ h → (body x σ h).sat (lQ I i T)) (done : ∀ σ h, I l.length σ h → T.N σ h) :
    ∀ (n i : Nat) (σ : Sl) (h : PH), n + i = l.length → I i σ h → (loopF body s n i σ h).sat T
  | 0, i, σ, h, e, q => by
    have e1 := hn i σ h q
    have e2 : l[i]? = none := List.getElem?_eq_none_iff.mpr (by omega)
    rw [e2] at e1
    have : i = l.length := by omega
    subst this
    unfold loopF
    rw [e1]
    exact done σ h q
  | n + 1, i, σ, h, e, q => by
    have e1 := hn i σ h q
    have hi : i < l.length := by omega
    rw [List.getElem?_eq_getElem hi] at e1
    have b := step i _ σ h (List.getElem?_eq_getElem hi) q
    unfold loopF
    rw [e1]
    simp only
    cases hb : body l[i] σ h with
    | nx σ1 h1 => rw [hb] at b; exact sat_loop I hn step done n (i + 1) σ1 h1 (by omega) b
    | ct σ1 h1 => rw [hb] at b; exact sat_loop I hn step done n (i + 1) σ1 h1 (by omega) b
    | bk σ1 h1 => rw [hb] at b; exact b
    | rt v h1 => rw [hb] at b; exact b
    | ex c fs σ1 h1 => rw [hb] at b; exact b
    | no => rw [hb] at b; exact False.elim b
/-- .. over values -/
theorem sat_vals {body : PV → Sl → PH → SR} {l : List PV} {T : SQ} {σ : Sl} {h : PH} {n : Nat} (I : Nat → Sl → PH → Prop)
    (q : I 0 σ h) (step : ∀ i x σ h, l[i]? = some x → I i σ h → (body x σ h).sat (lQ I i T)) (done : ∀ σ h, I l.length σ h → T.N σ h) (e : n = l.length) : (loopF body (.vals l) n 0 σ h).sat T :=
  sat_loop I (fun _ _ _ _ => rfl) step done n 0 σ h (by omega) q
/-- .. over a list that stays -/
theorem sat_live {body : PV → Sl → PH → SR} {a : Nat} {l : List PV} {T : SQ} {σ : Sl} {h : PH} {n : Nat} (I : Nat → Sl → PH → Prop)
    (q : I 0 σ h) (hs : ∀ i σ h, I i σ h → seqOf h (.ref a) = some l) (step : ∀ i x σ h, l[i]? = some x → I i σ h → (body x σ h).sat (lQ I i T)) (done : ∀ σ h, I l.length σ h → T.N σ h) (e : n = l.length) : (loopF body (.live a) n 0 σ h).sat T :=
  sat_loop I (fun i σ h q => by show (seqOf h (.ref a)).map _ = _; rw [hs i σ h q]; rfl) step done n 0 σ h (by omega) q
theorem sat_lenum {body : PV → Sl → PH → SR} {a : Nat} {l : List PV} {T : SQ} {σ : Sl} {h : PH} {n : Nat} (I : Nat → Sl → PH → Prop)
    (q : I 0 σ h) (hs : ∀ i σ h, I i σ h → seqOf h (.ref a) = some l) (step : ∀ (i : Nat) x σ h, l[i]? = some x → I i σ h → (body (.tup [.int (i : Int), x]) σ h).sat (lQ I i T)) (done : ∀ σ h, I l.length σ h → T.N σ h) (e : n = l.length) : (loopF body (.lenum a) n 0 σ h).sat T := by
  refine sat_loop (l := l.zipIdx.map fun p => .tup [.int (p.2 : Int), p.1]) I (fun i σ h q => ?_) (fun i x σ h hx q => ?_) (fun σ h q => done σ h (by simpa using q)) n 0 σ h (by simp [e]) q
  · show (seqOf h (.ref a)).map _ = _
    rw [hs i σ h q]
    simp [List.getElem?_map, List.getElem?_zipIdx]
    cases l[i]? <;> simp
  · simp [List.getElem?_map, List.getElem?_zipIdx] at hx
    obtain ⟨y, hy, rfl⟩ := hx
    exact step i y σ h hy q
theorem sat_while {test : Sl → PH → SR} {T : SQ} (I : Nat → Sl → PH → Prop) (step : ∀ m σ h, I m σ h → (test σ h).sat ⟨fun σ h => ∃ m', m' < m ∧ I m' σ h, T.R, T.N, fun σ h => ∃ m', m' < m ∧ I m' σ h, T.X⟩) :
    ∀ (n m : Nat) (σ : Sl) (h : PH), m < n → I m σ h → (loopW test n σ h).sat T
  | 0, m, σ, h, l, q => by omega
  | n + 1, m, σ, h, l, q => by
    have b := step m σ h q
    unfold loopW
    cases hb : test σ h with
    | nx σ1 h1 => rw [hb] at b; obtain ⟨m', hl, b⟩ := b; exact sat_while I step n m' σ1 h1 (by omega) b
    | ct σ1 h1 => rw [hb] at b; obtain ⟨m', hl, b⟩ := b; exact sat_while I step n m' σ1 h1 (by omega) b
    | bk σ1 h1 => rw [hb] at b; exact b
    | rt v h1 => rw [hb] at b; exact b
    | ex c fs σ1 h1 => rw [hb] at b; exact b
    | no => rw [hb] at b; exact False.elim b
/-- a comprehension -/
def cQ (I : Nat → List PV → PH → Prop) (i : Nat) (acc : List PV) (r : Option PV) (h : PH) : Prop := match r with
  | none => I (i + 1) acc h
  | some v => I (i + 1) (acc ++ [v]) h
@[simp] theorem cQ_none (I : Nat → List PV → PH → Prop) (i : Nat) (acc : List PV) (h : PH) : cQ I i acc none h = I (i + 1) acc h := (rfl)
@[simp] theorem cQ_some (I : Nat → List PV → PH → Prop) (i : Nat) (acc : List PV) (v : PV) (h : PH) : cQ I i acc (some v) h = I (i + 1) (acc ++ [v]) h := (rfl)
theorem sat_comp {body : PV → PH → Res (Option PV)} {s : Src} {l : List PV} {Q : List PV → PH → Prop} {E : XP} (I : Nat → List PV → PH → Prop) (hn : ∀ i acc h, I i acc h → nxt s i h = some l[i]?) (hl : ∀ i acc h, I i acc h → acc.length ≤ i)
    (step : ∀ i x acc h, l[i]? = some x → I i acc h → (body x h).sat (cQ I i acc) E) (done : ∀ acc h, I l.length acc h → Q acc h) (hL : l.length ≤ LINE) :
    ∀ (n i : Nat) (acc : List PV) (h : PH), n + i = l.length → I i acc h → (loopC body s n i acc h).sat Q E
  | 0, i, acc, h, e, q => by
    have e1 := hn i acc h q
    have e2 : l[i]? = none := List.getElem?_eq_none_iff.mpr (by omega)
    rw [e2] at e1
    have : i = l.length := by omega
    subst this
    unfold loopC
    rw [e1]
    exact done acc h q
  | n + 1, i, acc, h, e, q => by
    have e1 := hn i acc h q
    have hi : i < l.length := by omega
    rw [List.getElem?_eq_getElem hi] at e1
    have b := step i _ acc h (List.getElem?_eq_getElem hi) q
    have hla := hl i acc h q
    unfold loopC
    rw [e1]
    simp only
    refine sat_bind (b.mono fun r h1 q1 => ?_)
    cases r with
    | none => exact sat_comp I hn hl step done hL n (i + 1) acc h1 (by omega) q1
    | some v =>
      have : acc.length < LINE := by omega
      show Res.sat (if acc.length < LINE then _ else _) Q E
      rw [if_pos this]
      exact sat_comp I hn hl step done hL n (i + 1) (acc ++ [v]) h1 (by omega) q1
theorem sat_all {body : PV → PH → Res PV} {l : List PV} {Q : Bool → PH → Prop} {E : XP} {p : PV → Bool} {h : PH} (hb : ∀ x ∈ l, body x h = .ok (.bl (p x)) h) (q : Q (l.all p) h) : (loopA body (.vals l) l.length 0 h).sat Q E := by
  rw [loopA_pure hb l.length 0 (by omega)]
  exact q

/-! ### what stands at a number -/
section
variable (P : Pg) (h : PH) (a f m c : Nat) (v w : PV) (l r : List PV) (fs : List (Nat × PV)) (kvs : List (Key × PV)) (t : Ty) (lo hi : Option Int) (i : Int)
def seqO : Option PO → Option (List PV)
  | some (.lst l) => some l
  | some (.rol l) => some l
  | _ => none
@[simp] theorem seqO_l : seqO (some (.lst l)) = some l := (rfl)
@[simp] theorem seqO_r : seqO (some (.rol l)) = some l := (rfl)
@[simp] theorem seqO_d : seqO (some (.dic kvs)) = none := (rfl)
@[simp] theorem seqOf_ref : seqOf h (.ref a) = seqO (h.get a) := by unfold seqOf seqO; rfl
def lstO : Option PO → Option Unit
  | some (.lst _) => some ()
  | some (.rol _) => some ()
  | _ => none
@[simp] theorem lstO_l : lstO (some (.lst l)) = some () := (rfl)
@[simp] theorem lstO_r : lstO (some (.rol l)) = some () := (rfl)
@[simp] theorem lstAt_ref : lstAt h (.ref a) = lstO (h.get a) := by unfold lstAt lstO; rfl
def srcO (a : Nat) : Option PO → Option Src
  | some (.lst _) => some (.live a)
  | some (.rol _) => some (.live a)
  | _ => none
@[simp] theorem srcO_l : srcO a (some (.lst l)) = some (.live a) := (rfl)
@[simp] theorem srcO_r : srcO a (some (.rol l)) = some (.live a) := (rfl)
@[simp] theorem srcOf_ref : srcOf h (.ref a) = srcO a (h.get a) := by unfold srcOf srcO; rfl
def enumO (a : Nat) : Option PO → Option Src
  | some (.lst _) => some (.lenum a)
  | some (.rol _) => some (.lenum a)
  | _ => none
@[simp] theorem enumO_l : enumO a (some (.lst l)) = some (.lenum a) := (rfl)
@[simp] theorem enumO_r : enumO a (some (.rol l)) = some (.lenum a) := (rfl)
@[simp] theorem enumOf_ref : enumOf h (.ref a) = enumO a (h.get a) := by unfold enumOf enumO; rfl
def fuelO : Option PO → Nat
  | some (.lst l) => l.length
  | some (.rol l) => l.length
  | _ => 0
@[simp] theorem fuelO_l : fuelO (some (.lst l)) = l.length := (rfl)
@[simp] theorem fuelO_r : fuelO (some (.rol l)) = l.length := (rfl)
@[simp] theorem fuel_liveO : fuelOf (.live a) h = fuelO (h.get a) := by unfold fuelOf seqOf fuelO; simp only; split <;> simp_all
@[simp] theorem fuel_lenumO : fuelOf (.lenum a) h = fuelO (h.get a) := by unfold fuelOf seqOf fuelO; simp only; split <;> simp_all
def isTO (t : Ty) : Option PO → Option Bool
  | some (.lst _) => some (match t with | .list => true | _ => false)
  | some (.dic _) => some false
  | _ => none
@[simp] theorem isTO_l : isTO t (some (.lst l)) = some (match t with | .list => true | _ => false) := (rfl)
@[simp] theorem isTO_d : isTO t (some (.dic kvs)) = some false := (rfl)
@[simp] theorem isT_ref : isT h t (.ref a) = isTO t (h.get a) := by unfold isT isTO; rfl
def fldO (f : Nat) : Option PO → Option PV
  | some (.ins _ fs) => fs.lookup f
  | _ => none
@[simp] theorem fldO_i : fldO f (some (.ins c fs)) = fs.lookup f := (rfl)
@[simp] theorem getFld_ref : getFld (.ref a) f h = fldO f (h.get a) := by unfold getFld fldO; rfl
def mtO (P : Pg) (m : Nat) : Option PO → Option Nat
  | some (.ins c _) => P.mt c m
  | _ => none
@[simp] theorem mtO_i : mtO P m (some (.ins c fs)) = P.mt c m := (rfl)
@[simp] theorem mfind_ref : mfind P (.ref a) m h = mtO P m (h.get a) := by unfold mfind mtO; rfl
def sfO (P : Pg) (a f : Nat) (v : PV) (h : PH) : Option PO → Option PH
  | some (.ins c fs) => if fs.length < 900 ∧ P.fl c f = true then some (h.set a (.ins c (putFP f v fs))) else none
  | _ => none
@[simp] theorem sfO_i : sfO P a f v h (some (.ins c fs)) = if fs.length < 900 ∧ P.fl c f = true then some (h.set a (.ins c (putFP f v fs))) else none := (rfl)
@[simp] theorem setFld_ref : setFld P (.ref a) f v h = sfO P a f v h (h.get a) := by unfold setFld sfO; rfl
def truO : Option PO → Option Bool
  | some (.lst l) => some (!l.isEmpty)
  | some (.rol l) => some (!l.isEmpty)
  | some (.dic l) => some (!l.isEmpty)
  | _ => none
@[simp] theorem truO_l : truO (some (.lst l)) = some (!l.isEmpty) := (rfl)
@[simp] theorem truO_r : truO (some (.rol l)) = some (!l.isEmpty) := (rfl)
@[simp] theorem truO_d : truO (some (.dic kvs)) = some (!kvs.isEmpty) := (rfl)
@[simp] theorem truth_ref : truth h (.ref a) = truO (h.get a) := by unfold truth truO; rfl
def sliO (lo hi : Option Int) (h : PH) : Option PO → Res PV
  | some (.lst l) => alloc (.lst (cutP l lo hi)) h
  | some (.rol l) => alloc (.lst (cutP l lo hi)) h
  | _ => .no
@[simp] theorem sliO_l : sliO lo hi h (some (.lst l)) = alloc (.lst (cutP l lo hi)) h := (rfl)
@[simp] theorem sliO_r : sliO lo hi h (some (.rol l)) = alloc (.lst (cutP l lo hi)) h := (rfl)
@[simp] theorem slice_ref : slice (.ref a) lo hi h = sliO lo hi h (h.get a) := by unfold slice sliO; rfl
def lenO (h : PH) : Option (List PV) → Res PV
  | some l => .ok (.int l.length) h
  | none => .no
@[simp] theorem lenO_s : lenO h (some l) = .ok (.int l.length) h := (rfl)
@[simp] theorem blt_lenO : blt .len [.ref a] h = lenO h (seqO (h.get a)) := by rw [← seqOf_ref]; unfold blt lenO; simp only <;> cases seqOf h (.ref a) <;> rfl
def tupO (h : PH) : Option (List PV) → Res PV
  | some l => .ok (.tup l) h
  | none => .no
@[simp] theorem tupO_s : tupO h (some l) = .ok (.tup l) h := (rfl)
@[simp] theorem blt_tupO : blt .tuple [.ref a] h = tupO h (seqO (h.get a)) := by rw [← seqOf_ref]; unfold blt tupO; simp only <;> cases seqOf h (.ref a) <;> rfl
def lisO (h : PH) : Option (List PV) → Res PV
  | some l => alloc (.lst l) h
  | none => .no
@[simp] theorem lisO_s : lisO h (some l) = alloc (.lst l) h := (rfl)
@[simp] theorem blt_lisO : blt .list [.ref a] h = lisO h (seqO (h.get a)) := by rw [← seqOf_ref]; unfold blt lisO; simp only <;> cases seqOf h (.ref a) <;> rfl
def ixO (i : Int) : Option PO → Option PV
  | some (.lst l) => atI l i
  | some (.rol l) => atI l i
  | some (.dic kvs) => findK kvs (.inl i)
  | _ => none
@[simp] theorem ixO_l : ixO i (some (.lst l)) = atI l i := (rfl)
@[simp] theorem ixO_r : ixO i (some (.rol l)) = atI l i := (rfl)
@[simp] theorem ixO_d : ixO i (some (.dic kvs)) = findK kvs (.inl i) := (rfl)
@[simp] theorem getIx_ref : getIx h (.ref a) (.int i) = ixO i (h.get a) := by
  unfold getIx seqOf ixO
  simp only
  cases h.get a with
  | none => rfl
  | some o => cases o <;> rfl
def appO (a : Nat) (v : PV) (h : PH) : Option PO → Res PV
  | some (.lst l) => if l.length < LINE then .ok .non (h.set a (.lst (l ++ [v]))) else .no
  | _ => .no
@[simp] theorem appO_l : appO a v h (some (.lst l)) = if l.length < LINE then .ok .non (h.set a (.lst (l ++ [v]))) else .no := (rfl)
@[simp] theorem lmeth_app : lmeth .append (.ref a) [v] h = appO a v h (h.get a) := by unfold lmeth appO; rfl
end
theorem sat_al {o : PO} {h : PH} {Q : PV → PH → Prop} {E : XP} (q : ∀ a h', Ext h h' → h'.get a = some o → h.n ≤ a → Q (.ref a) h') : (alloc o h).sat Q E := q h.n _ (Ext.new h _) PH.get_new_same (Nat.le_refl _)
@[simp] theorem blt_lstT2 (l : List PV) (h : PH) : blt .list [.tup l] h = alloc (.lst l) h := (rfl)
def addO (h : PH) : Option PO → Option PO → Res PV
  | some (.lst xs), some (.lst ys) => if xs.length + ys.length ≤ LINE then alloc (.lst (xs ++ ys)) h else .no
  | _, _ => .no
@[simp] theorem addO_l (h : PH) (xs ys : List PV) : addO h (some (.lst xs)) (some (.lst ys)) = if xs.length + ys.length ≤ LINE then alloc (.lst (xs ++ ys)) h else .no := (rfl)
@[simp] theorem bop_addO (a b : Nat) (h : PH) : bop .add (.ref a) (.ref b) h = addO h (h.get a) (h.get b) := by unfold bop addO; rfl
theorem ExtBut.get {a : Nat} {h h' : PH} (x : ExtBut a h h') {b : Nat} {o : PO} (ne : b ≠ a) (e : h.get b = some o) : h'.get b = some o := (x.same b ne (PH.get_lt e)).trans e
theorem bop_addLs {a b : Nat} {h : PH} {l r : List PV} {Q : PV → PH → Prop} {E : XP} (e1 : h.get a = some (.lst l)) (e2 : h.get b = some (.lst r)) (hl : l.length + r.length ≤ LINE) (q : ∀ h', Ext h h' → h'.get h.n = some (.lst (l ++ r)) → Q (.ref h.n) h') : (bop .add (.ref a) (.ref b) h).sat Q E := by
  rw [bop_addL e1 e2 hl]
  exact q _ (Ext.new h _) PH.get_new_same
theorem sat_alloc {o : PO} {h : PH} {Q : PV → PH → Prop} (q : ∀ h', Ext h h' → h'.get h.n = some o → Q (.ref h.n) h') : Q (.ref h.n) (h.new o) := q _ (Ext.new h _) PH.get_new_same

/-! ### displays of numbers -/
def litI (l : List Int) : Es := l.foldr (fun i r => .cons (.cst (.int i)) r) .nil
def litL (L : List (List Int)) : Es := L.foldr (fun l r => .cons (.lst (litI l)) r) .nil
section
variable {P : Pg} {rc rm : Rn} {σ : Sl}
theorem evs_litI (h : PH) : ∀ l : List Int, evs P rc rm (litI l) σ h = .ok (l.map .int) h
  | [] => by simp [litI]
  | i :: l => by
    show evs P rc rm (.cons (.cst (.int i)) (litI l)) σ h = _
    simp [evs_litI h l]
theorem evs_litL : ∀ (L : List (List Int)) (h : PH), (∀ l ∈ L, l.length ≤ LINE) → ∃ rs h', evs P rc rm (litL L) σ h = .ok rs h' ∧ Ext h h' ∧ rs.length = L.length ∧ ∀ (i : Nat) x, rs[i]? = some x → ∃ a l, L[i]? = some l ∧ x = .ref a ∧ h'.get a = some (.lst (l.map .int))
  | [], h, _ => ⟨[], h, by simp [litL], Ext.refl h, rfl, fun i x e => by cases e⟩
  | l :: L, h, hl => by
    obtain ⟨rs, h', e, x, n, k⟩ := evs_litL L (h.new (.lst (l.map .int))) fun l hm => hl l (List.mem_cons_of_mem _ hm)
    refine ⟨.ref h.n :: rs, h', ?_, (Ext.new h _).trans x, by simp [n], fun i y ey => ?_⟩
    · show evs P rc rm (.cons (.lst (litI l)) (litL L)) σ h = _
      have := hl l List.mem_cons_self
      rw [LINE_val] at this
      simp [evs_litI, this, e]
    · cases i with
      | zero => cases ey; exact ⟨h.n, l, rfl, rfl, x.get PH.get_new_same⟩
      | succ i => exact k i y (by simpa using ey)
end
theorem atI_lt {α : Type} {l : List α} {i : Int} (h0 : 0 ≤ i) (h1 : i < l.length) : ∃ x, atI l i = some x ∧ l[i.toNat]? = some x := by
  have hl : i.toNat < l.length := by omega
  refine ⟨l[i.toNat], ?_, List.getElem?_eq_getElem hl⟩
  unfold atI ixN
  rw [if_pos h0, if_pos h1]
  simp
@[simp] theorem atI_c0 {α : Type} (a0 : α) (l : List α) : atI (a0 :: l) (0 : Int) = some a0 := by simpa using atI_nat (l := a0 :: l) (n := 0) rfl
@[simp] theorem atI_c1 {α : Type} (a0 a1 : α) (l : List α) : atI (a0 :: a1 :: l) (1 : Int) = some a1 := by simpa using atI_nat (l := a0 :: a1 :: l) (n := 1) rfl
@[simp] theorem atI_c2 {α : Type} (a0 a1 a2 : α) (l : List α) : atI (a0 :: a1 :: a2 :: l) (2 : Int) = some a2 := by simpa using atI_nat (l := a0 :: a1 :: a2 :: l) (n := 2) rfl
@[simp] theorem atI_c3 {α : Type} (a0 a1 a2 a3 : α) (l : List α) : atI (a0 :: a1 :: a2 :: a3 :: l) (3 : Int) = some a3 := by simpa using atI_nat (l := a0 :: a1 :: a2 :: a3 :: l) (n := 3) rfl
@[simp] theorem atI_c4 {α : Type} (a0 a1 a2 a3 a4 : α) (l : List α) : atI (a0 :: a1 :: a2 :: a3 :: a4 :: l) (4 : Int) = some a4 := by simpa using atI_nat (l := a0 :: a1 :: a2 :: a3 :: a4 :: l) (n := 4) rfl
@[simp] theorem atI_c5 {α : Type} (a0 a1 a2 a3 a4 a5 : α) (l : List α) : atI (a0 :: a1 :: a2 :: a3 :: a4 :: a5 :: l) (5 : Int) = some a5 := by simpa using atI_nat (l := a0 :: a1 :: a2 :: a3 :: a4 :: a5 :: l) (n := 5) rfl
@[simp] theorem atI_c6 {α : Type} (a0 a1 a2 a3 a4 a5 a6 : α) (l : List α) : atI (a0 :: a1 :: a2 :: a3 :: a4 :: a5 :: a6 :: l) (6 : Int) = some a6 := by simpa using atI_nat (l := a0 :: a1 :: a2 :: a3 :: a4 :: a5 :: a6 :: l) (n := 6) rfl
@[simp] theorem atI_c7 {α : Type} (a0 a1 a2 a3 a4 a5 a6 a7 : α) (l : List α) : atI (a0 :: a1 :: a2 :: a3 :: a4 :: a5 :: a6 :: a7 :: l) (7 : Int) = some a7 := by simpa using atI_nat (l := a0 :: a1 :: a2 :: a3 :: a4 :: a5 :: a6 :: a7 :: l) (n := 7) rfl
@[simp] theorem atI_c8 {α : Type} (a0 a1 a2 a3 a4 a5 a6 a7 a8 : α) (l : List α) : atI (a0 :: a1 :: a2 :: a3 :: a4 :: a5 :: a6 :: a7 :: a8 :: l) (8 : Int) = some a8 := by simpa using atI_nat (l := a0 :: a1 :: a2 :: a3 :: a4 :: a5 :: a6 :: a7 :: a8 :: l) (n := 8) rfl
@[simp] theorem atI_c9 {α : Type} (a0 a1 a2 a3 a4 a5 a6 a7 a8 a9 : α) (l : List α) : atI (a0 :: a1 :: a2 :: a3 :: a4 :: a5 :: a6 :: a7 :: a8 :: a9 :: l) (9 : Int) = some a9 := by simpa using atI_nat (l := a0 :: a1 :: a2 :: a3 :: a4 :: a5 :: a6 :: a7 :: a8 :: a9 :: l) (n := 9) rfl
@[simp] theorem atI_c10 {α : Type} (a0 a1 a2 a3 a4 a5 a6 a7 a8 a9 a10 : α) (l : List α) : atI (a0 :: a1 :: a2 :: a3 :: a4 :: a5 :: a6 :: a7 :: a8 :: a9 :: a10 :: l) (10 : Int) = some a10 := by simpa using atI_nat (l := a0 :: a1 :: a2 :: a3 :: a4 :: a5 :: a6 :: a7 :: a8 :: a9 :: a10 :: l) (n := 10) rfl
@[simp] theorem atI_c11 {α : Type} (a0 a1 a2 a3 a4 a5 a6 a7 a8 a9 a10 a11 : α) (l : List α) : atI (a0 :: a1 :: a2 :: a3 :: a4 :: a5 :: a6 :: a7 :: a8 :: a9 :: a10 :: a11 :: l) (11 : Int) = some a11 := by simpa using atI_nat (l := a0 :: a1 :: a2 :: a3 :: a4 :: a5 :: a6 :: a7 :: a8 :: a9 :: a10 :: a11 :: l) (n := 11) rfl
@[simp] theorem atI_c12 {α : Type} (a0 a1 a2 a3 a4 a5 a6 a7 a8 a9 a10 a11 a12 : α) (l : List α) : atI (a0 :: a1 :: a2 :: a3 :: a4 :: a5 :: a6 :: a7 :: a8 :: a9 :: a10 :: a11 :: a12 :: l) (12 : Int) = some a12 := by simpa using atI_nat (l := a0 :: a1 :: a2 :: a3 :: a4 :: a5 :: a6 :: a7 :: a8 :: a9 :: a10 :: a11 :: a12 :: l) (n := 12) rfl
theorem atI_ints {l : List Int} {i : Int} (h0 : 0 ≤ i) (h1 : i < l.length) : ∃ x, x ∈ l ∧ atI (l.map PV.int) i = some (.int x) := by
  obtain ⟨x, e, e2⟩ := atI_lt (l := l.map PV.int) h0 (by simpa using h1)
  obtain ⟨y, hy, rfl⟩ := mem_ints (List.mem_of_getElem? e2)
  exact ⟨y, hy, e⟩
theorem cut_nat (l : List PV) {a b : Nat} (h1 : a ≤ b) (h2 : b ≤ l.length) : cutP l (some (a : Int)) (some (b : Int)) = (l.drop a).take (b - a) := by
  unfold cutP
  rw [HT.sIx_nat, HT.sIx_nat, Nat.min_eq_left h2, Nat.min_eq_left (Nat.le_trans h1 h2)]
theorem cut_to (l : List PV) {b : Nat} (h2 : b ≤ l.length) : cutP l none (some (b : Int)) = l.take b := by
  unfold cutP
  rw [HT.sIx_nat, HT.sIx_none, Nat.min_eq_left h2]
  simp
theorem cut_from (l : List PV) {a : Nat} (h2 : a ≤ l.length) : cutP l (some (a : Int)) none = l.drop a := by
  unfold cutP
  rw [HT.sIx_nat, HT.sIx_none, Nat.min_eq_left h2]
  rw [List.take_of_length_le (by rw [List.length_drop]; omega)]
end Fx

namespace Lw
open PySem PySem.Spec PyProof.Rows L2 Fx PySem.W PySem.Calls
abbrev R : PySem.W.OpenRow := PySem.W.OpenLaw.row PySem.Challenge.rw_fardesk_k74_programs_read
def top (i : Nat) : Stmt := R.prog.main.body.getD i (.Pass ⟨0, 0, 0, 0⟩)
def meth (i j : Nat) : Stmt := (C8.clsBody (top i)).getD j (.Pass ⟨0, 0, 0, 0⟩)
def b_is_number : Ss := (.cons (.ret (.and (.isi (.var 0) .int) (.and (.not (.isi (.var 0) .bool)) (.chain .le .le (.cst (.int 0)) (.var 0) (.var 1))))) .nil)
def e_is_answer_G1 : E := (.call 10 (.cons (.var 1) (.cons (.cst (.int 256)) .nil)) [])
def b_is_answer : Ss := (.cons (.ret (.and (.isi (.var 0) .tuple) (.and (.cmp .le (.blt .len (.cons (.var 0) .nil)) (.cst (.int 30))) (.all 1 (.seq (.var 0)) e_is_answer_G1)))) .nil)
def b_is_rule : Ss := (.cons (.ite (.not (.isi (.var 0) .tuple)) (.cons (.ret (.cst (.bl false))) .nil) .nil) (.cons (.mtch (.var 0) (.cons (.seq [(.cap 1), (.cap 2), (.cap 3), (.cap 4)]) (.cons (.ite (.or (.not (.call 10 (.cons (.var 1) (.cons (.cst (.int 9)) .nil)) [])) (.not (.call 10 (.cons (.var 3) (.cons (.cst (.int 9)) .nil)) []))) (.cons (.ret (.cst (.bl false))) .nil) .nil) (.cons (.ret (.and (.call 11 (.cons (.var 4) .nil) []) (.or (.cmp .is (.var 2) (.cst .non)) (.call 10 (.cons (.var 2) (.cons (.cst (.int 255)) .nil)) [])))) .nil)) (.cons (.atom .wild) (.cons (.ret (.cst (.bl false))) .nil) .nil))) .nil))
def b__law_cell : Ss := (.cons (.ite (.cmp .lt (.var 1) (.blt .len (.cons (.var 0) .nil))) (.cons (.ret (.blt .int (.cons (.idx (.var 0) (.var 1)) .nil))) .nil) .nil) (.cons (.ret (.cst (.int 0))) .nil))
def b__law_draws_L1 : Ss := (.cons (.ite (.cmp .gt (.var 3) (.cst (.int 0))) (.cons (.expr (.lm .append (.var 2) (.cons (.bin .mod (.blt .int (.cons (.var 3) .nil)) (.cst (.int 1000))) .nil))) (.cons (.set 3 (.bin .fdiv (.var 3) (.cst (.int 1000)))) .nil)) .nil) .nil)
def b__law_draws_L2 : Ss := (.cons (.set 5 (.bin .mod (.blt .int (.cons (.bin .add (.bin .add (.bin .mul (.var 5) (.cst (.int 48271))) (.bin .mul (.var 4) (.cst (.int 69621)))) (.cst (.int 7))) .nil)) (.cst (.int 2147483647)))) (.cons (.ite (.cmp .lt (.blt .len (.cons (.var 2) .nil)) (.var 1)) (.cons (.expr (.lm .append (.var 2) (.cons (.bin .mod (.blt .int (.cons (.bin .mod (.blt .int (.cons (.bin .add (.bin .mul (.var 5) (.cst (.int 69621))) (.cst (.int 5))) .nil)) (.cst (.int 2147483629))) .nil)) (.cst (.int 1000))) .nil))) .nil) .nil) .nil))
def b__law_draws : Ss := (.cons (.set 2 (.lst .nil)) (.cons (.set 3 (.blt .int (.cons (.var 0) .nil))) (.cons (.ite (.cmp .ge (.var 3) (.bin .pow (.cst (.int 10)) (.cst (.int 18)))) (.cons (.forr (.name 4) (.rng1 (.var 1)) b__law_draws_L1) .nil) .nil) (.cons (.set 5 (.bin .mod (.blt .int (.cons (.bin .add (.bin .mul (.blt .int (.cons (.var 0) .nil)) (.cst (.int 48271))) (.cst (.int 11))) .nil)) (.cst (.int 2147483647)))) (.cons (.forr (.name 4) (.rng1 (.var 1)) b__law_draws_L2) (.cons (.ret (.var 2)) .nil))))))
def b__law_same_L1 : Ss := (.cons (.ite (.not (.call 6 (.cons (.idx (.var 0) (.var 2)) (.cons (.idx (.var 1) (.var 2)) .nil)) [])) (.cons (.ret (.cst (.bl false))) .nil) .nil) .nil)
def b__law_same : Ss := (.cons (.ite (.cmp .is (.var 1) (.cst .non)) (.cons (.ret (.cmp .is (.var 0) (.cst .non))) .nil) .nil) (.cons (.ite (.cmp .is (.var 1) (.cst (.bl true))) (.cons (.ret (.cmp .is (.var 0) (.cst (.bl true)))) .nil) .nil) (.cons (.ite (.cmp .is (.var 1) (.cst (.bl false))) (.cons (.ret (.cmp .is (.var 0) (.cst (.bl false)))) .nil) .nil) (.cons (.ite (.isi (.var 1) .int) (.cons (.ret (.and (.isi (.var 0) .int) (.and (.not (.isi (.var 0) .bool)) (.cmp .eq (.var 0) (.var 1))))) .nil) .nil) (.cons (.ite (.isi (.var 1) .str) (.cons (.ret (.and (.isi (.var 0) .str) (.cmp .eq (.var 0) (.var 1)))) .nil) .nil) (.cons (.ite (.and (.isi (.var 1) .tuple) (.not (.isi (.var 0) .tuple))) (.cons (.ret (.cst (.bl false))) .nil) .nil) (.cons (.ite (.and (.isi (.var 1) .list) (.not (.isi (.var 0) .list))) (.cons (.ret (.cst (.bl false))) .nil) .nil) (.cons (.ite (.cmp .ne (.blt .len (.cons (.var 0) .nil)) (.blt .len (.cons (.var 1) .nil))) (.cons (.ret (.cst (.bl false))) .nil) .nil) (.cons (.forr (.name 2) (.rng1 (.blt .len (.cons (.var 1) .nil))) b__law_same_L1) (.cons (.ret (.cst (.bl true))) .nil))))))))))
def b__law_answer : Ss := (.cons (.set 2 (.lst (.cons (.lst (.cons (.cst (.int 256)) .nil)) (.cons (.lst .nil) (.cons (.lst (.cons (.cst (.int 8)) (.cons (.cst (.int 32)) (.cons (.cst (.int 8)) .nil)))) (.cons (.lst (.cons (.cst (.int 13)) (.cons (.cst (.int 10)) .nil))) (.cons (.lst (.cons (.cst (.int 27)) (.cons (.cst (.int 91)) (.cons (.cst (.int 54)) (.cons (.cst (.int 110)) .nil))))) (.cons (.lst (.cons (.cst (.int 27)) (.cons (.cst (.int 91)) (.cons (.cst (.int 49)) (.cons (.cst (.int 109)) .nil))))) (.cons (.lst (.cons (.cst (.int 27)) (.cons (.cst (.int 91)) (.cons (.cst (.int 65)) .nil)))) (.cons (.lst (.cons (.cst (.int 256)) (.cons (.cst (.int 46)) .nil))) (.cons (.lst (.cons (.cst (.int 200)) .nil)) (.cons (.lst (.cons (.cst (.int 27)) (.cons (.cst (.int 91)) (.cons (.cst (.int 72)) .nil)))) (.cons (.lst (.cons (.cst (.int 27)) (.cons (.cst (.int 91)) (.cons (.cst (.int 75)) .nil)))) (.cons (.lst (.cons (.cst (.int 27)) (.cons (.cst (.int 91)) (.cons (.cst (.int 63)) (.cons (.cst (.int 49)) (.cons (.cst (.int 104)) .nil)))))) (.cons (.lst (.cons (.cst (.int 7)) .nil)) (.cons (.lst (.cons (.cst (.int 27)) (.cons (.cst (.int 91)) .nil))) (.cons (.lst (.cons (.cst (.int 256)) (.cons (.cst (.int 256)) (.cons (.cst (.int 256)) .nil)))) .nil))))))))))))))))) (.cons (.set 3 (.blt .list (.cons (.idx (.var 2) (.bin .mod (.blt .int (.cons (.idx (.var 0) (.var 1)) .nil)) (.cst (.int 15)))) .nil))) (.cons (.ite (.cmp .eq (.bin .mod (.blt .int (.cons (.idx (.var 0) (.bin .add (.var 1) (.cst (.int 1)))) .nil)) (.cst (.int 3))) (.cst (.int 0))) (.cons (.set 3 (.bin .add (.var 3) (.lst (.cons (.bin .add (.cst (.int 97)) (.bin .mod (.blt .int (.cons (.idx (.var 0) (.bin .add (.var 1) (.cst (.int 1)))) .nil)) (.cst (.int 26)))) .nil)))) .nil) .nil) (.cons (.ite (.cmp .eq (.bin .mod (.blt .int (.cons (.idx (.var 0) (.bin .add (.var 1) (.cst (.int 2)))) .nil)) (.cst (.int 3))) (.cst (.int 0))) (.cons (.set 3 (.bin .add (.var 3) (.idx (.var 2) (.bin .mod (.blt .int (.cons (.idx (.var 0) (.bin .add (.var 1) (.cst (.int 2)))) .nil)) (.cst (.int 15)))))) .nil) .nil) (.cons (.ret (.blt .tuple (.cons (.var 3) .nil))) .nil)))))
def b__law_rules_L1 : Ss := (.cons (.set 4 (.slc (.var 1) (.some (.bin .add (.cst (.int 1)) (.bin .mul (.cst (.int 7)) (.var 3)))) (.some (.bin .add (.cst (.int 8)) (.bin .mul (.cst (.int 7)) (.var 3)))))) (.cons (.set 5 (.idx (.lst (.cons (.cst .non) (.cons (.cst (.int 97)) (.cons (.cst (.int 98)) (.cons (.cst (.int 13)) (.cons (.cst (.int 127)) (.cons (.cst (.int 27)) (.cons (.bin .add (.cst (.int 32)) (.bin .mod (.blt .int (.cons (.idx (.var 4) (.cst (.int 1))) .nil)) (.cst (.int 200)))) .nil)))))))) (.bin .mod (.blt .int (.cons (.idx (.var 4) (.cst (.int 1))) .nil)) (.cst (.int 7))))) (.cons (.expr (.lm .append (.var 2) (.cons (.tup (.cons (.bin .mod (.blt .int (.cons (.idx (.var 4) (.cst (.int 0))) .nil)) (.cst (.int 3))) (.cons (.var 5) (.cons (.bin .mod (.blt .int (.cons (.idx (.var 4) (.cst (.int 2))) .nil)) (.cst (.int 3))) (.cons (.call 14 (.cons (.var 4) (.cons (.cst (.int 3)) .nil)) []) .nil))))) .nil))) .nil)))
def b__law_rules : Ss := (.cons (.set 1 (.call 5 (.cons (.var 0) (.cons (.cst (.int 60)) .nil)) [])) (.cons (.set 2 (.lst .nil)) (.cons (.forr (.name 3) (.rng1 (.bin .mod (.blt .int (.cons (.idx (.var 1) (.cst (.int 0))) .nil)) (.cst (.int 8)))) b__law_rules_L1) (.cons (.ite (.cmp .gt (.bin .mod (.blt .int (.cons (.idx (.var 1) (.cst (.int 57))) .nil)) (.cst (.int 4))) (.cst (.int 0))) (.cons (.expr (.lm .append (.var 2) (.cons (.tup (.cons (.cst (.int 0)) (.cons (.cst .non) (.cons (.cst (.int 0)) (.cons (.tup (.cons (.cst (.int 256)) .nil)) .nil))))) .nil))) .nil) .nil) (.cons (.ite (.cmp .eq (.bin .mod (.blt .int (.cons (.idx (.var 1) (.cst (.int 58))) .nil)) (.cst (.int 2))) (.cst (.int 0))) (.cons (.expr (.lm .append (.var 2) (.cons (.tup (.cons (.cst (.int 1)) (.cons (.cst .non) (.cons (.cst (.int 0)) (.cons (.tup (.cons (.cst (.int 256)) .nil)) .nil))))) .nil))) .nil) .nil) (.cons (.ret (.var 2)) .nil))))))
def b__law_due_L1 : Ss := (.cons (.ite (.cmp .eq (.var 5) (.cst (.int 256))) (.cons (.expr (.lm .append (.var 4) (.cons (.var 2) .nil))) .nil) (.cons (.expr (.lm .append (.var 4) (.cons (.var 5) .nil))) .nil)) .nil)
def b__law_due_L2 : Ss := (.cons (.ite (.and (.cmp .eq (.idx (.var 3) (.cst (.int 0))) (.var 1)) (.or (.cmp .is (.idx (.var 3) (.cst (.int 1))) (.cst .non)) (.cmp .eq (.idx (.var 3) (.cst (.int 1))) (.var 2)))) (.cons (.set 4 (.lst .nil)) (.cons (.forr (.name 5) (.seq (.idx (.var 3) (.cst (.int 3)))) b__law_due_L1) (.cons (.ret (.tup (.cons (.idx (.var 3) (.cst (.int 2))) (.cons (.var 4) .nil)))) .nil))) .nil) .nil)
def b__law_due : Ss := (.cons (.forr (.name 3) (.seq (.var 0)) b__law_due_L2) (.cons (.ret (.tup (.cons (.var 1) (.cons (.lst .nil) .nil)))) .nil))
def b__law_refused : Ss := (.cons (.tryx (.cons (.expr (.mk 2 (.cons (.var 0) .nil) [])) .nil) (some 1) [(0, .ret (.and (.eq (.xfld 0 0) (.cst (.str "rules"))) (.not (.xis 0 1))))]) (.cons (.ret (.cst (.bl false))) .nil))
def e__law_bad_C1 : E := (.cst (.int 1))
def b__law_bad : Ss := (.cons (.set 1 (.lst (.cons (.tup (.cons (.cst (.int 10)) (.cons (.cst (.int 1)) (.cons (.cst (.int 0)) (.cons (.tup .nil) .nil))))) (.cons (.tup (.cons (.cst (.int 0)) (.cons (.cst (.int 256)) (.cons (.cst (.int 0)) (.cons (.tup .nil) .nil))))) (.cons (.tup (.cons (.cst (.int 0)) (.cons (.cst (.int 1)) (.cons (.neg (.cst (.int 1))) (.cons (.tup .nil) .nil))))) (.cons (.tup (.cons (.cst (.int 0)) (.cons (.cst (.int 1)) (.cons (.cst (.int 0)) (.cons (.tup (.cons (.cst (.int 257)) .nil)) .nil))))) (.cons (.tup (.cons (.cst (.int 0)) (.cons (.cst (.int 1)) (.cons (.cst (.int 0)) (.cons (.lst (.cons (.cst (.int 1)) .nil)) .nil))))) (.cons (.tup (.cons (.cst (.bl true)) (.cons (.cst (.int 1)) (.cons (.cst (.int 0)) (.cons (.tup .nil) .nil))))) (.cons (.tup (.cons (.cst (.int 0)) (.cons (.cst (.int 1)) (.cons (.cst (.int 0)) .nil)))) (.cons (.lst (.cons (.cst (.int 0)) (.cons (.cst (.int 1)) (.cons (.cst (.int 0)) (.cons (.tup .nil) .nil))))) (.cons (.tup (.cons (.cst (.int 0)) (.cons (.cst (.int 1)) (.cons (.cst (.int 0)) (.cons (.tup .nil) (.cons (.cst (.int 0)) .nil)))))) (.cons (.tup (.cons (.cst (.int 0)) (.cons (.cst (.str "a")) (.cons (.cst (.int 0)) (.cons (.tup .nil) .nil))))) (.cons (.tup (.cons (.cst (.int 0)) (.cons (.cst (.int 1)) (.cons (.cst (.int 10)) (.cons (.tup .nil) .nil))))) (.cons (.tup (.cons (.cst (.int 0)) (.cons (.cst (.int 1)) (.cons (.cst (.int 0)) (.cons (.blt .tuple (.cons (.lc [2] (.name 2) (.rng1 (.cst (.int 31))) .none e__law_bad_C1) .nil)) .nil))))) (.cons (.cst .non) .nil))))))))))))))) (.cons (.ret (.idx (.var 1) (.bin .mod (.blt .int (.cons (.var 0) .nil)) (.cst (.int 13))))) .nil))
def b_law_L1 : Ss := (.cons (.set 9 (.meth (.var 3) 0 (.cons (.var 6) (.cons (.var 7) .nil)))) (.cons (.ite (.not (.call 6 (.cons (.var 9) (.cons (.call 8 (.cons (.var 1) (.cons (.var 6) (.cons (.var 7) .nil))) []) .nil)) [])) (.cons (.ret (.cst (.bl false))) .nil) .nil) (.cons (.expr (.lm .append (.idx (.var 9) (.cst (.int 1))) (.cons (.cst (.int 7)) .nil))) .nil)))
def b_law_L2 : Ss := (.cons (.set 5 (.call 5 (.cons (.var 4) (.cons (.cst (.int 4)) .nil)) [])) (.cons (.set 6 (.bin .mod (.blt .int (.cons (.idx (.var 5) (.cst (.int 0))) .nil)) (.cst (.int 5)))) (.cons (.set 7 (.idx (.lst (.cons (.cst (.int 97)) (.cons (.cst (.int 98)) (.cons (.cst (.int 13)) (.cons (.cst (.int 127)) (.cons (.cst (.int 27)) (.cons (.bin .mod (.blt .int (.cons (.var 4) .nil)) (.cst (.int 256))) .nil))))))) (.bin .mod (.blt .int (.cons (.idx (.var 5) (.cst (.int 1))) .nil)) (.cst (.int 6))))) (.cons (.forr (.name 8) (.rng1 (.cst (.int 2))) b_law_L1) (.cons (.set 10 (.bin .mod (.blt .int (.cons (.idx (.var 5) (.cst (.int 2))) .nil)) (.bin .add (.blt .len (.cons (.var 1) .nil)) (.cst (.int 1))))) (.cons (.ite (.not (.call 16 (.cons (.bin .add (.bin .add (.slc (.var 1) .none (.some (.var 10))) (.lst (.cons (.call 17 (.cons (.idx (.var 5) (.cst (.int 3))) .nil) []) .nil))) (.slc (.var 1) (.some (.var 10)) .none)) .nil) [])) (.cons (.ret (.cst (.bl false))) .nil) .nil) .nil))))))
def e_law_C1 : E := (.cst (.int 256))
def e_law_C2 : E := (.tup (.cons (.cst (.int 0)) (.cons (.cst (.int 1)) (.cons (.cst (.int 9)) (.cons (.blt .tuple (.cons (.lc [13] (.name 13) (.rng1 (.cst (.int 30))) .none e_law_C1) .nil)) .nil)))))
def e_law_C3 : E := (.cst (.int 1))
def b_law : Ss := (.cons (.set 1 (.call 15 (.cons (.call 13 (.cons (.var 0) (.cons (.cst (.int 0)) .nil)) []) .nil) [])) (.cons (.set 2 (.blt .list (.cons (.var 1) .nil))) (.cons (.set 3 (.mk 2 (.cons (.var 2) .nil) [])) (.cons (.expr (.lm .append (.var 2) (.cons (.tup (.cons (.cst (.int 0)) (.cons (.cst .non) (.cons (.cst (.int 9)) (.cons (.tup (.cons (.cst (.int 1)) .nil)) .nil))))) .nil))) (.cons (.forr (.name 4) (.seq (.bin .add (.lst (.cons (.cst (.int 0)) (.cons (.cst (.int 1)) (.cons (.cst (.int 2)) .nil)))) (.slc (.var 0) (.some (.cst (.int 1))) .none))) b_law_L2) (.cons (.set 11 (.lc [13] (.name 13) (.rng1 (.cst (.int 40))) .none e_law_C2)) (.cons (.ite (.not (.call 6 (.cons (.meth (.mk 2 (.cons (.var 11) .nil) []) 0 (.cons (.cst (.int 0)) (.cons (.cst (.int 1)) .nil))) (.cons (.tup (.cons (.cst (.int 9)) (.cons (.lc [13] (.name 13) (.rng1 (.cst (.int 30))) .none e_law_C3) .nil))) .nil)) [])) (.cons (.ret (.cst (.bl false))) .nil) .nil) (.cons (.set 12 (.mk 2 (.cons (.lst (.cons (.tup (.cons (.cst (.int 9)) (.cons (.cst (.int 255)) (.cons (.cst (.int 9)) (.cons (.tup (.cons (.cst (.int 0)) (.cons (.cst (.int 255)) (.cons (.cst (.int 256)) .nil)))) .nil))))) (.cons (.tup (.cons (.cst (.int 9)) (.cons (.cst (.int 0)) (.cons (.cst (.int 8)) (.cons (.tup .nil) .nil))))) .nil))) .nil) [])) (.cons (.ite (.not (.call 6 (.cons (.lst (.cons (.meth (.var 12) 0 (.cons (.cst (.int 9)) (.cons (.cst (.int 255)) .nil))) (.cons (.meth (.var 12) 0 (.cons (.cst (.int 9)) (.cons (.cst (.int 0)) .nil))) (.cons (.meth (.var 12) 0 (.cons (.cst (.int 8)) (.cons (.cst (.int 1)) .nil))) .nil)))) (.cons (.lst (.cons (.tup (.cons (.cst (.int 9)) (.cons (.lst (.cons (.cst (.int 0)) (.cons (.cst (.int 255)) (.cons (.cst (.int 255)) .nil)))) .nil))) (.cons (.tup (.cons (.cst (.int 8)) (.cons (.lst .nil) .nil))) (.cons (.tup (.cons (.cst (.int 8)) (.cons (.lst .nil) .nil))) .nil)))) .nil)) [])) (.cons (.ret (.cst (.bl false))) .nil) .nil) (.cons (.ret (.and (.call 16 (.cons (.blt .tuple (.cons (.bin .add (.var 11) (.slc (.var 11) .none (.some (.cst (.int 1))))) .nil)) .nil) []) (.call 6 (.cons (.meth (.mk 2 (.cons (.lst .nil) .nil) []) 0 (.cons (.cst (.int 9)) (.cons (.cst (.int 255)) .nil))) (.cons (.tup (.cons (.cst (.int 9)) (.cons (.lst .nil) .nil))) .nil)) []))) .nil))))))))))
def e_Program_init_G1 : E := (.call 12 (.cons (.var 2) .nil) [])
def b_Program_init : Ss := (.cons (.set 1 (.blt .tuple (.cons (.var 1) .nil))) (.cons (.ite (.or (.cmp .gt (.blt .len (.cons (.var 1) .nil)) (.cst (.int 40))) (.not (.all 2 (.seq (.var 1)) e_Program_init_G1))) (.cons (.raise 0 (.cons (.cst (.str "rules")) .nil)) .nil) .nil) (.cons (.fset (.var 0) 1 (.var 1)) .nil)))
def e_Program_read_C1 : E := (.ite (.cmp .eq (.var 7) (.cst (.int 256))) (.var 2) (.var 7))
def b_Program_read_L1 : Ss := (.cons (.ite (.and (.cmp .eq (.var 3) (.var 1)) (.or (.cmp .is (.var 4) (.cst .non)) (.cmp .eq (.var 4) (.var 2)))) (.cons (.ret (.tup (.cons (.var 5) (.cons (.lc [7] (.name 7) (.seq (.var 6)) .none e_Program_read_C1) .nil)))) .nil) .nil) .nil)
def b_Program_read : Ss := (.cons (.forr (.names [3, 4, 5, 6]) (.seq (.fld (.var 0) 1)) b_Program_read_L1) (.cons (.ret (.tup (.cons (.var 1) (.cons (.lst .nil) .nil)))) .nil))
def dDefs : List (Nat × DF) := [(10, ⟨("is_number", none), "is_number", top 5, ["n", "most"], ["n", "most"], some ⟨2, 2, b_is_number⟩, 0⟩),
  (11, ⟨("is_answer", none), "is_answer", top 11, ["row", "n"], ["row"], some ⟨1, 2, b_is_answer⟩, 1⟩),
  (12, ⟨("is_rule", none), "is_rule", top 12, ["rule", "state", "character", "after", "answer"], ["rule"], some ⟨1, 5, b_is_rule⟩, 0⟩),
  (13, ⟨("_law_cell", none), "_law_cell", top 15, ["_law_script", "_law_k"], ["_law_script", "_law_k"], some ⟨2, 2, b__law_cell⟩, 0⟩),
  (5, ⟨("_law_draws", none), "_law_draws", top 16, ["_law_cell_here", "_law_many", "_law_rows", "_law_rest", "_law_k", "_law_state"], ["_law_cell_here", "_law_many"], some ⟨2, 6, b__law_draws⟩, 0⟩),
  (6, ⟨("_law_same", none), "_law_same", top 17, ["_law_told", "_law_due_here", "_law_k"], ["_law_told", "_law_due_here"], some ⟨2, 3, b__law_same⟩, 0⟩),
  (14, ⟨("_law_answer", none), "_law_answer", top 18, ["_law_draws_here", "_law_start", "_law_pieces", "_law_row"], ["_law_draws_here", "_law_start"], some ⟨2, 4, b__law_answer⟩, 0⟩),
  (15, ⟨("_law_rules", none), "_law_rules", top 19, ["_law_cell_here", "_law_draws_here", "_law_rules_here", "_law_k", "_law_part", "_law_wanted"], ["_law_cell_here"], some ⟨1, 6, b__law_rules⟩, 0⟩),
  (8, ⟨("_law_due", none), "_law_due", top 20, ["_law_rules_here", "_law_state", "_law_character", "_law_rule", "_law_answer_here", "_law_n"], ["_law_rules_here", "_law_state", "_law_character"], some ⟨3, 6, b__law_due⟩, 0⟩),
  (16, ⟨("_law_refused", none), "_law_refused", top 21, ["_law_rules_here", "e"], ["_law_rules_here"], some ⟨1, 2, b__law_refused⟩, 0⟩),
  (17, ⟨("_law_bad", none), "_law_bad", top 22, ["_law_n", "_law_rules_here", "_law_k"], ["_law_n"], some ⟨1, 3, b__law_bad⟩, 0⟩),
  (9, ⟨("law", none), "law", top 23, ["_law_script", "_law_rules_here", "_law_handed", "_law_program", "_law_cell_here", "_law_draws_here", "_law_state", "_law_character", "_law_again", "_law_told", "_law_at", "_law_many", "_law_far", "_law_k"], ["_law_script"], some ⟨1, 14, b_law⟩, 0⟩),
  (18, ⟨("InvalidArgument", some ("__init__" : PySem.Str)), "InvalidArgument.__init__", meth 2 0, ["self", "name"], ["self", "name"], none, 0⟩),
  (19, ⟨("RefusedError", some ("__init__" : PySem.Str)), "RefusedError.__init__", meth 3 0, ["self", "reason"], ["self", "reason"], none, 0⟩),
  (20, ⟨("Program", some ("__init__" : PySem.Str)), "Program.__init__", meth 13 0, ["self", "rules", "rule"], ["self", "rules"], some ⟨2, 3, b_Program_init⟩, 1⟩),
  (21, ⟨("Program", some ("read" : PySem.Str)), "Program.read", meth 13 1, ["self", "state", "character", "before", "wanted", "after", "answer", "n"], ["self", "state", "character"], some ⟨3, 8, b_Program_read⟩, 0⟩)]
def dGv : List (PySem.Str × GV) := List.append ([("is_number", .fn 10 [[]]),
  ("is_answer", .fn 11 [[]]),
  ("is_rule", .fn 12 [[]]),
  ("_law_cell", .fn 13 [[]]),
  ("_law_draws", .fn 5 [[]]),
  ("_law_same", .fn 6 [[]]),
  ("_law_answer", .fn 14 [[]]),
  ("_law_rules", .fn 15 [[]]),
  ("_law_due", .fn 8 [[]]),
  ("_law_refused", .fn 16 [[]]),
  ("_law_bad", .fn 17 [[]]),
  ("law", .fn 9 [[]]),
  ("Program", .cls 2 20 [[]]),
  ("MOST_RULES", .val (.int 40)),
  ("MOST_STATE", .val (.int 9)),
  ("MOST_ANSWER", .val (.int 30)),
  ("SAME", .val (.int 256)),
  ("InvalidArgument", .exc 0)]) ([("RefusedError", .exc 1),
  ("all", .bi),
  ("bool", .bi),
  ("int", .bi),
  ("isinstance", .bi),
  ("len", .bi),
  ("list", .bi),
  ("range", .bi),
  ("str", .bi),
  ("tuple", .bi)])
def D : Desc where
  defs := dDefs
  cls := [(0, "InvalidArgument"), (1, "RefusedError"), (2, "Program")]
  gv := dGv
  nms := ["name", "_rules", "reason"]
  mns := ["read"]
  mts := [((2, 0), 21)]
  inis := [(2, 20)]
  fls := [(2, 1)]
  exi := [(0, some (0, 18)), (1, some (2, 19))]
  subs := [((0, 0), true), ((0, 1), false)]
abbrev lawIx : Nat := 23
abbrev lawFn : Nat := 9
def loose : List PySem.Str := ["DeskError",
  "InvalidArgument",
  "RefusedError",
  "is_number",
  "MOST_RULES",
  "MOST_STATE",
  "MOST_ANSWER",
  "SAME",
  "is_answer",
  "is_rule",
  "Program",
  "_law_cell",
  "_law_draws",
  "_law_same",
  "_law_answer",
  "_law_rules",
  "_law_due",
  "_law_refused",
  "_law_bad"]
abbrev qv : Program := PySem.W.view R.prog [lawIx]
theorem wf : D.wf = true := by kernel_rfl
abbrev hk : PySem.W.Hook := He.hookX 4 D.fa D.fn [] D.tf D.ex
def ob (s : PySem.W.SharedT) : He.AlX := He.obsX 4 D.fa D.fn [] D.tf D.ex (HandSHeadRun.getT s)
theorem ob_eq (s : PySem.W.SharedT) : ob s = hk.obs s.abs := He.obsX_eq (HandSHeadRun.getT_eq s)
theorem run_eq (w : World) : HandSHeadRun.RunEq R qv hk ob 4000 loose w :=
  PySem.W.byRow2 (P := fun w => HandSHeadRun.RunEq R qv hk ob 4000 loose w) "special-get-raises" (fun w os => by kernel_rfl) (fun w os => by kernel_rfl) w
theorem head (law : ∀ ns : List Int, ns.length ≤ 63 → ∃ h', Fx.run D.pg 40 lawFn [.ref 0] (Fx.scriptH ns) = .ok (.bl true) h') : PySem.Challenge.rw_fardesk_k74_programs_read.Holds := by
  w_on; o_law
  refine HandSHeadRun.head_any (r := PySem.W.OpenLaw.row PySem.Challenge.rw_fardesk_k74_programs_read) (q := PySem.W.view (PySem.W.OpenLaw.row PySem.Challenge.rw_fardesk_k74_programs_read).prog [lawIx]) (H := hk) (ob := ob) (M := 4000) (loose := loose) (d := HandSHeadRun.topDef (PySem.W.OpenLaw.row PySem.Challenge.rw_fardesk_k74_programs_read).prog lawIx) (kwd := []) ob_eq
    (by kernel_rfl) (fun s => by kernel_rfl) run_eq (by kernel_rfl) (by kernel_rfl) (by kernel_rfl) (by rfl) (by first | assumption | decide +kernel) (by decide +kernel) ⟨rfl, rfl, rfl, rfl, rfl, by decide +kernel⟩ ?hw ?hc
  case hw => w_witness2
  case hc =>
    exact Fx.lawEnd (D := D) (l := PySem.Challenge.rw_fardesk_k74_programs_read) (m := 63) (k := 40) (f := lawFn) (y := "_law_script") rfl (by decide) (by kernel_rfl) ⟨rfl, by decide, by decide⟩ wf rfl rfl rfl rfl (by kernel_rfl) law
end Lw

namespace Lw
open Fx PySem L2
theorem fn10 : D.pg.fn 10 = some ⟨2, 2, b_is_number⟩ := rfl
theorem fn11 : D.pg.fn 11 = some ⟨1, 2, b_is_answer⟩ := rfl
theorem fn12 : D.pg.fn 12 = some ⟨1, 5, b_is_rule⟩ := rfl
theorem fn20 : D.pg.fn 20 = some ⟨2, 3, b_Program_init⟩ := rfl
theorem fn21 : D.pg.fn 21 = some ⟨3, 8, b_Program_read⟩ := rfl
def Lf (h : PH) : PV → Prop
  | .ref a => ∃ l, h.get a = some (.lst l)
  | _ => True
def isNum (v : PV) (m : Int) : Bool := match v with
  | .int n => decide (0 ≤ n) && decide (n ≤ m)
  | _ => false
theorem num_spec (k : Nat) {v : PV} (m : Int) {h : PH} (hv : Lf h v) : run D.pg (k + 2) 10 [v, .int m] h = .ok (.bl (isNum v m)) h := by
  rw [run_def fn10 rfl]
  cases v with
  | int n => by_cases h1 : 0 ≤ n <;> simp [b_is_number, isNum, h1]
  | ref a => obtain ⟨l, e⟩ := hv; simp [b_is_number, isNum, isT_lst e]
  | _ => simp [b_is_number, isNum]
def ansB (v : PV) : Bool := match v with
  | .tup l => decide (l.length ≤ 30) && l.all (isNum · 256)
  | _ => false
theorem ans_spec (k : Nat) {v : PV} {h : PH} (hv : Lf h v) (hl : ∀ l, v = .tup l → ∀ x ∈ l, Lf h x) : run D.pg (k + 3) 11 [v] h = .ok (.bl (ansB v)) h := by
  rw [show k + 3 = (k + 1) + 2 by omega, run_def fn11 rfl]
  cases v with
  | tup l =>
    have hb : ∀ x ∈ l, aBody 1 (ev D.pg (run D.pg (k + 2)) (run D.pg (k + 1)) e_is_answer_G1) [some (.tup l), none] x h = .ok (.bl (isNum x 256)) h := fun x hx => by
      simp [aBody, e_is_answer_G1, num_spec k 256 (hl l rfl x hx)]
    have e := loopA_pure hb l.length 0 (by omega)
    by_cases h1 : (l.length : Int) ≤ 30
    · have h2 : l.length ≤ 30 := by omega
      simp [b_is_answer, ansB, h2, h1, e]
    · have h2 : ¬ l.length ≤ 30 := by omega
      simp [b_is_answer, ansB, h2, h1]
  | ref a => obtain ⟨l, e⟩ := hv; simp [b_is_answer, ansB, isT_lst e]
  | _ => simp [b_is_answer, ansB]
def ruleB (v : PV) : Bool := match v with
  | .tup [s, w, a, n] => isNum s 9 && isNum a 9 && (ansB n && (isNon w || isNum w 255))
  | _ => false
def Lf2 (h : PH) (v : PV) : Prop := Lf h v ∧ ∀ l, v = .tup l → ∀ x ∈ l, Lf h x
def Lf3 (h : PH) (v : PV) : Prop := Lf h v ∧ ∀ l, v = .tup l → ∀ x ∈ l, Lf2 h x
theorem rule_spec (k : Nat) {v : PV} {h : PH} (hv : Lf3 h v) : run D.pg (k + 4) 12 [v] h = .ok (.bl (ruleB v)) h := by
  rw [show k + 4 = (k + 2) + 2 by omega, run_def fn12 rfl]
  obtain ⟨hv, hl⟩ := hv
  cases v with
  | tup l =>
    match l, hl l rfl with
    | [], _ => simp [b_is_rule, ruleB]
    | [_], _ => simp [b_is_rule, ruleB]
    | [_, _], _ => simp [b_is_rule, ruleB]
    | [_, _, _], _ => simp [b_is_rule, ruleB]
    | _ :: _ :: _ :: _ :: _ :: r, _ => simp [b_is_rule, ruleB]
    | [s, w, a, n], hl =>
      have n1 := num_spec (k + 1) 9 (hl s (by simp)).1
      have n2 := num_spec (k + 1) 9 (hl a (by simp)).1
      have n3 := num_spec (k + 1) 255 (hl w (by simp)).1
      have n4 := ans_spec k (hl n (by simp)).1 (hl n (by simp)).2
      cases h1 : isNum s 9 <;> cases h2 : isNum a 9 <;> cases h3 : ansB n <;> cases h4 : isNon w <;> simp [b_is_rule, ruleB, mEach_cons, mCat, n1, n2, n3, n4, h1, h2, h3, h4]
  | ref a => obtain ⟨l, e⟩ := hv; simp [b_is_rule, ruleB, isT_lst e]
  | _ => simp [b_is_rule, ruleB]
theorem seqOf_len {h : PH} {v : PV} {l : List PV} (e : seqOf h v = some l) : blt .tuple [v] h = .ok (.tup l) h := by
  cases v with
  | tup r => cases e; rfl
  | ref a => exact blt_tup e
  | _ => cases e
theorem init_spec (k : Nat) {v : PV} {h : PH} {p : Nat} {l : List PV} (hp : h.get p = some (.ins 2 [])) (e : seqOf h v = some l) (hl : ∀ x ∈ l, Lf3 h x) :
    run D.pg (k + 5) 20 [.ref p, v] h = if l.length ≤ 40 ∧ l.all ruleB = true then .ok .non (h.set p (.ins 2 [(1, .tup l)])) else .exc 0 [(0, .str "rules")] h := by
  rw [show k + 5 = (k + 3) + 2 by omega, run_def fn20 rfl]
  have hb : ∀ x ∈ l, aBody 2 (ev D.pg (run D.pg (k + 4)) (run D.pg (k + 3)) e_Program_init_G1) [some (.ref p), some (.tup l), none] x h = .ok (.bl (ruleB x)) h := fun x hx => by
    simp [aBody, e_Program_init_G1, rule_spec k (hl x hx)]
  have e2 := loopA_pure hb l.length 0 (by omega)
  have e3 : setFld D.pg (.ref p) 1 (.tup l) h = some (h.set p (.ins 2 [(1, .tup l)])) := by
    simp only [setFld, hp]
    rfl
  have er : raiseK D.pg 0 [some (.ref p), some (.tup l), none] [.str "rules"] h = .ex 0 [(0, .str "rules")] [some (.ref p), some (.tup l), none] h := rfl
  by_cases h1 : l.length ≤ 40
  · have h2 : ¬ (40 < (l.length : Int)) := by omega
    cases h3 : l.all ruleB with
    | true => simp [b_Program_init, seqOf_len e, h1, h2, h3, e2, e3]
    | false => simp [b_Program_init, seqOf_len e, h1, h2, h3, e2, er]
  · have h2 : 40 < (l.length : Int) := by omega
    simp [b_Program_init, seqOf_len e, h1, h2, er]
end Lw

namespace Lw
open Fx PySem L2
theorem fn5 : D.pg.fn 5 = some ⟨2, 6, b_draws⟩ := rfl
theorem fn6 : D.pg.fn 6 = some ⟨2, 3, b_same 6⟩ := rfl
theorem fn8 : D.pg.fn 8 = some ⟨3, 6, b__law_due⟩ := rfl
theorem fn9 : D.pg.fn 9 = some ⟨1, 14, b_law⟩ := rfl
theorem fn13 : D.pg.fn 13 = some ⟨2, 2, b__law_cell⟩ := rfl
theorem fn14 : D.pg.fn 14 = some ⟨2, 4, b__law_answer⟩ := rfl
theorem fn15 : D.pg.fn 15 = some ⟨1, 6, b__law_rules⟩ := rfl
theorem fn16 : D.pg.fn 16 = some ⟨1, 2, b__law_refused⟩ := rfl
theorem fn17 : D.pg.fn 17 = some ⟨1, 3, b__law_bad⟩ := rfl
/-- a rule -/
structure Rl where
  s : Int
  w : Option Int
  a : Int
  n : List Int
def wV : Option Int → PV
  | none => .non
  | some i => .int i
def Rl.v (r : Rl) : PV := .tup [.int r.s, wV r.w, .int r.a, .tup (r.n.map .int)]
structure Rl.Ok (r : Rl) : Prop where
  s : 0 ≤ r.s ∧ r.s ≤ 9
  w : ∀ c, r.w = some c → 0 ≤ c ∧ c ≤ 255
  a : 0 ≤ r.a ∧ r.a ≤ 9
  n : r.n.length ≤ 30
  m : ∀ n ∈ r.n, 0 ≤ n ∧ n ≤ 256
theorem Rl.ruleB {r : Rl} (o : r.Ok) : Lw.ruleB r.v = true := by
  obtain ⟨⟨s1, s2⟩, w, ⟨a1, a2⟩, n, m⟩ := o
  have hm : ansB (.tup (r.n.map PV.int)) = true := by
    show (decide ((r.n.map PV.int).length ≤ 30) && (r.n.map PV.int).all (isNum · 256)) = true
    rw [Bool.and_eq_true, List.length_map]
    refine ⟨by simpa using n, ?_⟩
    rw [List.all_map, List.all_eq_true]
    intro x hx
    have := m x hx
    simp [isNum, this.1, this.2]
  have hw : (isNon (wV r.w) || isNum (wV r.w) 255) = true := by
    cases e : r.w with
    | none => rfl
    | some c => have := w c e; simp [wV, isNum, this.1, this.2]
  show (isNum (.int r.s) 9 && isNum (.int r.a) 9 && (ansB (.tup (r.n.map .int)) && (isNon (wV r.w) || isNum (wV r.w) 255))) = true
  rw [hm, hw]
  simp [isNum, s1, s2, a1, a2]
theorem Rl.lf (r : Rl) (h : PH) : Lf3 h r.v := by
  refine ⟨trivial, fun l e x hx => ?_⟩
  cases e
  simp at hx
  rcases hx with rfl | rfl | rfl | rfl
  · exact ⟨trivial, fun l e => by cases e⟩
  · cases r.w with
    | none => exact ⟨trivial, fun l e => by cases e⟩
    | some c => exact ⟨trivial, fun l e => by cases e⟩
  · exact ⟨trivial, fun l e => by cases e⟩
  · refine ⟨trivial, fun l e y hy => ?_⟩
    cases e
    obtain ⟨i, _, rfl⟩ := List.mem_map.mp hy
    trivial

def fits (r : Rl) (s c : Int) : Bool := decide (r.s = s) && match r.w with
  | none => true
  | some w => decide (w = c)
def subst (c : Int) (n : List Int) : List Int := n.map fun i => if i = 256 then c else i
def readF (s c : Int) : List Rl → Int × List Int
  | [] => (s, [])
  | r :: l => if fits r s c = true then (r.a, subst c r.n) else readF s c l
def sub1 (c : Int) : PV → PV
  | .int i => .int (if i = 256 then c else i)
  | v => v
theorem sub_map (c : Int) (n : List Int) : (n.map PV.int).map (sub1 c) = (subst c n).map .int := by
  unfold subst
  rw [List.map_map, List.map_map]
  rfl
theorem readF_drop {s c : Int} {rs : List Rl} {i : Nat} {r : Rl} (e : rs[i]? = some r) : readF s c (rs.drop i) = if fits r s c = true then (r.a, subst c r.n) else readF s c (rs.drop (i + 1)) := by
  obtain ⟨hl, rfl⟩ := List.getElem?_eq_some_iff.mp e
  rw [List.drop_eq_getElem_cons hl]
  rfl
theorem get_map {rs : List Rl} {i : Nat} {x : PV} (e : (rs.map Rl.v)[i]? = some x) : ∃ r, rs[i]? = some r ∧ x = r.v := by
  rw [List.getElem?_map] at e
  obtain ⟨r, er, rfl⟩ := Option.map_eq_some_iff.mp e
  exact ⟨r, er, rfl⟩
/-- the answer of read, and the law's own -/
def Told (h h' : PH) (s c : Int) (rs : List Rl) (Q : PV → PH → Prop) : Prop := ∀ a, h.n ≤ a → Ext h h' → h'.get a = some (.lst ((readF s c rs).2.map .int)) → Q (.tup [.int (readF s c rs).1, .ref a]) h'
theorem read_spec (k : Nat) {p : Nat} {rs : List Rl} (ho : ∀ r ∈ rs, r.Ok) {h : PH} (hp : h.get p = some (.ins 2 [(1, .tup (rs.map Rl.v))])) (s c : Int) {Q : PV → PH → Prop} {E : XP} (hQ : ∀ h', Told h h' s c rs Q) :
    (run D.pg (k + 2) 21 [.ref p, .int s, .int c] h).sat Q E := by
  refine sat_run fn21 rfl ?_
  try simp [-Fx.alloc_def, -Fx.blt_lstT, b_Program_read, hp, List.lookup]
  refine sat_vals (fun i σ h1 => h1 = h ∧ readF s c rs = readF s c (rs.drop i) ∧ ∃ x3 x4 x5 x6, σ = [some (.ref p), some (.int s), some (.int c), x3, x4, x5, x6, none]) ⟨rfl, rfl, _, _, _, _, rfl⟩ (fun i x σ h1 hx ⟨hh, hr, x3, x4, x5, x6, hs⟩ => ?_) (fun σ h1 ⟨hh, hr, x3, x4, x5, x6, hs⟩ => ?_) (by simp)
  · subst hh; subst hs
    obtain ⟨r, er, rfl⟩ := get_map hx
    have o := ho r (List.mem_of_getElem? er)
    rw [readF_drop er] at hr
    have e2 : ∀ y4, loopC (cBody [7] (.name 7) (evt D.pg (run D.pg (k + 1)) (run D.pg k) .none) (ev D.pg (run D.pg (k + 1)) (run D.pg k) e_Program_read_C1) [some (.ref p), some (.int s), some (.int c), some (.int r.s), y4, some (.int r.a), some (.tup (r.n.map .int)), none]) (.vals (r.n.map .int)) r.n.length 0 [] h1 = .ok ((subst c r.n).map .int) h1 := fun y4 => by
      have hb : ∀ x ∈ r.n.map PV.int, cBody [7] (.name 7) (evt D.pg (run D.pg (k + 1)) (run D.pg k) .none) (ev D.pg (run D.pg (k + 1)) (run D.pg k) e_Program_read_C1) [some (.ref p), some (.int s), some (.int c), some (.int r.s), y4, some (.int r.a), some (.tup (r.n.map .int)), none] x h1
          = .ok (some (sub1 c x)) h1 := fun x hx => by
        obtain ⟨i, _, rfl⟩ := List.mem_map.mp hx
        by_cases hi : i = 256 <;> simp [cBody, e_Program_read_C1, hi, sub1]
      have e2 := loopC_map hb (by rw [List.length_map, LINE_val]; have := o.n; omega)
      rw [List.length_map, sub_map] at e2
      exact e2
    have yes : fits r s c = true → Q (.tup [.int r.a, .ref h1.n]) (h1.new (.lst ((subst c r.n).map .int))) := fun hf => by
      have fin := hQ (h1.new (.lst ((subst c r.n).map .int))) h1.n (Nat.le_refl _) (Ext.new _ _) (by rw [hr, if_pos hf]; exact PH.get_new_same)
      rw [hr, if_pos hf] at fin
      exact fin
    have no : fits r s c = false → readF s c rs = readF s c (rs.drop (i + 1)) := fun hf => by rw [hr, hf]; rfl
    clear hr
    by_cases h1s : r.s = s
    · subst h1s
      cases hw : r.w with
      | none =>
        have f1 : fits r r.s c = true := by simp [fits, hw]
        simpa [b_Program_read_L1, Rl.v, hw, wV, e2] using yes f1
      | some w =>
        by_cases h2 : w = c
        · have f1 : fits r r.s c = true := by simp [fits, hw, h2]
          simpa [b_Program_read_L1, Rl.v, hw, wV, e2, h2] using yes f1
        · have f1 : fits r r.s c = false := by simp [fits, hw, h2]
          simp [b_Program_read_L1, Rl.v, hw, wV, h2]
          exact no f1
    · have f1 : fits r s c = false := by simp [fits, h1s]
      simp [b_Program_read_L1, Rl.v, h1s]
      exact no f1
  · subst hh; subst hs
    simp at hr
    have fin := hQ (h1.new (.lst [])) h1.n (Nat.le_refl _) (Ext.new _ _) (by rw [hr]; exact PH.get_new_same)
    rw [hr] at fin
    simpa [readF] using fin
end Lw

namespace Lw
open Fx PySem L2
theorem due_spec (k : Nat) {a : Nat} {rs : List Rl} (ho : ∀ r ∈ rs, r.Ok) {h : PH} (hp : h.get a = some (.lst (rs.map Rl.v))) (s c : Int) {Q : PV → PH → Prop} {E : XP} (hQ : ∀ h', Told h h' s c rs Q) :
    (run D.pg (k + 2) 8 [.ref a, .int s, .int c] h).sat Q E := by
  refine sat_run fn8 rfl ?_
  try simp [-Fx.alloc_def, -Fx.blt_lstT, b__law_due, hp]
  refine sat_live (l := rs.map Rl.v) (fun i σ h1 => Ext h h1 ∧ readF s c rs = readF s c (rs.drop i) ∧ ∃ x3 x4 x5, σ = [some (.ref a), some (.int s), some (.int c), x3, x4, x5]) ⟨Ext.refl h, rfl, _, _, _, rfl⟩ (fun i σ h1 ⟨x, _⟩ => seqOf_lst (x.get hp)) (fun i x σ h1 hx ⟨hE, hr, x3, x4, x5, hs⟩ => ?_) (fun σ h1 ⟨hE, hr, x3, x4, x5, hs⟩ => ?_) (by simp)
  · subst hs
    obtain ⟨r, er, rfl⟩ := get_map hx
    have o := ho r (List.mem_of_getElem? er)
    rw [readF_drop er] at hr
    obtain ⟨B, hB⟩ : ∃ B : Ss, B = (.cons (.set 4 (.lst .nil)) (.cons (.forr (.name 5) (.seq (.idx (.var 3) (.cst (.int 3)))) b__law_due_L1) (.cons (.ret (.tup (.cons (.idx (.var 3) (.cst (.int 2))) (.cons (.var 4) .nil)))) .nil))) := ⟨_, rfl⟩
    have eb : b__law_due_L2 = .cons (.ite (.and (.cmp .eq (.idx (.var 3) (.cst (.int 0))) (.var 1)) (.or (.cmp .is (.idx (.var 3) (.cst (.int 1))) (.cst .non)) (.cmp .eq (.idx (.var 3) (.cst (.int 1))) (.var 2)))) B .nil) .nil := by rw [hB]; rfl
    have no : fits r s c = false → readF s c rs = readF s c (rs.drop (i + 1)) := fun hf => by rw [hr, hf]; rfl
    have yes : fits r s c = true → ∀ T : SQ, (∀ v h, Q v h → T.R v h) → (xss D.pg (run D.pg (k + 1)) (run D.pg k) B [some (.ref a), some (.int s), some (.int c), some (.tup [.int r.s, wV r.w, .int r.a, .tup (r.n.map .int)]), x4, x5] h1).sat T := fun hf T hT => by
      try simp [-Fx.alloc_def, -Fx.blt_lstT, hB]
      refine sat_al fun q h2 hE2 hg2 hq => ?_
      try simp [-Fx.alloc_def, -Fx.blt_lstT]
      refine sat_vals (fun j σ h3 => ExtBut q h2 h3 ∧ h3.get q = some (.lst ((subst c (r.n.take j)).map .int)) ∧ ∃ x5, σ = [some (.ref a), some (.int s), some (.int c), some (.tup [.int r.s, wV r.w, .int r.a, .tup (r.n.map .int)]), some (.ref q), x5]) ⟨ExtBut.refl _ _, hg2, _, rfl⟩ (fun j x σ h3 hx ⟨hE3, hg, x5, hs⟩ => ?_) (fun σ h3 ⟨hE3, hg, x5, hs⟩ => ?_) (by simp)
      · subst hs
        rw [List.getElem?_map] at hx
        obtain ⟨n, en, rfl⟩ := Option.map_eq_some_iff.mp hx
        have hl : ((subst c (r.n.take j)).map PV.int).length < LINE := by
          unfold subst
          rw [List.length_map, List.length_map, List.length_take, LINE_val]
          have := o.n
          omega
        rw [LINE_val] at hl
        have hk : (subst c (r.n.take (j + 1))).map PV.int = (subst c (r.n.take j)).map PV.int ++ [.int (if n = 256 then c else n)] := by
          unfold subst
          rw [List.take_add_one, en]
          simp
        have hset : ∀ v, (h3.set q (.lst v)).get q = some (.lst v) := fun v => PH.get_set_same hg
        have hE4 := fun v => hE3.trans (ExtBut.set h3 q (.lst v))
        simp only [List.length_map] at hl
        by_cases hn : n = 256
        · subst hn
          simp only [if_true] at hk
          simp [b__law_due_L1, hg, hl, hE4, hset, hk]
        · rw [if_neg hn] at hk
          simp [b__law_due_L1, hg, hl, hE4, hset, hk, hn]
      · subst hs
        simp at hg
        have hq' := Nat.le_trans hE.n hq
        have fin := hQ h3 q hq' (hE3.ext (hE.trans hE2) hq') (by rw [hr, if_pos hf]; exact hg)
        rw [hr, if_pos hf] at fin
        simpa using hT _ _ fin
    clear hr
    clear hB
    by_cases h1s : r.s = s
    · subst h1s
      cases hw : r.w with
      | none =>
        have f1 : fits r r.s c = true := by simp [fits, hw]
        rw [hw] at yes
        try simp [-Fx.alloc_def, -Fx.blt_lstT, eb, Rl.v, hw, wV]
        refine yes f1 _ ?_; intro v h q; simpa using q
      | some w =>
        by_cases h2 : w = c
        · have f1 : fits r r.s c = true := by simp [fits, hw, h2]
          rw [hw] at yes
          try simp [-Fx.alloc_def, -Fx.blt_lstT, eb, Rl.v, hw, wV, h2]
          rw [h2] at yes
          refine yes f1 _ ?_; intro v h q; simpa using q
        · have f1 : fits r r.s c = false := by simp [fits, hw, h2]
          simp [eb, Rl.v, hw, wV, h2]
          exact ⟨hE, no f1⟩
    · have f1 : fits r s c = false := by simp [fits, h1s]
      simp [eb, Rl.v, h1s]
      exact ⟨hE, no f1⟩
  · subst hs
    simp at hr
    have fin := hQ (h1.new (.lst [])) h1.n hE.n (hE.trans (Ext.new _ _)) (by rw [hr]; exact PH.get_new_same)
    rw [hr] at fin
    simpa [readF] using fin

/-! the drawn rules -/
def tailS : Ss → Ss
  | .cons _ r => r
  | .nil => .nil
def pieces : List (List Int) := [[256], [], [8, 32, 8], [13, 10], [27, 91, 54, 110], [27, 91, 49, 109], [27, 91, 65], [256, 46], [200], [27, 91, 72], [27, 91, 75], [27, 91, 63, 49, 104], [7], [27, 91], [256, 256, 256]]
def In (n : Nat) (l : List Int) : Prop := l.length ≤ n ∧ ∀ x ∈ l, 0 ≤ x ∧ x ≤ 256
theorem In.app {n m : Nat} {l r : List Int} (a : In n l) (b : In m r) : In (n + m) (l ++ r) := ⟨by rw [List.length_append]; exact Nat.add_le_add a.1 b.1, fun x hx => (List.mem_append.mp hx).elim (a.2 x) (b.2 x)⟩
theorem pieces_in : ∀ l ∈ pieces, In 5 l := by
  intro l hl
  simp [pieces] at hl
  rcases hl with rfl | rfl | rfl | rfl | rfl | rfl | rfl | rfl | rfl | rfl | rfl | rfl | rfl | rfl | rfl <;> exact ⟨by decide, by decide⟩
theorem answer_spec (k : Nat) {d : Nat} {dl : List Int} {h : PH} (hd : h.get d = some (.lst (dl.map .int))) (hl : dl.length = 7) {Q : PV → PH → Prop} {E : XP} (hQ : ∀ l h', Ext h h' → In 30 l → Q (.tup (l.map .int)) h') :
    (run D.pg (k + 2) 14 [.ref d, .int 3] h).sat Q E := by
  obtain ⟨e0, e1, e2, d0, d1, d2, e3, rfl⟩ : ∃ e0 e1 e2 d0 d1 d2 e3, dl = [e0, e1, e2, d0, d1, d2, e3] := by
    match dl, hl with
    | [a, b, c, d, e, f, g], _ => exact ⟨a, b, c, d, e, f, g, rfl⟩
  refine sat_run fn14 rfl ?_
  have eb : b__law_answer = .cons (.set 2 (.lst (litL pieces))) (tailS b__law_answer) := rfl
  show (xss D.pg _ _ b__law_answer _ _).sat _
  rw [eb]
  obtain ⟨rs, h1, ee, hE, hn, hk⟩ := evs_litL (P := D.pg) (rc := run D.pg (k + 1)) (rm := run D.pg k) (σ := [some (.ref d), some (.int 3), none, none]) pieces h (fun l hl => by have := (pieces_in l hl).1; rw [LINE_val]; omega)
  have hn15 : rs.length = 15 := hn
  try simp [-Fx.alloc_def, -Fx.blt_lstT, ee, hn15]
  refine sat_al fun o h2 hE2 hg2 _ => ?_
  have hp : ∀ x : Int, ∃ a l, atI rs (x % 15) = some (.ref a) ∧ h2.get a = some (.lst (l.map .int)) ∧ In 5 l := fun x => by
    have m0 := Int.emod_nonneg x (show (15 : Int) ≠ 0 by decide)
    have m1 := Int.emod_lt_of_pos x (show (0 : Int) < 15 by decide)
    obtain ⟨y, ey, ey2⟩ := atI_lt (l := rs) m0 (by rw [hn15]; exact m1)
    obtain ⟨a, l, el, rfl, hg⟩ := hk _ _ ey2
    exact ⟨a, l, ey, hE2.get hg, pieces_in l (List.mem_of_getElem? el)⟩
  replace hd := Fx.Ext.get hE hd
  replace hd := Fx.Ext.get hE2 hd
  replace hE := hE.trans hE2
  clear hk ee hE2 eb
  obtain ⟨a0, l0, p0, g0, i0⟩ := hp d0
  obtain ⟨a2, l2, p2, g2, i2⟩ := hp d2
  try simp [-Fx.alloc_def, -Fx.blt_lstT, tailS, b__law_answer, hd, hg2, p0, g0]
  refine sat_al fun r h3 hE3 hg3 _ => ?_
  replace hd := Fx.Ext.get hE3 hd; replace hg2 := Fx.Ext.get hE3 hg2; replace g2 := Fx.Ext.get hE3 g2
  replace hE := hE.trans hE3
  clear g0 hE3
  have c26 : In 1 [97 + d1 % 26] := ⟨by simp, fun x hx => by
    rw [List.mem_singleton.mp hx]
    have m0 := Int.emod_nonneg d1 (show (26 : Int) ≠ 0 by decide)
    have m1 := Int.emod_lt_of_pos d1 (show (0 : Int) < 26 by decide)
    omega⟩
  have l0' := i0.1
  have l2' := i2.1
  by_cases c1 : d1 % 3 = 0 <;> by_cases c2 : d2 % 3 = 0
  · try simp [-Fx.alloc_def, -Fx.blt_lstT, hd, hg2, hg3, c1, c2, p2, g2]
    refine sat_al fun x h4 hE4 hg4 _ => ?_
    replace hd := Fx.Ext.get hE4 hd; replace hg2 := Fx.Ext.get hE4 hg2; replace g2 := Fx.Ext.get hE4 g2; replace hg3 := Fx.Ext.get hE4 hg3
    try simp [-Fx.alloc_def, -Fx.blt_lstT, hd, hg2, hg3, hg4, show l0.length + 1 ≤ 16777216 by omega, c2, p2, g2]
    refine sat_al fun r2 h5 hE5 hg5 _ => ?_
    replace hd := Fx.Ext.get hE5 hd; replace hg2 := Fx.Ext.get hE5 hg2; replace g2 := Fx.Ext.get hE5 g2
    try simp [-Fx.alloc_def, -Fx.blt_lstT, hd, hg2, hg5, show l0.length + 1 + l2.length ≤ 16777216 by omega, c2, p2, g2]
    refine sat_al fun r3 h6 hE6 hg6 _ => ?_
    try simp [-Fx.alloc_def, -Fx.blt_lstT, hg6]
    have := hQ (l0 ++ [97 + d1 % 26] ++ l2) h6 (((hE.trans hE4).trans hE5).trans hE6) (by have := (i0.app c26).app i2; exact ⟨Nat.le_trans this.1 (by omega), this.2⟩)
    simpa using this
  · try simp [-Fx.alloc_def, -Fx.blt_lstT, hd, hg2, hg3, c1, c2, p2, g2]
    refine sat_al fun x h4 hE4 hg4 _ => ?_
    replace hd := Fx.Ext.get hE4 hd; replace hg2 := Fx.Ext.get hE4 hg2; replace g2 := Fx.Ext.get hE4 g2; replace hg3 := Fx.Ext.get hE4 hg3
    try simp [-Fx.alloc_def, -Fx.blt_lstT, hd, hg2, hg3, hg4, show l0.length + 1 ≤ 16777216 by omega, c2, p2, g2]
    refine sat_al fun r2 h5 hE5 hg5 _ => ?_
    replace hd := Fx.Ext.get hE5 hd; replace hg2 := Fx.Ext.get hE5 hg2; replace g2 := Fx.Ext.get hE5 g2
    try simp [-Fx.alloc_def, -Fx.blt_lstT, hd, hg2, hg5, c2, p2, g2]
    have := hQ (l0 ++ [97 + d1 % 26]) h5 ((hE.trans hE4).trans hE5) (by have := (i0.app c26); exact ⟨Nat.le_trans this.1 (by omega), this.2⟩)
    simpa using this
  · try simp [-Fx.alloc_def, -Fx.blt_lstT, hd, hg2, hg3, c1, c2, p2, g2, show l0.length + l2.length ≤ 16777216 by omega]
    refine sat_al fun x h4 hE4 hg4 _ => ?_
    try simp [-Fx.alloc_def, -Fx.blt_lstT, hg4]
    have := hQ (l0 ++ l2) h4 (hE.trans hE4) (by have := (i0.app i2); exact ⟨Nat.le_trans this.1 (by omega), this.2⟩)
    simpa using this
  · try simp [-Fx.alloc_def, -Fx.blt_lstT, hd, hg2, hg3, c1, c2, p2, g2]
    exact hQ l0 h3 hE ⟨Nat.le_trans i0.1 (by omega), i0.2⟩
end Lw

namespace Lw
open Fx PySem L2
theorem wanted_at (x y : Int) (hy : 0 ≤ y ∧ y ≤ 255) : ∃ w, atI [.non, .int 97, .int 98, .int 13, .int 127, .int 27, .int y] (x % 7) = some (wV w) ∧ ∀ c, w = some c → 0 ≤ c ∧ c ≤ 255 := by
  have : x % 7 = 0 ∨ x % 7 = 1 ∨ x % 7 = 2 ∨ x % 7 = 3 ∨ x % 7 = 4 ∨ x % 7 = 5 ∨ x % 7 = 6 := by omega
  rcases this with e | e | e | e | e | e | e <;> rw [e]
  · exact ⟨none, by simp [wV], fun c e => by cases e⟩
  · exact ⟨some 97, by simp [wV], fun c e => by cases e; omega⟩
  · exact ⟨some 98, by simp [wV], fun c e => by cases e; omega⟩
  · exact ⟨some 13, by simp [wV], fun c e => by cases e; omega⟩
  · exact ⟨some 127, by simp [wV], fun c e => by cases e; omega⟩
  · exact ⟨some 27, by simp [wV], fun c e => by cases e; omega⟩
  · exact ⟨some y, by simp [wV], fun c e => by cases e; omega⟩
theorem seven {l : List Int} (h : l.length = 7) : ∃ a b c d e f g, l = [a, b, c, d, e, f, g] := by
  match l, h with
  | [a, b, c, d, e, f, g], _ => exact ⟨a, b, c, d, e, f, g, rfl⟩
theorem rules_spec (k : Nat) (c : Int) (h : PH) {Q : PV → PH → Prop} {E : XP} (hQ : ∀ (rs : List Rl) (a : Nat) (h' : PH), (∀ r ∈ rs, r.Ok) → rs.length ≤ 20 → Ext h h' → h.n ≤ a → h'.get a = some (.lst (rs.map Rl.v)) → Q (.ref a) h') :
    (run D.pg (k + 4) 15 [.int c] h).sat Q E := by
  refine sat_run (k := k + 2) fn15 rfl ?_
  obtain ⟨h1, e1, hE, hn, hd⟩ := draws_spec (k := k + 1) fn5 c 60 (by omega) h
  have hlen := drawsF_len c 60
  generalize drawsF c 60 = ds at hd hlen
  try simp [-Fx.alloc_def, -Fx.blt_lstT, b__law_rules]
  refine sat_of e1 ?_
  have hne : h.n < h1.n := hn
  have hfr : h.n ≤ h.n := Nat.le_refl _
  clear e1
  generalize hdd : h.n = d at hd hne hfr
  rw [← hdd] at hfr
  clear hn
  try simp [-Fx.alloc_def, -Fx.blt_lstT]
  refine sat_al fun q h2 hE2 hg2 hq => ?_
  replace hd := Fx.Ext.get hE2 hd
  replace hE := hE.trans hE2
  have hqd : d ≠ q := by omega
  have hqh : h.n ≤ q := by omega
  clear hE2 hne hq
  obtain ⟨d0, _, a0⟩ := atI_ints (l := ds) (i := 0) (by omega) (by omega)
  obtain ⟨d57, _, a57⟩ := atI_ints (l := ds) (i := 57) (by omega) (by omega)
  obtain ⟨d58, _, a58⟩ := atI_ints (l := ds) (i := 58) (by omega) (by omega)
  have m0 := Int.emod_nonneg d0 (show (8 : Int) ≠ 0 by decide)
  have m1 := Int.emod_lt_of_pos d0 (show (0 : Int) < 8 by decide)
  have hin : inR (d0 % 8) = true := by simp [inR]; omega
  try simp [-Fx.alloc_def, -Fx.blt_lstT, hd, a0, hin]
  refine sat_vals (fun i σ h3 => Ext h h3 ∧ h3.get d = some (.lst (ds.map .int)) ∧ ∃ (rs : List Rl) (x3 x4 x5 : Option PV), rs.length = i ∧ (∀ r ∈ rs, r.Ok) ∧ h3.get q = some (.lst (rs.map Rl.v)) ∧ σ = [some (.int c), some (.ref d), some (.ref q), x3, x4, x5])
    ⟨hE, hd, [], _, _, _, rfl, fun r hr => (by cases hr), hg2, rfl⟩ (fun i x σ h3 hx ⟨hE, hd, rs, x3, x4, x5, hrl, ho, hg, hs⟩ => ?_) (fun σ h3 ⟨hE, hd, rs, x3, x4, x5, hrl, ho, hg, hs⟩ => ?_) (by simp)
  · subst hs
    obtain ⟨rfl, hi⟩ := rngV_get hx
    have hi7 : i < 7 := by omega
    have cut := cut_nat (ds.map PV.int) (a := 1 + 7 * i) (b := 8 + 7 * i) (by omega) (by rw [List.length_map]; omega)
    rw [← List.map_drop, ← List.map_take, show 8 + 7 * i - (1 + 7 * i) = 7 by omega] at cut
    have hl7 : ((ds.drop (1 + 7 * i)).take 7).length = 7 := by rw [List.length_take, List.length_drop]; omega
    obtain ⟨p0, p1, p2, p3, p4, p5, p6, ep⟩ := seven hl7
    rw [ep] at cut
    rw [show ((1 + 7 * i : Nat) : Int) = 1 + 7 * (i : Int) by omega, show ((8 + 7 * i : Nat) : Int) = 8 + 7 * (i : Int) by omega] at cut
    try simp [-Fx.alloc_def, -Fx.blt_lstT, b__law_rules_L1, hd, cut]
    refine sat_al fun p h4 hE4 hp hp4 => ?_
    have hpq : h4.get q = _ := hE4.get hg
    replace hd := Fx.Ext.get hE4 hd
    replace hE := hE.trans hE4
    obtain ⟨w, aw, hw⟩ := wanted_at p1 (32 + p1 % 200) (by
      have m0 := Int.emod_nonneg p1 (show (200 : Int) ≠ 0 by decide)
      have m1 := Int.emod_lt_of_pos p1 (show (0 : Int) < 200 by decide)
      omega)
    try simp [-Fx.alloc_def, -Fx.blt_lstT, hp]
    refine sat_al fun t h5 hE5 ht ht5 => ?_
    replace hd := Fx.Ext.get hE5 hd; replace hp := Fx.Ext.get hE5 hp; replace hpq := Fx.Ext.get hE5 hpq
    replace hE := hE.trans hE5
    try simp [-Fx.alloc_def, -Fx.blt_lstT, hp, ht, aw, hpq]
    refine answer_spec (k + 1) (dl := [p0, p1, p2, p3, p4, p5, p6]) hp rfl fun l h6 hE6 hl => ?_
    replace hd := Fx.Ext.get hE6 hd; replace hpq := Fx.Ext.get hE6 hpq
    replace hE := hE.trans hE6
    try simp [-Fx.alloc_def, -Fx.blt_lstT, hpq]
    have q0 := Int.emod_nonneg p0 (show (3 : Int) ≠ 0 by decide)
    have q1 := Int.emod_lt_of_pos p0 (show (0 : Int) < 3 by decide)
    have q2 := Int.emod_nonneg p2 (show (3 : Int) ≠ 0 by decide)
    have q3 := Int.emod_lt_of_pos p2 (show (0 : Int) < 3 by decide)
    have ok : Rl.Ok ⟨p0 % 3, w, p2 % 3, l⟩ := ⟨by simp only; omega, hw, by simp only; omega, hl.1, hl.2⟩
    simp [show rs.length < 16777216 by omega]
    refine ⟨(ExtBut.set h6 q _).ext hE hqh, ExtBut.get (ExtBut.set h6 q _) hqd hd, rs ++ [⟨p0 % 3, w, p2 % 3, l⟩], by simp [hrl], fun r hr => ?_, ?_⟩
    · rcases List.mem_append.mp hr with hr | hr
      · exact ho r hr
      · rw [List.mem_singleton.mp hr]; exact ok
    · rw [PH.get_set_same hpq, List.map_append]
      rfl
  · subst hs
    have o1 : Rl.Ok ⟨0, none, 0, [256]⟩ := ⟨by decide, (fun c e => by cases e), by decide, by decide, by decide⟩
    have o2 : Rl.Ok ⟨1, none, 0, [256]⟩ := ⟨by decide, (fun c e => by cases e), by decide, by decide, by decide⟩
    have hrl2 : rs.length ≤ 8 := by rw [hrl]; simp; omega
    have one : ∀ (rs : List Rl) (r : Rl), r.Ok → (∀ r ∈ rs, r.Ok) → ∀ x ∈ rs ++ [r], x.Ok := fun rs r o ho x hx => by
      rcases List.mem_append.mp hx with hx | hx
      · exact ho x hx
      · rw [List.mem_singleton.mp hx]; exact o
    have fin : ∀ (rs : List Rl) (h3 : PH) (x3 x4 x5 : Option PV), Ext h h3 → h3.get d = some (.lst (ds.map .int)) → (∀ r ∈ rs, r.Ok) → rs.length ≤ 9 → h3.get q = some (.lst (rs.map Rl.v)) →
        (xss D.pg (run D.pg (k + 3)) (run D.pg (k + 2)) (tailS (tailS (tailS (tailS b__law_rules)))) [some (.int c), some (.ref d), some (.ref q), x3, x4, x5] h3).sat (fQ Q E) := fun rs h3 x3 x4 x5 hE hd ho hl hg => by
      by_cases c2 : d58 % 2 = 0
      · simp [tailS, b__law_rules, hd, a58, c2, hg, show rs.length < 16777216 by omega]
        refine hQ (rs ++ [⟨1, none, 0, [256]⟩]) q _ (one rs _ o2 ho) (by simp; omega) ((ExtBut.set h3 q _).ext hE hqh) hqh ?_
        rw [PH.get_set_same hg, List.map_append]
        rfl
      · simp [tailS, b__law_rules, hd, a58, c2, hg]
        exact hQ rs q _ ho (by omega) hE hqh hg
    generalize hT : tailS (tailS (tailS (tailS b__law_rules))) = T at fin
    have eb : (fun s : Sl => fun h : PH => xss D.pg (run D.pg (k + 3)) (run D.pg (k + 2)) (tailS (tailS (tailS b__law_rules))) s h) = (fun s : Sl => fun h : PH => xss D.pg (run D.pg (k + 3)) (run D.pg (k + 2)) (tailS (tailS (tailS b__law_rules))) s h) := rfl
    show (xss D.pg (run D.pg (k + 3)) (run D.pg (k + 2)) (.cons (.ite (.cmp .gt (.bin .mod (.blt .int (.cons (.idx (.var 1) (.cst (.int 57))) .nil)) (.cst (.int 4))) (.cst (.int 0))) (.cons (.expr (.lm .append (.var 2) (.cons (.tup (.cons (.cst (.int 0)) (.cons (.cst .non) (.cons (.cst (.int 0)) (.cons (.tup (.cons (.cst (.int 256)) .nil)) .nil))))) .nil))) .nil) .nil) (tailS (tailS (tailS (tailS b__law_rules))))) _ _).sat _
    rw [hT]
    clear eb hT
    by_cases c1 : 0 < d57 % 4
    · try simp [-Fx.alloc_def, -Fx.blt_lstT, hd, a57, c1, hg, show rs.length < 16777216 by omega]
      refine fin (rs ++ [⟨0, none, 0, [256]⟩]) _ _ _ _ ((ExtBut.set h3 q _).ext hE hqh) (ExtBut.get (ExtBut.set h3 q _) hqd hd) (one rs _ o1 ho) (by simp; omega) ?_
      rw [PH.get_set_same hg, List.map_append]
      rfl
    · try simp [-Fx.alloc_def, -Fx.blt_lstT, hd, a57, c1, hg]
      exact fin rs h3 _ _ _ hE hd ho (by omega) hg
end Lw

namespace Lw
open Fx PySem L2
theorem ini2 : D.pg.ini 2 = some 20 := rfl
theorem mt20 : D.pg.mt 2 0 = some 21 := rfl
theorem s00 : D.pg.sub 0 0 = some true := rfl
theorem s01 : D.pg.sub 0 1 = some false := rfl
theorem Lf.ext {h h' : PH} (x : Ext h h') {v : PV} (l : Lf h v) : Lf h' v := by
  cases v with
  | ref a => obtain ⟨l, e⟩ := l; exact ⟨l, x.get e⟩
  | _ => trivial
theorem Lf2.ext {h h' : PH} (x : Ext h h') {v : PV} (l : Lf2 h v) : Lf2 h' v := ⟨l.1.ext x, fun r e y hy => (l.2 r e y hy).ext x⟩
theorem Lf3.ext {h h' : PH} (x : Ext h h') {v : PV} (l : Lf3 h v) : Lf3 h' v := ⟨l.1.ext x, fun r e y hy => (l.2 r e y hy).ext x⟩
theorem prog_spec (k : Nat) {v : PV} {h : PH} {rs : List Rl} (e : seqOf h v = some (rs.map Rl.v)) (ho : ∀ r ∈ rs, r.Ok) (hl : rs.length ≤ 40) {Q : PV → PH → Prop} {E : XP} (hQ : ∀ p h', Ext h h' → h.n ≤ p → h'.get p = some (.ins 2 [(1, .tup (rs.map Rl.v))]) → Q (.ref p) h') :
    (mkObj D.pg (run D.pg (k + 5)) 2 [v] h).sat Q E := by
  refine sat_mk ini2 ?_
  have x := Ext.new h (.ins 2 [])
  have g : (h.new (.ins 2 [])).get h.n = some (.ins 2 []) := PH.get_new_same
  have a1 : (rs.map Rl.v).all ruleB = true := by
    rw [List.all_map, List.all_eq_true]
    exact fun r hr => Rl.ruleB (ho r hr)
  rw [init_spec k g (seqOf_ext x e) fun y hy => by obtain ⟨r, _, rfl⟩ := List.mem_map.mp hy; exact r.lf _, if_pos ⟨by rw [List.length_map]; exact hl, a1⟩]
  exact hQ h.n _ ((ExtBut.set _ h.n _).ext x (Nat.le_refl _)) (Nat.le_refl _) (PH.get_set_same g)
theorem refused_spec (k : Nat) {v : PV} {h : PH} {l : List PV} (e : seqOf h v = some l) (hl : ∀ x ∈ l, Lf3 h x) (no : ¬ (l.length ≤ 40 ∧ l.all ruleB = true)) {Q : PV → PH → Prop} {E : XP} (hQ : ∀ h', Ext h h' → Q (.bl true) h') :
    (run D.pg (k + 7) 16 [v] h).sat Q E := by
  refine sat_run (k := k + 5) fn16 rfl ?_
  try simp [-Fx.alloc_def, -Fx.blt_lstT, b__law_refused]
  refine sat_mk ini2 ?_
  have x := Ext.new h (.ins 2 [])
  have g : (h.new (.ins 2 [])).get h.n = some (.ins 2 []) := PH.get_new_same
  rw [init_spec k g (seqOf_ext x e) fun y hy => (hl y hy).ext x, if_neg no]
  simp [handle, hsuite, evh, s00, s01, List.lookup, eqS]
  exact hQ _ x
theorem bad_spec (k : Nat) (n : Int) (h : PH) {Q : PV → PH → Prop} {E : XP} (hQ : ∀ x h', Ext h h' → Lf3 h' x → ruleB x = false → Q x h') :
    (run D.pg (k + 2) 17 [.int n] h).sat Q E := by
  refine sat_run fn17 rfl ?_
  try simp [-Fx.alloc_def, -Fx.blt_lstT, b__law_bad]
  refine sat_al fun a h1 hE1 ga ha => ?_
  try simp [-Fx.alloc_def, -Fx.blt_lstT]
  refine sat_al fun b h2 hE2 gb hb => ?_
  replace ga := Fx.Ext.get hE2 ga
  have hb31 : ∀ x ∈ rngV 0 31, cBody [2] (.name 2) (evt D.pg (run D.pg (k + 1)) (run D.pg k) .none) (ev D.pg (run D.pg (k + 1)) (run D.pg k) e__law_bad_C1) [some (.int n), none, none] x h2 = .ok (some ((fun _ => PV.int 1) x)) h2 := fun x hx => by
    simp [cBody, e__law_bad_C1]
  have e31 := loopC_map hb31 (by rw [rngV_length, LINE_val]; decide)
  rw [rngV_length] at e31
  have in31 : inR 31 = true := by decide
  try simp [-Fx.alloc_def, -Fx.blt_lstT, in31]
  refine sat_of e31 ?_
  try simp [-Fx.alloc_def, -Fx.blt_lstT]
  refine sat_al fun c h3 hE3 gc hc => ?_
  replace ga := Fx.Ext.get hE3 ga; replace gb := Fx.Ext.get hE3 gb
  try simp [-Fx.alloc_def, -Fx.blt_lstT, gc]
  refine sat_al fun d h4 hE4 gd hd => ?_
  replace ga := Fx.Ext.get hE4 ga; replace gb := Fx.Ext.get hE4 gb
  have hE := ((hE1.trans hE2).trans hE3).trans hE4
  clear hE1 hE2 hE3 hE4 gc e31 hb31
  try simp [-Fx.alloc_def, -Fx.blt_lstT, gd]
  have m : n % 13 = 0 ∨ n % 13 = 1 ∨ n % 13 = 2 ∨ n % 13 = 3 ∨ n % 13 = 4 ∨ n % 13 = 5 ∨ n % 13 = 6 ∨ n % 13 = 7 ∨ n % 13 = 8 ∨ n % 13 = 9 ∨ n % 13 = 10 ∨ n % 13 = 11 ∨ n % 13 = 12 := by omega
  have flat4 : ∀ l : List PV, (∀ x ∈ l, Lf2 h4 x) → Lf3 h4 (.tup l) := fun l hl => ⟨trivial, fun l' e => by cases e; exact hl⟩
  have li : ∀ i : Int, Lf2 h4 (.int i) := fun i => ⟨trivial, fun l e => by cases e⟩
  have lb : ∀ i : Bool, Lf2 h4 (.bl i) := fun i => ⟨trivial, fun l e => by cases e⟩
  have lt : ∀ l : List Int, Lf2 h4 (.tup (l.map .int)) := fun l => ⟨trivial, fun l' e x hx => by cases e; obtain ⟨i, _, rfl⟩ := mem_ints hx; trivial⟩
  have lt0 := lt []
  have lt257 := lt [257]
  have lr : Lf2 h4 (.ref a) := ⟨⟨_, ga⟩, fun l e => by cases e⟩
  have ls : ∀ x : Str, Lf2 h4 (.str x) := fun x => ⟨trivial, fun l e => by cases e⟩
  simp at lt0 lt257
  rcases m with m | m | m | m | m | m | m | m | m | m | m | m | m <;> simp [m]
  · exact hQ _ _ hE (flat4 _ (by simp [li, lt0])) (by simp [ruleB, isNum])
  · exact hQ _ _ hE (flat4 _ (by simp [li, lt0])) (by simp [ruleB, isNum])
  · exact hQ _ _ hE (flat4 _ (by simp [li, lt0])) (by simp [ruleB, isNum])
  · exact hQ _ _ hE (flat4 _ (by simp [li, lt257])) (by simp [ruleB, isNum, ansB])
  · exact hQ _ _ hE (flat4 _ (by simp [li, lr])) (by simp [ruleB, isNum, ansB])
  · exact hQ _ _ hE (flat4 _ (by simp [li, lb, lt0])) (by simp [ruleB, isNum])
  · exact hQ _ _ hE (flat4 _ (by simp [li])) (by simp [ruleB])
  · exact hQ _ _ hE ⟨⟨_, gb⟩, fun l e => by cases e⟩ (by simp [ruleB])
  · exact hQ _ _ hE (flat4 _ (by simp [li, lt0])) (by simp [ruleB])
  · exact hQ _ _ hE (flat4 _ (by simp [li, ls, lt0])) (by simp [ruleB, isNum])
  · exact hQ _ _ hE (flat4 _ (by simp [li, lt0])) (by simp [ruleB, isNum])
  · have l31 : Lf2 h4 (.tup ((rngV 0 31).map fun _ => .int 1)) := ⟨trivial, fun l e x hx => by cases e; obtain ⟨_, _, rfl⟩ := List.mem_map.mp hx; trivial⟩
    exact hQ _ _ hE (flat4 _ (by intro x hx; simp at hx; rcases hx with rfl | rfl | rfl | rfl; exact li _; exact li _; exact li _; simpa using l31)) (by simp [ruleB, isNum, ansB])
  · exact hQ _ _ hE ⟨trivial, fun l e => by cases e⟩ (by simp [ruleB])
theorem cell_spec (k : Nat) {s : Nat} {ns : List Int} (i : Nat) {h : PH} (hs : h.get s = some (.rol (ns.map .int))) {Q : PV → PH → Prop} {E : XP} (hQ : ∀ c, Q (.int c) h) : (run D.pg (k + 2) 13 [.ref s, .int i] h).sat Q E := by
  refine sat_run fn13 rfl ?_
  by_cases hl : i < ns.length
  · obtain ⟨c, _, e⟩ := atI_ints (l := ns) (i := i) (by omega) (by omega)
    simp [b__law_cell, hs, hl, e, hQ]
  · simp [b__law_cell, hs, hl, hQ]
end Lw

namespace Lw
open Fx PySem L2
theorem sm_told {h : PH} {i : Int} {a b : Nat} {l : List Int} (e1 : h.get a = some (.lst (l.map .int))) (e2 : h.get b = some (.lst (l.map .int))) (hl : l.length < 1000000) : Sm h 2 (.tup [.int i, .ref a]) (.tup [.int i, .ref b]) := by
  refine .tup rfl (by simp) fun j x y h1 h2 => ?_
  match j, h1, h2 with
  | 0, h1, h2 => cases h1; cases h2; exact .int _ _
  | 1, h1, h2 =>
    cases h1; cases h2
    refine .lst e1 e2 rfl (by simpa using hl) fun j x y h1 h2 => ?_
    rw [h1] at h2
    cases h2
    obtain ⟨z, _, rfl⟩ := mem_ints (List.mem_of_getElem? h1)
    exact .int _ _
theorem same_told (k : Nat) {h : PH} {i : Int} {a b : Nat} {l : List Int} (e1 : h.get a = some (.lst (l.map .int))) (e2 : h.get b = some (.lst (l.map .int))) (hl : l.length < 1000000) : run D.pg (k + 4) 6 [.tup [.int i, .ref a], .tup [.int i, .ref b]] h = .ok (.bl true) h :=
  same_spec (d := 2) fn6 (sm_told e1 e2 hl) k
theorem readF_len {s c : Int} : ∀ {rs : List Rl}, (∀ r ∈ rs, r.Ok) → (readF s c rs).2.length ≤ 30
  | [], _ => by simp [readF]
  | r :: rs, ho => by
    unfold readF
    split
    · have := (ho r List.mem_cons_self).n
      simpa [subst] using this
    · exact readF_len fun r hr => ho r (List.mem_cons_of_mem _ hr)
theorem char_at (x c : Int) : ∃ y, atI [PV.int 97, .int 98, .int 13, .int 127, .int 27, .int c] (x % 6) = some (.int y) := by
  have : x % 6 = 0 ∨ x % 6 = 1 ∨ x % 6 = 2 ∨ x % 6 = 3 ∨ x % 6 = 4 ∨ x % 6 = 5 := by omega
  rcases this with e | e | e | e | e | e <;> rw [e]
  · exact ⟨97, by simp⟩
  · exact ⟨98, by simp⟩
  · exact ⟨13, by simp⟩
  · exact ⟨127, by simp⟩
  · exact ⟨27, by simp⟩
  · exact ⟨c, by simp⟩
/-- one turn of the law's loop -/
theorem turn (k : Nat) {rs : List Rl} (ho : ∀ r ∈ rs, r.Ok) (hl : rs.length ≤ 20) {a p : Nat} (c : Int) (x0 x2 x5 x6 x7 x8 x9 x10 x11 x12 x13 : Option PV) {h : PH} (ha : h.get a = some (.lst (rs.map Rl.v))) (hp : h.get p = some (.ins 2 [(1, .tup (rs.map Rl.v))])) {T : SQ}
    (hT : ∀ h' y5 y6 y7 y8 y9 y10, Ext h h' → T.N [x0, some (.ref a), x2, some (.ref p), some (.int c), y5, y6, y7, y8, y9, y10, x11, x12, x13] h') :
    (xss D.pg (run D.pg (k + 9)) (run D.pg (k + 8)) b_law_L2 [x0, some (.ref a), x2, some (.ref p), some (.int c), x5, x6, x7, x8, x9, x10, x11, x12, x13] h).sat T := by
  obtain ⟨h1, e1, hE, hn, hd⟩ := draws_spec (k := k + 7) fn5 c 4 (by omega) h
  have hlen := drawsF_len c 4
  generalize drawsF c 4 = ds at hd hlen
  try simp [-Fx.alloc_def, -Fx.blt_lstT, b_law_L2]
  refine sat_of e1 ?_
  clear e1
  replace ha := Fx.Ext.get hE ha; replace hp := Fx.Ext.get hE hp
  generalize h.n = d at hd hn
  obtain ⟨d0, _, a0⟩ := atI_ints (l := ds) (i := 0) (by omega) (by omega)
  obtain ⟨d1, _, a1⟩ := atI_ints (l := ds) (i := 1) (by omega) (by omega)
  obtain ⟨d2, _, a2⟩ := atI_ints (l := ds) (i := 2) (by omega) (by omega)
  obtain ⟨d3, _, a3⟩ := atI_ints (l := ds) (i := 3) (by omega) (by omega)
  try simp [-Fx.alloc_def, -Fx.blt_lstT, hd, a0]
  refine sat_al fun b h2 hE2 gb _ => ?_
  replace ha := Fx.Ext.get hE2 ha; replace hp := Fx.Ext.get hE2 hp; replace hd := Fx.Ext.get hE2 hd
  replace hE := hE.trans hE2
  clear hE2
  obtain ⟨ch, ech⟩ := char_at d1 (c % 256)
  have in2 : inR 2 = true := by decide
  try simp [-Fx.alloc_def, -Fx.blt_lstT, hd, a1, gb, ech, in2]
  refine sat_vals (fun i σ h3 => Ext h h3 ∧ h3.get a = some (.lst (rs.map Rl.v)) ∧ h3.get p = some (.ins 2 [(1, .tup (rs.map Rl.v))]) ∧ h3.get d = some (.lst (ds.map .int)) ∧ ∃ x8 x9, σ = [x0, some (.ref a), x2, some (.ref p), some (.int c), some (.ref d), some (.int (d0 % 5)), some (.int ch), x8, x9, x10, x11, x12, x13]) ⟨hE, ha, hp, hd, _, _, rfl⟩
    (fun i x σ h3 hx ⟨hE, ha, hp, hd, x8, x9, hs⟩ => ?_) (fun σ h3 ⟨hE, ha, hp, hd, x8, x9, hs⟩ => ?_) (by simp)
  · subst hs
    try simp [-Fx.alloc_def, -Fx.blt_lstT, b_law_L1, hp, mt20]
    refine read_spec (k + 7) ho hp _ _ fun h4 t ht hE4 gt => ?_
    have nt1 : a ≠ t := by have := PH.get_lt ha; omega
    have nt2 : p ≠ t := by have := PH.get_lt hp; omega
    have nt3 : d ≠ t := by have := PH.get_lt hd; omega
    have hht : h.n ≤ t := Nat.le_trans hE.n ht
    replace ha := Fx.Ext.get hE4 ha; replace hp := Fx.Ext.get hE4 hp; replace hd := Fx.Ext.get hE4 hd
    replace hE := hE.trans hE4
    try simp [-Fx.alloc_def, -Fx.blt_lstT]
    refine due_spec (k + 7) ho ha _ _ fun h5 u hu hE5 gu => ?_
    replace ha := Fx.Ext.get hE5 ha; replace hp := Fx.Ext.get hE5 hp; replace hd := Fx.Ext.get hE5 hd; replace gt := Fx.Ext.get hE5 gt
    replace hE := hE.trans hE5
    try simp [-Fx.alloc_def, -Fx.blt_lstT]
    have st := same_told (k + 5) (i := (readF (d0 % 5) ch rs).1) gt gu (by have := readF_len (s := d0 % 5) (c := ch) ho; omega)
    rw [show k + 5 + 4 = k + 9 by omega] at st
    rw [st]
    have lr : (readF (d0 % 5) ch rs).2.length < 16777216 := by have := readF_len (s := d0 % 5) (c := ch) ho; omega
    simp [gt, lr]
    have xb : ∀ o, Ext h (h5.set t o) ∧ (h5.set t o).get a = some (.lst (rs.map Rl.v)) ∧ (h5.set t o).get p = some (.ins 2 [(1, .tup (rs.map Rl.v))]) ∧ (h5.set t o).get d = some (.lst (ds.map .int)) := fun o => ⟨(ExtBut.set h5 t o).ext hE hht, (ExtBut.set h5 t o).get nt1 ha, (ExtBut.set h5 t o).get nt2 hp, (ExtBut.set h5 t o).get nt3 hd⟩
    exact xb _
  · subst hs
    have n0 := Int.emod_nonneg d2 (show ((rs.length : Int) + 1) ≠ 0 by omega)
    have n1 := Int.emod_lt_of_pos d2 (show (0 : Int) < (rs.length : Int) + 1 by omega)
    obtain ⟨m, hm⟩ := Int.eq_ofNat_of_zero_le n0
    rw [hm] at n1
    have hm' : m ≤ (rs.map Rl.v).length := by rw [List.length_map]; omega
    try simp [-Fx.alloc_def, -Fx.blt_lstT, ha, hd, a2, show (0 : Int) < (rs.length : Int) + 1 by omega, hm, cut_to _ hm', cut_from _ hm']
    refine sat_al fun y h4 hE4 gy _ => ?_
    replace ha := Fx.Ext.get hE4 ha; replace hd := Fx.Ext.get hE4 hd
    replace hE := hE.trans hE4
    try simp [-Fx.alloc_def, -Fx.blt_lstT, hd, a3]
    refine bad_spec (k + 7) d3 h4 fun z h5 hE5 lz bz => ?_
    replace ha := Fx.Ext.get hE5 ha; replace gy := Fx.Ext.get hE5 gy
    replace hE := hE.trans hE5
    try simp [-Fx.alloc_def, -Fx.blt_lstT]
    refine sat_al fun q h6 hE6 gq _ => ?_
    replace ha := Fx.Ext.get hE6 ha; replace gy := Fx.Ext.get hE6 gy
    replace hE := hE.trans hE6
    replace lz := lz.ext hE6
    try simp [-Fx.alloc_def, -Fx.blt_lstT, gy, gq, show min m rs.length + 1 ≤ 16777216 by omega]
    refine sat_al fun q2 h7 hE7 gq2 _ => ?_
    replace ha := Fx.Ext.get hE7 ha
    replace hE := hE.trans hE7
    replace lz := lz.ext hE7
    try simp [-Fx.alloc_def, -Fx.blt_lstT, ha, cut_to _ hm', cut_from _ hm']
    refine sat_al fun q3 h8 hE8 gq3 _ => ?_
    replace gq2 := Fx.Ext.get hE8 gq2
    replace hE := hE.trans hE8
    replace lz := lz.ext hE8
    try simp [-Fx.alloc_def, -Fx.blt_lstT, gq2, gq3, show min m rs.length + 1 + (rs.length - m) ≤ 16777216 by omega]
    refine sat_al fun q4 h9 hE9 gq4 _ => ?_
    replace hE := hE.trans hE9
    replace lz := lz.ext hE9
    try simp [-Fx.alloc_def, -Fx.blt_lstT]
    refine refused_spec (k + 2) (seqOf_lst gq4) (fun x hx => ?_) (fun ⟨_, h2⟩ => ?_) fun h10 hE10 => ?_
    · simp at hx
      have rl : ∀ r : Rl, Lf3 h9 r.v := fun r => r.lf h9
      rcases hx with hx | rfl | hx
      · obtain ⟨r, _, rfl⟩ := List.mem_map.mp (List.mem_of_mem_take hx); exact rl r
      · exact lz
      · obtain ⟨r, _, rfl⟩ := List.mem_map.mp (List.mem_of_mem_drop hx); exact rl r
    · simp [bz] at h2
    · simp
      exact hT _ _ _ _ _ _ _ (hE.trans hE10)
end Lw

namespace Lw
open Fx PySem L2
theorem rng_const (n : Nat) (i : Int) : (rngV 0 (n : Int)).map (fun _ => PV.int i) = (List.replicate n i).map .int := by
  rw [List.map_const', rngV_length]
  simp
theorem const_loop {e : E} {rc rm : Rn} {j : Nat} {i : Int} (n : Nat) (m : Int) (hm : m = n) (he : e = .cst (.int i)) (hn : n ≤ LINE) (σ : Sl) (h : PH) : loopC (cBody [j] (.name j) (evt D.pg rc rm .none) (ev D.pg rc rm e) σ) (.vals (rngV 0 m)) n 0 [] h = .ok ((List.replicate n i).map .int) h := by
  subst hm
  have hb : ∀ x ∈ rngV 0 (n : Int), cBody [j] (.name j) (evt D.pg rc rm .none) (ev D.pg rc rm e) σ x h = .ok (some ((fun _ => PV.int i) x)) h := fun x hx => by
    simp [cBody, he]
  have e31 := loopC_map hb (by rw [rngV_length]; simpa using hn)
  rw [rngV_length, rng_const, show ((n : Int) - 0).toNat = n by omega] at e31
  exact e31
def manyR : Rl := ⟨0, some 1, 9, List.replicate 30 256⟩
theorem many_ok : manyR.Ok := ⟨by decide, fun c e => by cases e; decide, by decide, by decide, by decide⟩
theorem law_ok (ns : List Int) (hl : ns.length ≤ 63) : ∃ h', run D.pg 40 9 [.ref 0] (scriptH ns) = .ok (.bl true) h' := by
  suffices hs : (run D.pg 40 9 [.ref 0] (scriptH ns)).sat (fun v h => v = .bl true) nE by
    obtain ⟨v, h', e, q⟩ := hs.get
    exact ⟨h', by rw [e, q]⟩
  refine sat_run (k := 38) fn9 rfl ?_
  have g0 : (scriptH ns).get 0 = some (.rol (ns.map .int)) := rfl
  have hn0 : (scriptH ns).n = 1 := rfl
  generalize scriptH ns = h0 at g0 hn0
  try simp [-Fx.alloc_def, -Fx.blt_lstT, b_law]
  refine cell_spec 37 0 g0 fun c => ?_
  try simp [-Fx.alloc_def, -Fx.blt_lstT]
  refine rules_spec 35 c h0 fun rs a h1 ho hrl hE ha ga => ?_
  replace g0 := Fx.Ext.get hE g0
  have la := PH.get_lt ga
  have l0 := PH.get_lt g0
  try simp [-Fx.alloc_def, -Fx.blt_lstT, ga]
  refine sat_al fun b h2 hE2 gb hb => ?_
  replace g0 := Fx.Ext.get hE2 g0; replace ga := Fx.Ext.get hE2 ga
  try simp [-Fx.alloc_def, -Fx.blt_lstT]
  refine prog_spec 33 (seqOf_lst gb) ho (by omega) fun p h3 hE3 hp gp => ?_
  have hbp : b < p := by have := PH.get_lt gb; omega
  have hab : a ≠ b := by omega
  have h0b : 0 ≠ b := by omega
  replace g0 := Fx.Ext.get hE3 g0; replace ga := Fx.Ext.get hE3 ga; replace gb := Fx.Ext.get hE3 gb
  try simp [-Fx.alloc_def, -Fx.blt_lstT, gb, show rs.length < 16777216 by omega]
  refine sat_al fun q h4 hE4 gq hq => ?_
  replace g0 := hE4.get ((ExtBut.set h3 b _).get h0b g0)
  replace ga := hE4.get ((ExtBut.set h3 b _).get hab ga)
  replace gp := hE4.get ((ExtBut.set h3 b _).get (by omega) gp)
  clear hE4 hE3 hE2 hE gb
  try simp [-Fx.alloc_def, -Fx.blt_lstT, g0]
  refine sat_al fun r h5 hE5 gr hr => ?_
  replace g0 := Fx.Ext.get hE5 g0; replace ga := Fx.Ext.get hE5 ga; replace gp := Fx.Ext.get hE5 gp; replace gq := Fx.Ext.get hE5 gq
  try simp [-Fx.alloc_def, -Fx.blt_lstT, gq, gr]
  have hcl := cut_len (ns.map PV.int) (some 1) none
  rw [List.length_map] at hcl
  try simp [-Fx.alloc_def, -Fx.blt_lstT, show 3 + (cutP (ns.map PV.int) (some 1) none).length ≤ 16777216 by omega]
  refine sat_al fun t h6 hE6 gt ht => ?_
  replace g0 := Fx.Ext.get hE6 g0; replace ga := Fx.Ext.get hE6 ga; replace gp := Fx.Ext.get hE6 gp
  try simp [-Fx.alloc_def, -Fx.blt_lstT, gt]
  refine sat_live (l := [.int 0, .int 1, .int 2] ++ cutP (ns.map PV.int) (some 1) none) (fun i σ h => Ext h6 h ∧ ∃ x4 x5 x6 x7 x8 x9 x10, σ = [some (.ref 0), some (.ref a), some (.ref b), some (.ref p), x4, x5, x6, x7, x8, x9, x10, none, none, none]) ⟨Ext.refl _, _, _, _, _, _, _, _, rfl⟩ (fun i σ h ⟨x, _⟩ => seqOf_lst (x.get gt)) (fun i x σ h hx ⟨hE, x4, x5, x6, x7, x8, x9, x10, hs⟩ => ?_) (fun σ h ⟨hE, x4, x5, x6, x7, x8, x9, x10, hs⟩ => ?_) (by simp)
  · subst hs
    obtain ⟨c, rfl⟩ : ∃ c : Int, x = .int c := by
      rcases List.mem_append.mp (List.mem_of_getElem? hx) with hx | hx
      · simp at hx
        rcases hx with rfl | rfl | rfl <;> exact ⟨_, rfl⟩
      · obtain ⟨c, _, rfl⟩ := mem_ints (cut_mem hx)
        exact ⟨c, rfl⟩
    simp only [forB_name, List.set]
    refine turn 30 ho hrl c _ _ _ _ _ _ _ _ _ _ _ (hE.get ga) (hE.get gp) fun h' y5 y6 y7 y8 y9 y10 hE' => ?_
    exact ⟨hE.trans hE', _, _, _, _, _, _, _, rfl⟩
  · subst hs
    replace ga := Fx.Ext.get hE ga; replace gp := Fx.Ext.get hE gp
    clear hE
    have in40 : inR 40 = true := by decide
    have in30 : inR 30 = true := by decide
    try simp [-Fx.alloc_def, -Fx.blt_lstT, in40]
    refine sat_comp (fun i acc h' => Ext h h' ∧ acc = List.replicate i manyR.v) (fun i acc h' _ => rfl) (fun i acc h' ⟨_, e⟩ => by rw [e]; simp) (fun i x acc h' hx ⟨hE, e⟩ => ?_) (fun acc h' ⟨hE, e⟩ => ?_) (by decide) _ _ _ _ (by decide) ⟨Ext.refl h, rfl⟩
    · subst e
      unfold cBody
      try simp [-Fx.alloc_def, -Fx.blt_lstT, e_law_C2, in30]
      refine sat_of (const_loop 30 30 rfl rfl (by decide) _ _) ?_
      try simp [-Fx.alloc_def, -Fx.blt_lstT]
      refine sat_al fun u h'' hE' gu hu => ?_
      try simp [-Fx.alloc_def, -Fx.blt_lstT, gu]
      refine ⟨hE.trans hE', ?_⟩
      rw [List.replicate_succ']
      rfl
    · subst e
      replace ga := Fx.Ext.get hE ga; replace gp := Fx.Ext.get hE gp
      clear hE
      try simp [-Fx.alloc_def, -Fx.blt_lstT]
      refine sat_al fun m h7 hE7 gm hm => ?_
      try simp [-Fx.alloc_def, -Fx.blt_lstT]
      obtain ⟨M, hM⟩ : ∃ M, M = List.replicate 40 manyR := ⟨_, rfl⟩
      obtain ⟨L, hL⟩ : ∃ L : List Int, L = List.replicate 30 1 := ⟨_, rfl⟩
      have mo : ∀ r ∈ M, r.Ok := fun r hr => by rw [hM] at hr; rw [List.eq_of_mem_replicate hr]; exact many_ok
      have ml : M.length = 40 := by rw [hM]; simp
      have lL : L.length = 30 := by rw [hL]; simp
      have em : ∀ n, List.replicate n manyR.v = (List.replicate n manyR).map Rl.v := fun n => by simp
      replace gm : h7.get m = some (.lst (M.map Rl.v)) := by rw [gm, hM, ← em]; rfl
      refine prog_spec 33 (seqOf_lst gm) mo (by omega) fun p2 h8 hE8 hp2 gp2 => ?_
      replace gm := Fx.Ext.get hE8 gm
      try simp [-Fx.alloc_def, -Fx.blt_lstT, gp2, mt20]
      refine read_spec 37 mo gp2 _ _ fun h9 t ht hE9 gt => ?_
      replace gm := Fx.Ext.get hE9 gm
      have e1 : readF 0 1 M = (9, L) := by rw [hM, hL]; decide +kernel
      have cl : ∀ σ h, loopC (cBody [13] (.name 13) (evt D.pg (run D.pg 39) (run D.pg 38) .none) (ev D.pg (run D.pg 39) (run D.pg 38) e_law_C3) σ) (.vals (rngV 0 30)) 30 0 [] h = .ok (L.map .int) h := by
        rw [hL]
        exact fun σ h => const_loop (e := e_law_C3) (i := 1) 30 30 rfl rfl (by decide) σ h
      have mx : M[0]? = some manyR := by rw [hM]; rfl
      clear hM hL em
      rw [e1] at gt
      try simp [-Fx.alloc_def, -Fx.blt_lstT, e1, in30, cl]
      with_reducible refine Fx.sat_al ?_; intro u h10 hE10 gu hu
      replace gm := Fx.Ext.get hE10 gm; replace gt := Fx.Ext.get hE10 gt
      try simp [-Fx.alloc_def, -Fx.blt_lstT]
      rw [show (39 : Nat) = 35 + 4 from rfl, same_told 35 (i := 9) (l := L) gt gu (by omega)]
      try simp [-Fx.alloc_def, -Fx.blt_lstT]
      with_reducible refine Fx.sat_al ?_; intro v h11 hE11 gv hv
      replace gm := Fx.Ext.get hE11 gm
      try simp [-Fx.alloc_def, -Fx.blt_lstT]
      have r1 : Rl.Ok ⟨9, some 255, 9, [0, 255, 256]⟩ := ⟨by decide, (fun c e => by cases e; decide), by decide, by decide, by decide⟩
      have r2 : Rl.Ok ⟨9, some 0, 8, []⟩ := ⟨by decide, (fun c e => by cases e; decide), by decide, by decide, by decide⟩
      have ro : ∀ r ∈ [(⟨9, some 255, 9, [0, 255, 256]⟩ : Rl), ⟨9, some 0, 8, []⟩], r.Ok := fun r hr => by
        simp at hr
        rcases hr with rfl | rfl
        · exact r1
        · exact r2
      refine prog_spec 33 (rs := [(⟨9, some 255, 9, [0, 255, 256]⟩ : Rl), ⟨9, some 0, 8, []⟩]) (seqOf_lst gv) ro (by decide) fun p3 h12 hE12 hp3 gp3 => ?_
      replace gm := Fx.Ext.get hE12 gm
      clear gv gp2 gt gu
      try simp [-Fx.alloc_def, -Fx.blt_lstT, gp3, mt20]
      refine read_spec 37 ro gp3 _ _ fun h13 a1 ha1 hE13 g1 => ?_
      replace gm := Fx.Ext.get hE13 gm; replace gp3 := Fx.Ext.get hE13 gp3
      have f1 : readF 9 255 [(⟨9, some 255, 9, [0, 255, 256]⟩ : Rl), ⟨9, some 0, 8, []⟩] = (9, [0, 255, 255]) := by decide +kernel
      have f2 : readF 9 0 [(⟨9, some 255, 9, [0, 255, 256]⟩ : Rl), ⟨9, some 0, 8, []⟩] = (8, []) := by decide +kernel
      have f3 : readF 8 1 [(⟨9, some 255, 9, [0, 255, 256]⟩ : Rl), ⟨9, some 0, 8, []⟩] = (8, []) := by decide +kernel
      rw [f1] at g1
      try simp [-Fx.alloc_def, -Fx.blt_lstT, gp3, mt20, f1]
      refine read_spec 37 ro gp3 _ _ fun h14 a2 ha2 hE14 g2 => ?_
      rw [f2] at g2
      replace gm := Fx.Ext.get hE14 gm; replace gp3 := Fx.Ext.get hE14 gp3; replace g1 := Fx.Ext.get hE14 g1
      try simp [-Fx.alloc_def, -Fx.blt_lstT, gp3, mt20, f2]
      refine read_spec 37 ro gp3 _ _ fun h15 a3 ha3 hE15 g3 => ?_
      rw [f3] at g3
      replace gm := Fx.Ext.get hE15 gm; replace g1 := Fx.Ext.get hE15 g1; replace g2 := Fx.Ext.get hE15 g2
      try simp [-Fx.alloc_def, -Fx.blt_lstT, f3]
      with_reducible refine Fx.sat_al ?_; intro b0 h16 hE16 gb0 _hb
      replace gm := Fx.Ext.get hE16 gm; replace g1 := Fx.Ext.get hE16 g1; replace g2 := Fx.Ext.get hE16 g2; replace g3 := Fx.Ext.get hE16 g3
      try simp [-Fx.alloc_def, -Fx.blt_lstT]
      with_reducible refine Fx.sat_al ?_; intro b1 h17 hE17 gb1 _hb
      replace gm := Fx.Ext.get hE17 gm; replace g1 := Fx.Ext.get hE17 g1; replace g2 := Fx.Ext.get hE17 g2; replace g3 := Fx.Ext.get hE17 g3; replace gb0 := Fx.Ext.get hE17 gb0
      try simp [-Fx.alloc_def, -Fx.blt_lstT]
      with_reducible refine Fx.sat_al ?_; intro b2 h18 hE18 gb2 _hb
      replace gm := Fx.Ext.get hE18 gm; replace g1 := Fx.Ext.get hE18 g1; replace g2 := Fx.Ext.get hE18 g2; replace g3 := Fx.Ext.get hE18 g3; replace gb0 := Fx.Ext.get hE18 gb0; replace gb1 := Fx.Ext.get hE18 gb1
      try simp [-Fx.alloc_def, -Fx.blt_lstT]
      with_reducible refine Fx.sat_al ?_; intro b3 h19 hE19 gb3 _hb
      replace gm := Fx.Ext.get hE19 gm; replace g1 := Fx.Ext.get hE19 g1; replace g2 := Fx.Ext.get hE19 g2; replace g3 := Fx.Ext.get hE19 g3; replace gb0 := Fx.Ext.get hE19 gb0; replace gb1 := Fx.Ext.get hE19 gb1; replace gb2 := Fx.Ext.get hE19 gb2
      try simp [-Fx.alloc_def, -Fx.blt_lstT]
      with_reducible refine Fx.sat_al ?_; intro b4 h20 hE20 gb4 _hb
      replace gm := Fx.Ext.get hE20 gm; replace g1 := Fx.Ext.get hE20 g1; replace g2 := Fx.Ext.get hE20 g2; replace g3 := Fx.Ext.get hE20 g3; replace gb0 := Fx.Ext.get hE20 gb0; replace gb1 := Fx.Ext.get hE20 gb1; replace gb2 := Fx.Ext.get hE20 gb2; replace gb3 := Fx.Ext.get hE20 gb3
      try simp [-Fx.alloc_def, -Fx.blt_lstT]
      have s3 : Sm h20 3 (.ref b0) (.ref b4) := by
        refine .lst gb0 gb4 rfl (by simp) fun j x y e1 e2 => ?_
        match j, e1, e2 with
        | 0, e1, e2 => cases e1; cases e2; exact sm_told (l := [0, 255, 255]) g1 gb1 (by decide)
        | 1, e1, e2 => cases e1; cases e2; exact sm_told (l := []) g2 gb2 (by decide)
        | 2, e1, e2 => cases e1; cases e2; exact sm_told (l := []) g3 gb3 (by decide)
      have st := same_spec fn6 s3 34
      rw [show 34 + 3 + 2 = 39 by omega] at st
      rw [st]
      clear g1 g2 g3 gb0 gb1 gb2 gb3 gb4 s3 st gp3
      try simp [-Fx.alloc_def, -Fx.blt_lstT, gm]
      with_reducible refine Fx.sat_al ?_; intro b5 h21 hE21 gb5 _hb
      replace gm := Fx.Ext.get hE21 gm
      have c1 := cut_to (M.map Rl.v) (b := 1) (by rw [List.length_map]; omega)
      have cl1 : (cutP (M.map Rl.v) none (some 1)).length = 1 := by
        rw [show (some 1 : Option Int) = some ((1 : Nat) : Int) from rfl, c1, List.length_take, List.length_map]; omega
      try simp [-Fx.alloc_def, -Fx.blt_lstT, gm, gb5, ml, cl1]
      with_reducible refine Fx.sat_al ?_; intro b6 h22 hE22 gb6 _hb
      try simp [-Fx.alloc_def, -Fx.blt_lstT, gb6]
      refine refused_spec 32 (seqOf_tup _ _) (fun x hx => ?_) (fun hz => ?_) fun h23 hE23 => ?_
      · rcases List.mem_append.mp hx with hx | hx
        · obtain ⟨r, _, rfl⟩ := List.mem_map.mp hx; exact r.lf _
        · obtain ⟨r, _, rfl⟩ := List.mem_map.mp (cut_mem hx); exact r.lf _
      · replace hz := hz.1
        rw [List.length_append, cl1, List.length_map, ml] at hz
        omega
      · try simp [-Fx.alloc_def, -Fx.blt_lstT]
        with_reducible refine Fx.sat_al ?_; intro b7 h24 hE24 gb7 _hb
        try simp [-Fx.alloc_def, -Fx.blt_lstT]
        refine prog_spec 33 (rs := []) (seqOf_lst gb7) (fun r hr => by cases hr) (by decide) fun p4 h25 hE25 hp4 gp4 => ?_
        try simp [-Fx.alloc_def, -Fx.blt_lstT, gp4, mt20]
        refine read_spec 37 (rs := []) (fun r hr => by cases hr) gp4 _ _ fun h26 a4 ha4 hE26 g4 => ?_
        try simp [-Fx.alloc_def, -Fx.blt_lstT]
        with_reducible refine Fx.sat_al ?_; intro b8 h27 hE27 gb8 _hb
        replace g4 := Fx.Ext.get hE27 g4
        have st := same_told 35 (i := 9) (l := []) g4 gb8 (by decide)
        rw [show 35 + 4 = 39 by omega] at st
        have rn : (readF 9 255 []).1 = 9 := rfl
        try simp [-Fx.alloc_def, -Fx.blt_lstT, rn]
        rw [st]
        simp
end Lw

theorem PySem.Challenge.cw_fardesk_k74_programs_read_holds : PySem.Challenge.rw_fardesk_k74_programs_read.Holds :=
  Lw.head Lw.law_ok
